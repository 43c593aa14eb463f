import PyProof.Rows.All
import Wide.All
import OpenK.AllK
import Wide.FinOn
import HandS.ForMost
import HandS.Deep
import HandS.TupAny
import HandS.TupMul
import HandS.Gcd
import HandS.Star
import HandS.Flow
import PyProof.Conv_int
import PyProof.Conv_int_bool
import HandS.Zip
import HandS.Defaults
import HandS.ForExc
import HandS.Head0
import HandS.Head1
import HandS.Head2
import HandS.HeadEnd
import HandS.HeadHook1
import HandS.HeadHook2
import HandS.Conv
import HandS.Sort
import HandS.Small
import PyProof.Rows.SortWalk
import KE.SortData
import KE.DataEq
import PyProof.ReprRoads
import PyProof.CallFns
import HandS.EndBits
import HandS.Zip0
import HandS.MapObj
import HandS.ListItems
import HandS.Words
import PySem.Challenge.RW_wholebest_k80_states_and_steps_with_reas
set_option Elab.async false
set_option linter.all false
set_option maxRecDepth 100000
set_option maxHeartbeats 2000000
namespace DL
open PySem PySem.Spec L2

abbrev D := PyData
/-- one heap lies in another one -/
def Le (F H : Hp) : Prop := ∀ a o, F a = some o → H a = some o
theorem Le.refl (H : Hp) : Le H H := fun _ _ h => h
theorem Le.trans {F G H : Hp} (a : Le F G) (b : Le G H) : Le F H := fun x o h => b x o (a x o h)
/-- the heap has grown, and so has its frozen part, by what is new -/
structure Gr (F H F' H' : Hp) : Prop where
  f : Le F F'
  h : Le H H'
  s : Le F' H'
  g : ∀ a, F a = none → H a ≠ none → F' a = none
theorem Gr.refl {F H : Hp} (l : Le F H) : Gr F H F H := ⟨Le.refl _, Le.refl _, l, fun _ h _ => h⟩
theorem Gr.trans {F H F1 H1 F2 H2 : Hp} (a : Gr F H F1 H1) (b : Gr F1 H1 F2 H2) : Gr F H F2 H2 :=
  ⟨a.f.trans b.f, a.h.trans b.h, b.s, fun x h1 h2 => b.g x (a.g x h1 h2) (by
    cases e : H x with
    | none => exact absurd e h2
    | some o => rw [a.h x o e]; exact fun z => nomatch z)⟩
theorem free_of {H H' : Hp} (l : Le H H') {p : Addr} (h : H' p = none) : H p = none := by
  cases e : H p with
  | none => rfl
  | some o => rw [l p o e] at h; cases h
theorem Le.up {F H : Hp} (l : Le F H) {p : Addr} {o : HO} (h : H p = none) : Le F (upd H p o) := fun a u e => by
  rw [upd_ne (ne_of_none (l a u e) h)]; exact l a u e
theorem Le.up2 {F H : Hp} (l : Le F H) {p : Addr} {o : HO} (h : H p = none) : Le (upd F p o) (upd H p o) := fun a u e => by
  by_cases q : a = p
  · subst q; rw [upd_same] at e ⊢; exact e
  · rw [upd_ne q] at e ⊢; exact l a u e
theorem Le.new {H : Hp} {p : Addr} {o : HO} (h : H p = none) : Le H (upd H p o) := (Le.refl H).up h
/-- a new object, frozen at once -/
theorem Gr.frz {F H : Hp} (l : Le F H) {p : Addr} {o : HO} (h : H p = none) : Gr F H (upd F p o) (upd H p o) :=
  ⟨Le.new (free_of l h), Le.new h, l.up2 h, fun a h1 h2 => by
    have q : a ≠ p := fun e => h2 (by rw [e]; exact h)
    rw [upd_ne q]; exact h1⟩
/-- a new object, not frozen -/
theorem Gr.lay {F H : Hp} (l : Le F H) {p : Addr} {o : HO} (h : H p = none) : Gr F H F (upd H p o) :=
  ⟨Le.refl F, Le.new h, l.up h, fun a h1 _ => h1⟩
/-- a thing that is new since H0 is frozen -/
theorem Gr.ice {F0 H0 F H : Hp} (g : Gr F0 H0 F H) {p : Addr} {o : HO} (h0 : H0 p = none) (hf : F p = none) (h : H p = some o) : Gr F0 H0 (upd F p o) H :=
  ⟨g.f.up hf, g.h, fun a u e => by
    by_cases q : a = p
    · subst q; rw [upd_same] at e; rw [h, ← e]
    · rw [upd_ne q] at e; exact g.s a u e, fun a h1 h2 => by
    have q : a ≠ p := fun e => h2 (by rw [e]; exact h0)
    rw [upd_ne q]; exact g.g a h1 h2⟩

/-! ### what stands for data -/
mutual
inductive Rp (F : Hp) : V → D → Prop
  | non : Rp F .non .none
  | bl (b : Bool) : Rp F (.bl b) (.bool b)
  | int (i : Int) : Rp F (.int i) (.int i)
  | str (x : Str) : Rp F (.str x) (.str x)
  | lst {a : Addr} {xs : List V} {ds : List D} : F a = some (.lst xs) → RpAll F xs ds → Rp F (.ref a) (.list ds)
  | tup {a : Addr} {xs : List V} {ds : List D} : F a = some (.tup xs) → RpAll F xs ds → Rp F (.ref a) (.tuple ds)
inductive RpAll (F : Hp) : List V → List D → Prop
  | nil : RpAll F [] []
  | cons {v : V} {vs : List V} {d : D} {ds : List D} : Rp F v d → RpAll F vs ds → RpAll F (v :: vs) (d :: ds)
end
mutual
theorem Rp.mono {F F' : Hp} (l : Le F F') : ∀ {v : V} {d : D}, Rp F v d → Rp F' v d
  | _, _, .non => .non
  | _, _, .bl b => .bl b
  | _, _, .int i => .int i
  | _, _, .str x => .str x
  | _, _, .lst h r => .lst (l _ _ h) (RpAll.mono l r)
  | _, _, .tup h r => .tup (l _ _ h) (RpAll.mono l r)
theorem RpAll.mono {F F' : Hp} (l : Le F F') : ∀ {vs : List V} {ds : List D}, RpAll F vs ds → RpAll F' vs ds
  | _, _, .nil => .nil
  | _, _, .cons h r => .cons (Rp.mono l h) (RpAll.mono l r)
end
mutual
theorem Rp.dp {K : PySem.W.Frag} {F H : Hp} (l : Le F H) : ∀ {v : V} {d : D}, Rp F v d → Dp K H v d
  | _, _, .non => .non
  | _, _, .bl b => .bl b
  | _, _, .int i => .int i
  | _, _, .str x => .str x
  | _, _, .lst h r => .lst (SqL.of (l _ _ h)) (RpAll.dp l r)
  | _, _, .tup h r => .tup (SqT.of (l _ _ h)) (RpAll.dp l r)
theorem RpAll.dp {K : PySem.W.Frag} {F H : Hp} (l : Le F H) : ∀ {vs : List V} {ds : List D}, RpAll F vs ds → DpAll K H vs ds
  | _, _, .nil => .nil
  | _, _, .cons h r => .cons (Rp.dp l h) (RpAll.dp l r)
end
theorem RpAll.length {F : Hp} : ∀ {vs : List V} {ds : List D}, RpAll F vs ds → vs.length = ds.length
  | _, _, .nil => rfl
  | _, _, .cons _ r => by simp [RpAll.length r]
theorem RpAll.get {F : Hp} : ∀ {vs : List V} {ds : List D} {i : Nat} {d : D}, RpAll F vs ds → ds[i]? = some d → ∃ v, vs[i]? = some v ∧ Rp F v d
  | _, _, _, _, .nil, e => by simp at e
  | _, _, 0, _, .cons h _, e => by simp at e; subst e; exact ⟨_, rfl, h⟩
  | _, _, i + 1, _, .cons _ r, e => by
    obtain ⟨v, h1, h2⟩ := RpAll.get (i := i) r (by simpa using e)
    exact ⟨v, by simpa using h1, h2⟩
theorem RpAll.getV {F : Hp} : ∀ {vs : List V} {ds : List D} {i : Nat} {v : V}, RpAll F vs ds → vs[i]? = some v → ∃ d, ds[i]? = some d ∧ Rp F v d
  | _, _, _, _, .nil, e => by simp at e
  | _, _, 0, _, .cons h _, e => by simp at e; subst e; exact ⟨_, rfl, h⟩
  | _, _, i + 1, _, .cons _ r, e => by
    obtain ⟨v, h1, h2⟩ := RpAll.getV (i := i) r (by simpa using e)
    exact ⟨v, by simpa using h1, h2⟩
theorem RpAll.append {F : Hp} : ∀ {vs ws : List V} {ds es : List D}, RpAll F vs ds → RpAll F ws es → RpAll F (vs ++ ws) (ds ++ es)
  | _, _, _, _, .nil, s => s
  | _, _, _, _, .cons h r, s => .cons h (RpAll.append r s)
theorem RpAll.take {F : Hp} : ∀ {vs : List V} {ds : List D} (n : Nat), RpAll F vs ds → RpAll F (vs.take n) (ds.take n)
  | _, _, 0, _ => .nil
  | _, _, _ + 1, .nil => .nil
  | _, _, n + 1, .cons h r => .cons h (RpAll.take n r)
theorem RpAll.drop {F : Hp} : ∀ {vs : List V} {ds : List D} (n : Nat), RpAll F vs ds → RpAll F (vs.drop n) (ds.drop n)
  | _, _, 0, r => r
  | _, _, _ + 1, .nil => .nil
  | _, _, n + 1, .cons _ r => RpAll.drop n r
theorem RpAll.set {F : Hp} {v : V} {d : D} (q : Rp F v d) : ∀ {vs : List V} {ds : List D} (n : Nat), RpAll F vs ds → RpAll F (vs.set n v) (ds.set n d)
  | _, _, _, .nil => .nil
  | _, _, 0, .cons _ r => .cons q r
  | _, _, n + 1, .cons h r => .cons h (RpAll.set q n r)
theorem RpAll.ints {F : Hp} : ∀ {ns : List Int}, RpAll F (ns.map V.int) (ns.map PyData.int)
  | [] => .nil
  | n :: ns => .cons (.int n) RpAll.ints
theorem RpAll.ints_inv {F : Hp} : ∀ {ns : List Int} {vs : List V}, RpAll F vs (ns.map PyData.int) → vs = ns.map V.int
  | [], _, r => by cases r; rfl
  | n :: ns, _, r => by
    have r' : RpAll F _ (PyData.int n :: ns.map PyData.int) := r
    cases r' with
    | cons h t => cases h; rw [RpAll.ints_inv t]; rfl

/-! ### a def's slots -/
inductive Sl where
  | un
  | fr (d : D)
  | ow (xs : List D)
  | dk (kvs : List (Int × D))
  /-- the law's script: ints, read alone -/
  | sc (K : PySem.W.Frag) (ns : List Int)
  /-- a range -/
  | rg (lo hi : Int)
abbrev Rho := List Sl
def KvR (F : Hp) : List (Key × V) → List (Int × D) → Prop := Paired fun p q => p.1 = Sum.inl q.1 ∧ Rp F p.2 q.2
theorem KvR.mono {F F' : Hp} (l : Le F F') : ∀ {vs : List (Key × V)} {ds : List (Int × D)}, KvR F vs ds → KvR F' vs ds
  | _, _, .nil => .nil
  | _, _, .cons h r => .cons ⟨h.1, h.2.mono l⟩ (KvR.mono l r)
def Sl.own : Sl → Bool
  | .ow _ => true
  | .dk _ => true
  | _ => false
theorem sqL_le {K : PySem.W.Frag} {F F' : Hp} {a : Addr} {xs : List V} (l : Le F F') (h : SqL K F a xs) : SqL K F' a xs := by
  rcases h with (h | ⟨o, h⟩) | h
  · exact .inl (.inl (l _ _ h))
  · exact .inl (.inr ⟨o, l _ _ h⟩)
  · exact .inr h
def SlR (F H : Hp) : Option V → Sl → Prop
  | o, .un => True
  | o, .fr d => ∃ v, o = some v ∧ Rp F v d
  | o, .ow xs => ∃ a vs, o = some (.ref a) ∧ F a = none ∧ H a = some (.lst vs) ∧ RpAll F vs xs
  | o, .dk kvs => ∃ a vs, o = some (.ref a) ∧ F a = none ∧ H a = some (.dK vs) ∧ KvR F vs kvs
  | o, .sc K ns => ∃ a, o = some (.ref a) ∧ SqL K F a (ns.map V.int)
  | o, .rg lo hi => ∃ a, o = some (.ref a) ∧ F a = some (.rng lo hi)
theorem SlR.gr {F H F' H' : Hp} (g : Gr F H F' H') {o : Option V} {s : Sl} (r : SlR F H o s) : SlR F' H' o s := by
  cases s with
  | un => trivial
  | fr d => obtain ⟨v, e, r⟩ := r; exact ⟨v, e, r.mono g.f⟩
  | ow xs => obtain ⟨a, vs, e, f, h, r⟩ := r; exact ⟨a, vs, e, g.g a f (by rw [h]; exact fun z => nomatch z), g.h _ _ h, r.mono g.f⟩
  | dk kvs => obtain ⟨a, vs, e, f, h, r⟩ := r; exact ⟨a, vs, e, g.g a f (by rw [h]; exact fun z => nomatch z), g.h _ _ h, r.mono g.f⟩
  | sc K ns => obtain ⟨a, e, r⟩ := r; exact ⟨a, e, sqL_le g.f r⟩
  | rg lo hi => obtain ⟨a, e, r⟩ := r; exact ⟨a, e, g.f _ _ r⟩
structure EnvR (F H : Hp) (σ : St) (ρ : Rho) : Prop where
  le : Le F H
  sl : ∀ (i : Nat) (s : Sl), ρ[i]? = some s → ∃ o, σ[i]? = some o ∧ SlR F H o s
  ap : ∀ (i j : Nat) (a : Addr) (s t : Sl), ρ[i]? = some s → ρ[j]? = some t → s.own = true → t.own = true → σ[i]? = some (some (.ref a)) → σ[j]? = some (some (.ref a)) → i = j
theorem EnvR.gr {F H F' H' : Hp} {σ : St} {ρ : Rho} (E : EnvR F H σ ρ) (g : Gr F H F' H') : EnvR F' H' σ ρ :=
  ⟨g.s, fun i s e => let ⟨o, h, r⟩ := E.sl i s e; ⟨o, h, r.gr g⟩, E.ap⟩
/-- a name gets frozen data -/
theorem EnvR.set {F H : Hp} {σ : St} {ρ : Rho} (E : EnvR F H σ ρ) (i : Nat) {v : V} {d : D} (r : Rp F v d) : EnvR F H (σ.set i (some v)) (ρ.set i (.fr d)) := by
  refine ⟨E.le, fun j s e => ?_, fun j k a s t e1 e2 o1 o2 h1 h2 => ?_⟩
  · by_cases q : i = j
    · subst q
      by_cases l : i < ρ.length
      · rw [List.getElem?_set_self l] at e
        obtain ⟨o, h, _⟩ := E.sl i ρ[i] (List.getElem?_eq_getElem l)
        cases e
        exact ⟨some v, List.getElem?_set_self (List.getElem?_eq_some_iff.mp h).1, v, rfl, r⟩
      · rw [List.getElem?_eq_none (by simpa using l)] at e; cases e
    · rw [List.getElem?_set_ne q] at e ⊢
      exact E.sl j s e
  · have go : ∀ j s, (ρ.set i (.fr d))[j]? = some s → s.own = true → i ≠ j ∧ ρ[j]? = some s := fun j s e o => by
      by_cases q : i = j
      · subst q
        by_cases l : i < ρ.length
        · rw [List.getElem?_set_self l] at e; cases e; cases o
        · rw [List.getElem?_eq_none (by simpa using l)] at e; cases e
      · rw [List.getElem?_set_ne q] at e; exact ⟨q, e⟩
    obtain ⟨n1, e1⟩ := go j s e1 o1
    obtain ⟨n2, e2⟩ := go k t e2 o2
    rw [List.getElem?_set_ne n1] at h1
    rw [List.getElem?_set_ne n2] at h2
    exact E.ap j k a s t e1 e2 o1 o2 h1 h2
/-- a name gets a new list of its own -/
theorem EnvR.setOwn {F H : Hp} {σ : St} {ρ : Rho} (E : EnvR F H σ ρ) (i : Nat) {p : Addr} {s0 : Sl} (ho : SlR F H (some (.ref p)) s0) (hn : ∀ j s, ρ[j]? = some s → s.own = true → j ≠ i → σ[j]? ≠ some (some (.ref p))) : EnvR F H (σ.set i (some (.ref p))) (ρ.set i s0) := by
  refine ⟨E.le, fun j s e => ?_, fun j k a s t e1 e2 o1 o2 h1 h2 => ?_⟩
  · by_cases q : i = j
    · subst q
      by_cases l : i < ρ.length
      · rw [List.getElem?_set_self l] at e
        obtain ⟨o, h, _⟩ := E.sl i ρ[i] (List.getElem?_eq_getElem l)
        cases e
        exact ⟨_, List.getElem?_set_self (List.getElem?_eq_some_iff.mp h).1, ho⟩
      · rw [List.getElem?_eq_none (by simpa using l)] at e; cases e
    · rw [List.getElem?_set_ne q] at e ⊢
      exact E.sl j s e
  · by_cases q1 : i = j
    · by_cases q2 : i = k
      · exact q1.symm.trans q2
      · subst q1
        rw [List.getElem?_set_ne q2] at e2 h2
        by_cases l : i < σ.length
        · rw [List.getElem?_set_self l] at h1
          cases h1
          exact absurd h2 (hn k t e2 o2 (Ne.symm q2))
        · rw [List.getElem?_eq_none (by simpa using l)] at h1; cases h1
    · rw [List.getElem?_set_ne q1] at e1 h1
      by_cases q2 : i = k
      · subst q2
        by_cases l : i < σ.length
        · rw [List.getElem?_set_self l] at h2
          cases h2
          exact absurd h1 (hn j s e1 o1 (Ne.symm q1))
        · rw [List.getElem?_eq_none (by simpa using l)] at h2; cases h2
      · rw [List.getElem?_set_ne q2] at e2 h2
        exact E.ap j k a s t e1 e2 o1 o2 h1 h2
theorem EnvR.own_at {F H : Hp} {σ : St} {ρ : Rho} (E : EnvR F H σ ρ) {j : Nat} {s : Sl} (e : ρ[j]? = some s) (o : s.own = true) {p : Addr} (h : σ[j]? = some (some (.ref p))) : F p = none ∧ H p ≠ none := by
  obtain ⟨w, hw, r⟩ := E.sl j s e
  rw [h] at hw; cases hw
  cases s with
  | un => cases o
  | fr d => cases o
  | ow xs => obtain ⟨a, vs, q, f, z, _⟩ := r; cases q; exact ⟨f, by rw [z]; exact fun z => nomatch z⟩
  | dk xs => obtain ⟨a, vs, q, f, z, _⟩ := r; cases q; exact ⟨f, by rw [z]; exact fun z => nomatch z⟩
  | sc K ns => cases o
  | rg lo hi => cases o

/-! ### another reading -/
theorem _root_.L2.PE.w {X : Cx} {e : Expr} {t t' : TE} (h : PE X e t) (w : ∀ σ H Q, t' σ H Q → t σ H Q) : PE X e t' := ⟨fun pins s σ H Q I q => h.run pins s σ H Q I (w σ H Q q)⟩
theorem _root_.L2.PT.w {X : Cx} {e : Expr} {t t' : TT} (h : PT X e t) (w : ∀ σ H Q, t' σ H Q → t σ H Q) : PT X e t' := ⟨fun pins s σ H Q I q => h.run pins s σ H Q I (w σ H Q q)⟩
theorem _root_.L2.PA.w {X : Cx} {e : List Expr} {t t' : TA} (h : PA X e t) (w : ∀ σ H Q, t' σ H Q → t σ H Q) : PA X e t' := ⟨fun pos pins s σ H Q I q => h.run pos pins s σ H Q I (w σ H Q q)⟩
theorem _root_.L2.PS.w {X : Cx} {e : Stmt} {t t' : TS} (h : PS X e t) (w : ∀ D σ H, t' D σ H → t D σ H) : PS X e t' := ⟨fun pins s σ H D I q => h.run pins s σ H D I (w D σ H q)⟩
theorem _root_.L2.PSs.w {X : Cx} {e : List Stmt} {t t' : TS} (h : PSs X e t) (w : ∀ D σ H, t' D σ H → t D σ H) : PSs X e t' := ⟨fun pins s σ H D I q => h.run pins s σ H D I (w D σ H q)⟩
theorem _root_.L2.PG.w {X : Cx} {e : Expr} {t t' : TG} (h : PG X e t) (w : ∀ v σ H Q, t' v σ H Q → t v σ H Q) : PG X e t' := ⟨fun pins s σ H v u Q I r q => h.run pins s σ H v u Q I r (w v σ H Q q)⟩
theorem _root_.L2.PI.w {X : Cx} {tg e : Expr} {t t' : TI} (h : PI X tg e t) (w : ∀ σ H Q, t' σ H Q → t σ H Q) : PI X tg e t' := ⟨fun pins s σ H Q I q => h.run pins s σ H Q I (w σ H Q q)⟩

/-! ### what an expression gives -/
/-- frozen data -/
def tE (f : Rho → Option D) : TE := fun σ H Q => ∃ F ρ d, EnvR F H σ ρ ∧ f ρ = some d ∧ ∀ v F' H', Gr F H F' H' → Rp F' v d → Q v H'
/-- a list, frozen or a name's own -/
def tL (f : Rho → Option (List D)) : TE := fun σ H Q => ∃ F ρ xs, EnvR F H σ ρ ∧ f ρ = some xs ∧ ∀ a vs F' H', Gr F H F' H' → H' a = some (.lst vs) → RpAll F' vs xs → Q (.ref a) H'
/-- a value: frozen data, or a new list of its own -/
inductive Rv where
  | fr (d : D)
  | ow (xs : List D)
  /-- a tuple whose first item is a new list of its own -/
  | tp (xs ds : List D)
@[simp] def Rv.data : Rv → D
  | .fr d => d
  | .ow xs => .list xs
  | .tp xs ds => .tuple (.list xs :: ds)
/-- v is r, new since H -/
def RvR (H F' H' : Hp) (v : V) : Rv → Prop
  | .fr d => Rp F' v d
  | .ow xs => ∃ a vs, v = .ref a ∧ H a = none ∧ F' a = none ∧ H' a = some (.lst vs) ∧ RpAll F' vs xs
  | .tp xs ds => ∃ p a vs ws, v = .ref p ∧ H a = none ∧ F' a = none ∧ H' a = some (.lst vs) ∧ RpAll F' vs xs ∧ H p = none ∧ F' p = none ∧ H' p = some (.tup (.ref a :: ws)) ∧ RpAll F' ws ds
def tR (f : Rho → Option Rv) : TE := fun σ H Q => ∃ F ρ r, EnvR F H σ ρ ∧ f ρ = some r ∧ ∀ v F' H', Gr F H F' H' → RvR H F' H' v r → Q v H'
/-- several values, frozen -/
def tA (f : Rho → Option (List D)) : TA := fun σ H Q => ∃ F ρ ds, EnvR F H σ ρ ∧ f ρ = some ds ∧ ∀ vs F' H', Gr F H F' H' → RpAll F' vs ds → Q vs H'
/-- a test -/
def tT (f : Rho → Option Bool) : TT := fun σ H Q => ∃ F ρ b, EnvR F H σ ρ ∧ f ρ = some b ∧ ∀ F' H', Gr F H F' H' → Q b H'
abbrev DE (X : Cx) (e : Expr) (f : Rho → Option D) : Prop := PE X e (tE f)
abbrev DLs (X : Cx) (e : Expr) (f : Rho → Option (List D)) : Prop := PE X e (tL f)
abbrev DR (X : Cx) (e : Expr) (f : Rho → Option Rv) : Prop := PE X e (tR f)
abbrev DA (X : Cx) (e : List Expr) (f : Rho → Option (List D)) : Prop := PA X e (tA f)
abbrev DT (X : Cx) (e : Expr) (f : Rho → Option Bool) : Prop := PT X e (tT f)

section
variable {X : Cx}
theorem bind_some {α β : Type} {x : Option α} {g : α → Option β} {b : β} (h : (x.bind g) = some b) : ∃ a, x = some a ∧ g a = some b := by
  cases x with
  | none => cases h
  | some a => exact ⟨a, rfl, h⟩
/-- a new list, frozen -/
theorem freeze {F H F' H' : Hp} {v : V} {r : Rv} (g : Gr F H F' H') (h : RvR H F' H' v r) : ∃ F'', Gr F H F'' H' ∧ Rp F'' v r.data := by
  cases r with
  | fr d => exact ⟨F', g, h⟩
  | ow xs =>
    obtain ⟨a, vs, rfl, h0, hf, hh, r⟩ := h
    exact ⟨_, g.ice h0 hf hh, .lst upd_same (r.mono (Le.new hf))⟩
  | tp xs ds =>
    obtain ⟨p, a, vs, ws, rfl, h0, hf, hh, r, p0, pf, ph, rs⟩ := h
    have ne : p ≠ a := fun e => by rw [e, hh] at ph; cases ph
    have pf' : upd F' a (.lst vs) p = none := by rw [upd_ne ne]; exact pf
    exact ⟨_, (g.ice h0 hf hh).ice p0 pf' ph, .tup upd_same ((RpAll.cons (.lst upd_same (r.mono (Le.new hf))) (rs.mono (Le.new hf))).mono (Le.new pf'))⟩
@[simp] def kData (f : Rho → Option Rv) (ρ : Rho) : Option D := (f ρ).bind fun r => some r.data
theorem DR.de {e : Expr} {f : Rho → Option Rv} (h : DR X e f) : DE X e (kData f) := h.w fun σ H Q ⟨F, ρ, d, E, ef, q⟩ => by
  obtain ⟨r, e1, e2⟩ := bind_some ef
  refine ⟨F, ρ, r, E, e1, fun v F' H' g rr => ?_⟩
  obtain ⟨F'', g', rp⟩ := freeze g rr
  cases e2
  exact q v F'' H' g' rp
@[simp] def kFr (f : Rho → Option D) (ρ : Rho) : Option Rv := (f ρ).bind fun d => some (.fr d)
theorem DE.dr {e : Expr} {f : Rho → Option D} (h : DE X e f) : DR X e (kFr f) := h.w fun σ H Q ⟨F, ρ, r, E, ef, q⟩ => by
  obtain ⟨d, e1, e2⟩ := bind_some ef
  cases e2
  exact ⟨F, ρ, d, E, e1, fun v F' H' g rp => q v F' H' g rp⟩
@[simp] def asL : D → Option (List D)
  | .list xs => some xs
  | _ => none
@[simp] def kL (f : Rho → Option D) (ρ : Rho) : Option (List D) := (f ρ).bind asL
theorem DE.ls {e : Expr} {f : Rho → Option D} (h : DE X e f) : DLs X e (kL f) := h.w fun σ H Q ⟨F, ρ, xs, E, ef, q⟩ => by
  obtain ⟨d, e1, e2⟩ := bind_some ef
  cases d <;> cases e2
  refine ⟨F, ρ, _, E, e1, fun v F' H' g rp => ?_⟩
  cases rp with
  | lst h1 h2 => exact q _ _ F' H' g (g.s _ _ h1) h2
@[simp] def Rv.list : Rv → Option (List D)
  | .fr (.list xs) => some xs
  | .ow xs => some xs
  | _ => none
@[simp] def kRL (f : Rho → Option Rv) (ρ : Rho) : Option (List D) := (f ρ).bind Rv.list
theorem DR.ls {e : Expr} {f : Rho → Option Rv} (h : DR X e f) : DLs X e (kRL f) := h.w fun σ H Q ⟨F, ρ, xs, E, ef, q⟩ => by
  obtain ⟨d, e1, e2⟩ := bind_some ef
  refine ⟨F, ρ, _, E, e1, fun v F' H' g rp => ?_⟩
  cases d with
  | fr d =>
    cases d <;> cases e2
    cases rp with
    | lst h1 h2 => exact q _ _ F' H' g (g.s _ _ h1) h2
  | ow ys =>
    cases e2
    obtain ⟨a, vs, rfl, h0, hf, hh, r⟩ := rp
    exact q a vs F' H' g hh r
  | tp ys zs => cases e2

/-! ### names, constants -/
@[simp] def gVar (i : Nat) (ρ : Rho) : Option D := match ρ[i]? with
  | some (.fr d) => some d
  | _ => none
theorem DE.var {e : Expr} {i : Nat} (h : PE X e (tVar i)) : DE X e (gVar i) := h.w fun σ H Q ⟨F, ρ, d, E, ef, q⟩ => by
  unfold gVar at ef
  split at ef
  · rename_i d' e1
    cases ef
    obtain ⟨o, e2, v, rfl, r⟩ := E.sl _ _ e1
    exact ⟨v, e2, q v F H (Gr.refl E.le) r⟩
  · cases ef
@[simp] def gLst (i : Nat) (ρ : Rho) : Option (List D) := match ρ[i]? with
  | some (.fr (.list xs)) => some xs
  | some (.ow xs) => some xs
  | _ => none
theorem DLs.var {e : Expr} {i : Nat} (h : PE X e (tVar i)) : DLs X e (gLst i) := h.w fun σ H Q ⟨F, ρ, xs, E, ef, q⟩ => by
  unfold gLst at ef
  split at ef
  · rename_i d' e1
    cases ef
    obtain ⟨o, e2, v, rfl, r⟩ := E.sl _ _ e1
    cases r with
    | lst h1 h2 => exact ⟨_, e2, q _ _ F H (Gr.refl E.le) (E.le _ _ h1) h2⟩
  · rename_i d' e1
    cases ef
    obtain ⟨o, e2, a, vs, rfl, hf, hh, r⟩ := E.sl _ _ e1
    exact ⟨_, e2, q a vs F H (Gr.refl E.le) hh r⟩
  · cases ef
@[simp] def kC (d : D) (_ : Rho) : Option D := some d
theorem DE.c {e : Expr} {v : V} {d : D} (h : PE X e (tC v)) (r : ∀ F, Rp F v d) : DE X e (kC d) := h.w fun σ H Q ⟨F, ρ, d', E, ef, q⟩ => by
  cases ef
  exact q v F H (Gr.refl E.le) (r F)
theorem DE.int {i : Int} {j : Nat} {pos : Pos} : DE X (.Constant (.int i) j pos) (kC (.int i)) := DE.c pe_int fun _ => .int i
theorem DE.bl {b : Bool} {j : Nat} {pos : Pos} : DE X (.Constant (.bool b) j pos) (kC (.bool b)) := DE.c pe_bl fun _ => .bl b
theorem DE.non {j : Nat} {pos : Pos} : DE X (.Constant .none j pos) (kC .none) := DE.c pe_non fun _ => .non
theorem DE.str {x : Str} {j : Nat} {pos : Pos} : DE X (.Constant (.str x) j pos) (kC (.str x)) := DE.c pe_str fun _ => .str x
/-- an int of the module -/
theorem DE.glob {x : Str} {i : Int} {t : Tok} {pos : Pos} (hg : Gl X x) (hm : X.mg x = some (.int i t)) (hd : (x == ("__debug__" : Str)) = false := by decide) : DE X (.Name x pos) (kC (.int i)) := DE.c (pe_glob (v := .int i) hg hm ⟨t, rfl⟩ hd) fun _ => .int i

/-! ### several values -/
@[simp] def kNil (_ : Rho) : Option (List D) := some []
theorem DA.nil : DA X [] kNil := pa_nil.w fun σ H Q ⟨F, ρ, ds, E, ef, q⟩ => by
  cases ef
  exact q [] F H (Gr.refl E.le) .nil
@[simp] def kCons (f : Rho → Option D) (g : Rho → Option (List D)) (ρ : Rho) : Option (List D) := (f ρ).bind fun x => (g ρ).bind fun xs => some (x :: xs)
theorem DA.cons {e : Expr} {es : List Expr} {f : Rho → Option D} {g : Rho → Option (List D)} (h : DE X e f) (t : DA X es g) (hs : starEach (e :: es) X.env = (false, eval e X.env) :: starEach es X.env := by rfl) : DA X (e :: es) (kCons f g) := (pa_cons h t hs).w fun σ H Q ⟨F, ρ, ds, E, ef, q⟩ => by
  obtain ⟨x, e1, ef⟩ := bind_some ef
  obtain ⟨xs, e2, ef⟩ := bind_some ef
  cases ef
  refine ⟨F, ρ, x, E, e1, fun v F1 H1 g1 r1 => ⟨F1, ρ, xs, E.gr g1, e2, fun vs F2 H2 g2 r2 => ?_⟩⟩
  exact q _ F2 H2 (g1.trans g2) (.cons (r1.mono g2.f) r2)
end
end DL

set_option Elab.async false
set_option linter.all false
set_option maxRecDepth 100000
set_option maxHeartbeats 2000000
namespace DL
open PySem PySem.Spec L2

abbrev line : Nat := 16777216
theorem line_eq : (sizeLine : Nat) = line := sizeLine_eq
/-- a two-place operation on values does what a function on data says -/
def OpD (r : R2) (g : D → D → Option D) : Prop := ∀ (F H : Hp) (x y : V) (dx dy d : D), Le F H → Rp F x dx → Rp F y dy → g dx dy = some d → ∀ Q : VK, (∀ v F' H', Gr F H F' H' → Rp F' v d → Q v H') → r x y H Q
def UnD (r : V → Hp → VK → Prop) (g : D → Option D) : Prop := ∀ (F H : Hp) (x : V) (dx d : D), Le F H → Rp F x dx → g dx = some d → ∀ Q : VK, (∀ v F' H', Gr F H F' H' → Rp F' v d → Q v H') → r x H Q
@[simp] def kBin (g : D → D → Option D) (f1 f2 : Rho → Option D) (ρ : Rho) : Option D := (f1 ρ).bind fun x => (f2 ρ).bind fun y => g x y
@[simp] def kUn (g : D → Option D) (f : Rho → Option D) (ρ : Rho) : Option D := (f ρ).bind g
section
variable {X : Cx} {a b c : Expr} {f1 f2 f3 : Rho → Option D} {pos : Pos}
theorem bin_w {r : R2} {g : D → D → Option D} (hg : OpD r g) (σ : L2.St) (H : Hp) (Q : VK) (h : tE (kBin g f1 f2) σ H Q) : tOp r (tE f1) (tE f2) σ H Q := by
  obtain ⟨F, ρ, d, E, ef, q⟩ := h
  obtain ⟨x, e1, ef⟩ := bind_some ef
  obtain ⟨y, e2, ef⟩ := bind_some ef
  refine ⟨F, ρ, x, E, e1, fun v F1 H1 g1 r1 => ⟨F1, ρ, y, E.gr g1, e2, fun u F2 H2 g2 r2 => ?_⟩⟩
  exact hg F2 H2 v u x y d g2.s (r1.mono g2.f) r2 ef Q fun w F3 H3 g3 r3 => q w F3 H3 ((g1.trans g2).trans g3) r3
theorem DE.bin {op : Operator} {r : R2} {g : D → D → Option D} (ho : OpR X (binaryOp op) r) (hg : OpD r g) (ha : DE X a f1) (hb : DE X b f2) : DE X (.BinOp a op b pos) (kBin g f1 f2) :=
  (pe_op ho ha hb).w fun σ H Q h => bin_w hg σ H Q h
theorem DE.un {op : UnaryOp} {r : V → Hp → VK → Prop} {g : D → Option D} (ho : UnR X (unaryOp op) r) (hg : UnD r g) (ha : DE X a f1) : DE X (.UnaryOp op a pos) (kUn g f1) :=
  (pe_un ho ha).w fun σ H Q ⟨F, ρ, d, E, ef, q⟩ => by
    obtain ⟨x, e1, ef⟩ := bind_some ef
    refine ⟨F, ρ, x, E, e1, fun v F1 H1 g1 r1 => ?_⟩
    exact hg F1 H1 v x d g1.s r1 ef Q fun w F3 H3 g3 r3 => q w F3 H3 (g1.trans g3) r3
theorem DE.cmp {op : CmpOp} {r : R2} {g : D → D → Option D} (ho : OpR X (compareOp op) r) (hg : OpD r g) (ha : DE X a f1) (hb : DE X b f2) (hm : behindInMarks op b = false := by rfl) : DE X (.Compare a [op] [b] pos) (kBin g f1 f2) :=
  (pe_cmpR ho ha hb hm).w fun σ H Q h => bin_w hg σ H Q h
@[simp] def asB : D → Option Bool
  | .bool b => some b
  | _ => none
@[simp] def kB (f : Rho → Option D) (ρ : Rho) : Option Bool := (f ρ).bind asB
theorem test_w {t : TE} {f : Rho → Option D} (ht : ∀ σ H Q, tE f σ H Q → t σ H Q) (σ : L2.St) (H : Hp) (Q : Bool → Hp → Prop) (h : tT (kB f) σ H Q) : t σ H fun x H' => ∃ k, x = .bl k ∧ Q k H' := by
  obtain ⟨F, ρ, bb, E, ef, q⟩ := h
  obtain ⟨d, e1, ef⟩ := bind_some ef
  cases d <;> cases ef
  refine ht _ _ _ ⟨F, ρ, _, E, e1, fun v F1 H1 g1 r1 => ?_⟩
  cases r1
  exact ⟨_, rfl, q F1 H1 g1⟩
theorem DT.cmp {op : CmpOp} {r : R2} {g : D → D → Option D} (ho : OpR X (compareOp op) r) (hg : OpD r g) (ha : DE X a f1) (hb : DE X b f2) (hm : behindInMarks op b = false := by rfl) : DT X (.Compare a [op] [b] pos) (kB (kBin g f1 f2)) :=
  (pt_cmpR ho ha hb hm).w fun σ H Q h => test_w (fun σ H Q h => bin_w hg σ H Q h) σ H Q h
theorem DT.val {f : Rho → Option D} (h : DE X a f) (he : ∀ whole, isTrue a X.env whole = (do let v ← whole; standAt a.pos; holding [v] (truthy v)) := by intro _; rfl) : DT X a (kB f) :=
  (pt_val h he).w fun σ H Q h => test_w (fun _ _ _ h => h) σ H Q h
/-- a < b < c -/
@[simp] def kChain (g g' : D → D → Option D) (f1 f2 f3 : Rho → Option D) (ρ : Rho) : Option D := (f1 ρ).bind fun x => (f2 ρ).bind fun y => (g x y).bind fun k => match k with
  | .bool true => (f3 ρ).bind fun z => g' y z
  | .bool false => some (.bool false)
  | _ => none
theorem chain_w {r r' : R2} {g g' : D → D → Option D} (hg : OpD r g) (hg' : OpD r' g') (σ : L2.St) (H : Hp) (Q : VK) (h : tE (kChain g g' f1 f2 f3) σ H Q) : tChain r r' (tE f1) (tE f2) (tE f3) σ H Q := by
  obtain ⟨F, ρ, d, E, ef, q⟩ := h
  obtain ⟨x, e1, ef⟩ := bind_some ef
  obtain ⟨y, e2, ef⟩ := bind_some ef
  obtain ⟨k, e3, ef⟩ := bind_some ef
  refine ⟨F, ρ, x, E, e1, fun v F1 H1 g1 r1 => ⟨F1, ρ, y, E.gr g1, e2, fun u F2 H2 g2 r2 => ?_⟩⟩
  refine hg F2 H2 v u x y k g2.s (r1.mono g2.f) r2 e3 _ fun w F3 H3 g3 r3 => ?_
  split at ef
  · obtain ⟨z, e4, ef⟩ := bind_some ef
    cases r3
    refine ⟨true, rfl, ?_⟩
    rw [if_pos rfl]
    refine ⟨F3, ρ, z, ((E.gr g1).gr g2).gr g3, e4, fun w F4 H4 g4 r4 => ?_⟩
    exact hg' F4 H4 u w y z d g4.s (r2.mono (g3.f.trans g4.f)) r4 ef Q fun w F5 H5 g5 r5 => q w F5 H5 (((g1.trans g2).trans (g3.trans g4)).trans g5) r5
  · cases ef
    cases r3
    refine ⟨false, rfl, ?_⟩
    rw [if_neg Bool.false_ne_true]
    exact q _ F3 H3 ((g1.trans g2).trans g3) (.bl false)
  · cases ef
theorem DE.chain {op op' : CmpOp} {r r' : R2} {g g' : D → D → Option D} (ho : OpR X (compareOp op) r) (hg : OpD r g) (ho' : OpR X (compareOp op') r') (hg' : OpD r' g') (ha : DE X a f1) (hb : DE X b f2) (hc : DE X c f3) (hm : lastMarks [op, op'] [b, c] = false := by with_unfolding_all rfl) :
    DE X (.Compare a [op, op'] [b, c] pos) (kChain g g' f1 f2 f3) := (pe_chain ho ho' ha hb hc hm).w fun σ H Q h => chain_w hg hg' σ H Q h
theorem DT.chain {op op' : CmpOp} {r r' : R2} {g g' : D → D → Option D} (ho : OpR X (compareOp op) r) (hg : OpD r g) (ho' : OpR X (compareOp op') r') (hg' : OpD r' g') (ha : DE X a f1) (hb : DE X b f2) (hc : DE X c f3) (hm : lastMarks [op, op'] [b, c] = false := by with_unfolding_all rfl) :
    DT X (.Compare a [op, op'] [b, c] pos) (kB (kChain g g' f1 f2 f3)) := (pt_chain ho ho' ha hb hc hm).w fun σ H Q h => test_w (fun σ H Q h => chain_w hg hg' σ H Q h) σ H Q h

/-! ### and, or, not, if-else -/
@[simp] def kAnd (f g : Rho → Option Bool) (ρ : Rho) : Option Bool := (f ρ).bind fun x => if x = true then g ρ else some false
@[simp] def kOr (f g : Rho → Option Bool) (ρ : Rho) : Option Bool := (f ρ).bind fun x => if x = true then some true else g ρ
@[simp] def kNot (f : Rho → Option Bool) (ρ : Rho) : Option Bool := (f ρ).bind fun x => some (!x)
@[simp] def kOfB (f : Rho → Option Bool) (ρ : Rho) : Option D := (f ρ).bind fun x => some (.bool x)
abbrev DW (X : Cx) (e : Expr) (f : Rho → Option Bool) : Prop := PW X e (tT f)
theorem _root_.L2.PW.w {X : Cx} {e : Expr} {t t' : TT} (h : PW X e t) (w : ∀ σ H Q, t' σ H Q → t σ H Q) : PW X e t' := ⟨fun wh pins s σ H Q I q => h.run wh pins s σ H Q I (w σ H Q q)⟩
variable {t1 t2 : Rho → Option Bool} {rest : List Expr}
theorem DW.and1 (ha : DT X a t1) : DW X (.BoolOp .And [a] pos) t1 := pw_and1 ha
theorem DW.or1 (ha : DT X a t1) : DW X (.BoolOp .Or [a] pos) t1 := pw_or1 ha
theorem and_w (σ : L2.St) (H : Hp) (Q : Bool → Hp → Prop) (h : tT (kAnd t1 t2) σ H Q) : tAnd (tT t1) (tT t2) σ H Q := by
  obtain ⟨F, ρ, bb, E, ef, q⟩ := h
  obtain ⟨x, e1, ef⟩ := bind_some ef
  refine ⟨F, ρ, x, E, e1, fun F1 H1 g1 => ?_⟩
  cases x with
  | true =>
    rw [if_pos rfl] at ef ⊢
    exact ⟨F1, ρ, bb, E.gr g1, ef, fun F2 H2 g2 => q F2 H2 (g1.trans g2)⟩
  | false =>
    rw [if_neg Bool.false_ne_true] at ef ⊢
    cases ef
    exact q F1 H1 g1
theorem or_w (σ : L2.St) (H : Hp) (Q : Bool → Hp → Prop) (h : tT (kOr t1 t2) σ H Q) : tOr (tT t1) (tT t2) σ H Q := by
  obtain ⟨F, ρ, bb, E, ef, q⟩ := h
  obtain ⟨x, e1, ef⟩ := bind_some ef
  refine ⟨F, ρ, x, E, e1, fun F1 H1 g1 => ?_⟩
  cases x with
  | true =>
    rw [if_pos rfl] at ef ⊢
    cases ef
    exact q F1 H1 g1
  | false =>
    rw [if_neg Bool.false_ne_true] at ef ⊢
    exact ⟨F1, ρ, bb, E.gr g1, ef, fun F2 H2 g2 => q F2 H2 (g1.trans g2)⟩
theorem DW.and (ha : DT X a t1) (hb : DW X (.BoolOp .And (b :: rest) pos) t2) : DW X (.BoolOp .And (a :: b :: rest) pos) (kAnd t1 t2) := (pw_and ha hb).w and_w
theorem DW.or (ha : DT X a t1) (hb : DW X (.BoolOp .Or (b :: rest) pos) t2) : DW X (.BoolOp .Or (a :: b :: rest) pos) (kOr t1 t2) := (pw_or ha hb).w or_w
theorem DW.t (h : DW X a t1) : DT X a t1 := h.pt
theorem DT.not (ha : DT X a t1) : DT X (.UnaryOp .Not a pos) (kNot t1) := (pt_not ha).w fun σ H Q ⟨F, ρ, bb, E, ef, q⟩ => by
  obtain ⟨x, e1, ef⟩ := bind_some ef
  cases ef
  exact ⟨F, ρ, x, E, e1, q⟩
/-- .. as values; each part is a bool -/
@[simp] def vAnd (f g : Rho → Option D) (ρ : Rho) : Option D := (f ρ).bind fun x => match x with
  | .bool true => (g ρ).bind fun y => match y with | .bool k => some (.bool k) | _ => none
  | .bool false => some (.bool false)
  | _ => none
@[simp] def vOr (f g : Rho → Option D) (ρ : Rho) : Option D := (f ρ).bind fun x => match x with
  | .bool false => (g ρ).bind fun y => match y with | .bool k => some (.bool k) | _ => none
  | .bool true => some (.bool true)
  | _ => none
theorem DE.one {op : BoolOp} (h : DE X a f1) : DE X (.BoolOp op [a] pos) f1 := pe_one h
theorem DE.and (ha : DE X a f1) (hb : DE X (.BoolOp .And (b :: rest) pos) f2) : DE X (.BoolOp .And (a :: b :: rest) pos) (vAnd f1 f2) := (pe_and ha hb).w fun σ H Q ⟨F, ρ, d, E, ef, q⟩ => by
  obtain ⟨x, e1, ef⟩ := bind_some ef
  refine ⟨F, ρ, x, E, e1, fun v F1 H1 g1 r1 => ?_⟩
  split at ef
  · obtain ⟨y, e2, ef⟩ := bind_some ef
    cases r1
    refine ⟨true, rfl, ?_⟩
    rw [if_pos rfl]
    refine ⟨F1, ρ, y, E.gr g1, e2, fun w F2 H2 g2 r2 => ?_⟩
    cases y <;> cases ef
    exact q w F2 H2 (g1.trans g2) r2
  · cases r1
    refine ⟨false, rfl, ?_⟩
    rw [if_neg Bool.false_ne_true]
    cases ef
    exact q _ F1 H1 g1 (.bl false)
  · cases ef
theorem DE.or (ha : DE X a f1) (hb : DE X (.BoolOp .Or (b :: rest) pos) f2) : DE X (.BoolOp .Or (a :: b :: rest) pos) (vOr f1 f2) := (pe_or ha hb).w fun σ H Q ⟨F, ρ, d, E, ef, q⟩ => by
  obtain ⟨x, e1, ef⟩ := bind_some ef
  refine ⟨F, ρ, x, E, e1, fun v F1 H1 g1 r1 => ?_⟩
  split at ef
  · obtain ⟨y, e2, ef⟩ := bind_some ef
    cases r1
    refine ⟨false, rfl, ?_⟩
    rw [if_neg Bool.false_ne_true]
    refine ⟨F1, ρ, y, E.gr g1, e2, fun w F2 H2 g2 r2 => ?_⟩
    cases y <;> cases ef
    exact q w F2 H2 (g1.trans g2) r2
  · cases r1
    refine ⟨true, rfl, ?_⟩
    rw [if_pos rfl]
    cases ef
    exact q _ F1 H1 g1 (.bl true)
  · cases ef
@[simp] def vNot (f : Rho → Option D) (ρ : Rho) : Option D := (f ρ).bind fun x => match x with
  | .bool k => some (.bool (!k))
  | _ => none
theorem DE.not (ha : DE X a f1) : DE X (.UnaryOp .Not a pos) (vNot f1) := (pe_not ha).w fun σ H Q ⟨F, ρ, d, E, ef, q⟩ => by
  obtain ⟨x, e1, ef⟩ := bind_some ef
  refine ⟨F, ρ, x, E, e1, fun v F1 H1 g1 r1 => ?_⟩
  cases x <;> cases ef
  cases r1
  exact ⟨_, rfl, q _ F1 H1 g1 (.bl _)⟩
@[simp] def kIf (t : Rho → Option Bool) (f g : Rho → Option D) (ρ : Rho) : Option D := (t ρ).bind fun k => if k = true then f ρ else g ρ
theorem DE.ifE (hc : DT X c t1) (ha : DE X a f1) (hb : DE X b f2) : DE X (.IfExp c a b pos) (kIf t1 f1 f2) := (pe_ifExp hc ha hb).w fun σ H Q ⟨F, ρ, d, E, ef, q⟩ => by
  obtain ⟨x, e1, ef⟩ := bind_some ef
  refine ⟨F, ρ, x, E, e1, fun F1 H1 g1 => ?_⟩
  cases x with
  | true =>
    rw [if_pos rfl] at ef ⊢
    exact ⟨F1, ρ, d, E.gr g1, ef, fun v F2 H2 g2 r2 => q v F2 H2 (g1.trans g2) r2⟩
  | false =>
    rw [if_neg Bool.false_ne_true] at ef ⊢
    exact ⟨F1, ρ, d, E.gr g1, ef, fun v F2 H2 g2 r2 => q v F2 H2 (g1.trans g2) r2⟩
end

/-! ### ints -/
@[simp] def gAdd : D → D → Option D
  | .int i, .int j => some (.int (i + j))
  | .list xs, .list ys => if xs.length + ys.length ≤ line then some (.list (xs ++ ys)) else none
  | .tuple xs, .tuple ys => if xs.length + ys.length ≤ line then some (.tuple (xs ++ ys)) else none
  | _, _ => none
@[simp] def gSub : D → D → Option D
  | .int i, .int j => some (.int (i - j))
  | _, _ => none
def okMul (i j : Int) : Bool := decide (i.natAbs < 2 ^ 64) || decide (j.natAbs < 2 ^ 64)
@[simp] def gMul : D → D → Option D
  | .int i, .int j => if okMul i j = true then some (.int (i * j)) else none
  | .list xs, .int k => if k < 2 ^ 32 ∧ -(2 ^ 32) < k ∧ xs.length * k.toNat ≤ line then some (.list (List.replicate k.toNat xs).flatten) else none
  | _, _ => none
@[simp] def gDiv : D → D → Option D
  | .int i, .int j => if j ≠ 0 ∧ j.natAbs < 1073741824 then some (.int (i.fdiv j)) else none
  | _, _ => none
@[simp] def gMod : D → D → Option D
  | .int i, .int j => if j ≠ 0 then some (.int (i.fmod j)) else none
  | _, _ => none
@[simp] def gPow : D → D → Option D
  | .int i, .int j => if 0 ≤ j ∧ j ≤ 1000000 ∧ i.natAbs < 2 ^ 64 then some (.int (i ^ j.toNat)) else none
  | _, _ => none
@[simp] def gNeg : D → Option D
  | .int i => some (.int (-i))
  | _ => none
@[simp] def gLt : D → D → Option D
  | .int i, .int j => some (.bool (decide (i < j)))
  | _, _ => none
@[simp] def gLe : D → D → Option D
  | .int i, .int j => some (.bool (decide (i ≤ j)))
  | _, _ => none
@[simp] def gGt : D → D → Option D
  | .int i, .int j => some (.bool (decide (j < i)))
  | _, _ => none
@[simp] def gGe : D → D → Option D
  | .int i, .int j => some (.bool (decide (j ≤ i)))
  | _, _ => none
def gEq (x y : D) : Option D := if SeqAt.shaped x = true ∧ SeqAt.shaped y = true then some (.bool (PyData.eqv x y)) else none
def gNe (x y : D) : Option D := if SeqAt.shaped x = true ∧ SeqAt.shaped y = true then some (.bool (!PyData.eqv x y)) else none
@[simp] def gIn : D → D → Option D
  | x, .list ys => if SeqAt.shaped x = true ∧ SeqAt.shaped (.list ys) = true then some (.bool (ys.any fun z => PyData.eqv z x)) else none
  | _, _ => none
@[simp] def gNotIn : D → D → Option D
  | x, .list ys => if SeqAt.shaped x = true ∧ SeqAt.shaped (.list ys) = true then some (.bool (!ys.any fun z => PyData.eqv z x)) else none
  | _, _ => none
@[simp] def gIs (x y : D) : Option D := match x, y with
  | .none, .none => some (.bool true)
  | _, .none => some (.bool false)
  | _, _ => none
@[simp] def gIsNot (x y : D) : Option D := match x, y with
  | .none, .none => some (.bool false)
  | _, .none => some (.bool true)
  | _, _ => none
section
variable {K : PySem.W.Frag}
theorem rep_none {F : Hp} {v : V} {d : D} (r : Rp F v d) : decide (v = .non) = (match d with | .none => true | _ => false) := by
  cases r <;> simp
theorem od_sub : OpD (rI0 fun i j => .int (i - j)) gSub := by
  intro F H x y dx dy d l r1 r2 e Q q
  cases dx <;> cases dy <;> cases e
  cases r1; cases r2
  exact ⟨_, _, rfl, rfl, q _ F H (Gr.refl l) (.int _)⟩
theorem od_cmp {g : Int → Int → Bool} {gd : D → D → Option D} (hg : ∀ dx dy d, gd dx dy = some d → ∃ i j, dx = .int i ∧ dy = .int j ∧ d = .bool (g i j)) : OpD (rI0 fun i j => .bl (g i j)) gd := by
  intro F H x y dx dy d l r1 r2 e Q q
  obtain ⟨i, j, rfl, rfl, rfl⟩ := hg _ _ _ e
  cases r1; cases r2
  exact ⟨_, _, rfl, rfl, q _ F H (Gr.refl l) (.bl _)⟩
theorem od_lt : OpD (rI0 fun i j => .bl (decide (i < j))) gLt := od_cmp fun dx dy d e => by
  cases dx <;> cases dy <;> cases e
  exact ⟨_, _, rfl, rfl, rfl⟩
theorem od_le : OpD (rI0 fun i j => .bl (decide (i ≤ j))) gLe := od_cmp fun dx dy d e => by
  cases dx <;> cases dy <;> cases e
  exact ⟨_, _, rfl, rfl, rfl⟩
theorem od_gt : OpD (rI0 fun i j => .bl (decide (j < i))) gGt := od_cmp fun dx dy d e => by
  cases dx <;> cases dy <;> cases e
  exact ⟨_, _, rfl, rfl, rfl⟩
theorem od_ge : OpD (rI0 fun i j => .bl (decide (j ≤ i))) gGe := od_cmp fun dx dy d e => by
  cases dx <;> cases dy <;> cases e
  exact ⟨_, _, rfl, rfl, rfl⟩
theorem od_div : OpD (rI CDivN fun i j => .int (i.fdiv j)) gDiv := by
  intro F H x y dx dy d l r1 r2 e Q q
  unfold gDiv at e
  split at e
  · split at e
    · rename_i h
      cases e
      cases r1; cases r2
      exact ⟨_, _, rfl, rfl, h, q _ F H (Gr.refl l) (.int _)⟩
    · cases e
  · cases e
theorem od_mod : OpD (rI (fun _ j => j ≠ 0) fun i j => .int (i.fmod j)) gMod := by
  intro F H x y dx dy d l r1 r2 e Q q
  unfold gMod at e
  split at e
  · split at e
    · rename_i h
      cases e
      cases r1; cases r2
      exact ⟨_, _, rfl, rfl, h, q _ F H (Gr.refl l) (.int _)⟩
    · cases e
  · cases e
theorem od_pow : OpD (rI CPow fun i j => .int (i ^ j.toNat)) gPow := by
  intro F H x y dx dy d l r1 r2 e Q q
  unfold gPow at e
  split at e
  · split at e
    · rename_i h
      cases e
      cases r1; cases r2
      exact ⟨_, _, rfl, rfl, h, q _ F H (Gr.refl l) (.int _)⟩
    · cases e
  · cases e
theorem ud_neg : UnD (rU fun i => .int (-i)) gNeg := by
  intro F H x dx d l r1 e Q q
  cases dx <;> cases e
  cases r1
  exact ⟨_, rfl, q _ F H (Gr.refl l) (.int _)⟩
theorem RpAll.replicate {F : Hp} {vs : List V} {ds : List D} (r : RpAll F vs ds) : ∀ n : Nat, RpAll F (List.replicate n vs).flatten (List.replicate n ds).flatten
  | 0 => .nil
  | n + 1 => by
    rw [List.replicate_succ, List.replicate_succ, List.flatten_cons, List.flatten_cons]
    exact r.append (RpAll.replicate r n)
def rMulD : R2 := fun x y H Q => rI CMul (fun i j => .int (i * j)) x y H Q ∨ rRep x y H Q
theorem op_mulD {X : Cx} : OpR X (binaryOp .Mult) rMulD := OpR.or op_mul op_rep
theorem od_mul : OpD rMulD gMul := by
  intro F H x y dx dy d l r1 r2 e Q q
  unfold gMul at e
  split at e
  · split at e
    · rename_i i j h
      cases e
      cases r1; cases r2
      refine .inl ⟨_, _, rfl, rfl, ?_, q _ F H (Gr.refl l) (.int _)⟩
      unfold okMul at h
      rw [Bool.or_eq_true, decide_eq_true_iff, decide_eq_true_iff] at h
      rcases h with h | h
      · exact .inl (by omega)
      · exact .inr (by omega)
    · cases e
  · split at e
    · rename_i xs k h
      cases e
      cases r1 with
      | lst h1 h2 =>
        cases r2
        refine .inr ⟨_, _, _, rfl, rfl, l _ _ h1, by omega, by omega, by rw [h2.length, line_eq]; exact h.2.2, fun p hp => ?_⟩
        exact q _ _ _ (Gr.frz l hp) (.lst upd_same ((h2.replicate _).mono (Le.new (free_of l hp))))
    · cases e
  · cases e
def rAddD (K : PySem.W.Frag) : R2 := fun x y H Q => rI0 (fun i j => .int (i + j)) x y H Q ∨ rCat x y H Q ∨ rCatA K x y H Q
theorem op_addD {X : Cx} : OpR X (binaryOp .Add) (rAddD X.K) := OpR.or op_add (OpR.or op_cat op_catA)
theorem od_add : OpD (rAddD K) gAdd := by
  intro F H x y dx dy d l r1 r2 e Q q
  unfold gAdd at e
  split at e
  · cases e
    cases r1; cases r2
    exact .inl ⟨_, _, rfl, rfl, q _ F H (Gr.refl l) (.int _)⟩
  · split at e
    · rename_i xs ys h
      cases e
      cases r1 with
      | lst h1 h2 =>
        cases r2 with
        | lst h3 h4 =>
          refine .inr (.inl ⟨_, _, _, _, rfl, rfl, l _ _ h1, l _ _ h3, by rw [h2.length, h4.length, line_eq]; exact h, fun p hp => ?_⟩)
          exact q _ _ _ (Gr.frz l hp) (.lst upd_same ((h2.append h4).mono (Le.new (free_of l hp))))
    · cases e
  · split at e
    · rename_i xs ys h
      cases e
      cases r1 with
      | tup h1 h2 =>
        cases r2 with
        | tup h3 h4 =>
          refine .inr (.inr ⟨_, _, _, _, rfl, rfl, SqT.of (l _ _ h1), SqT.of (l _ _ h3), by rw [h2.length, h4.length, line_eq]; exact h, fun e1 => ?_, fun e1 e2 => ?_, fun e1 e2 p hp => ?_⟩)
          · subst e1
            cases h2
            exact q _ F H (Gr.refl l) (.tup h3 h4)
          · subst e2
            cases h4
            rw [List.append_nil] at q
            exact q _ F H (Gr.refl l) (.tup h1 h2)
          · exact q _ _ _ (Gr.frz l hp) (.tup upd_same ((h2.append h4).mono (Le.new (free_of l hp))))
    · cases e
  · cases e
theorem od_eq : OpD (rEqD K) gEq := by
  intro F H x y dx dy d l r1 r2 e Q q
  unfold gEq at e
  split at e <;> cases e
  rename_i h
  exact ⟨dx, dy, r1.dp l, r2.dp l, h.1, h.2, q _ F H (Gr.refl l) (.bl _)⟩
theorem od_ne : OpD (rNeD K) gNe := by
  intro F H x y dx dy d l r1 r2 e Q q
  unfold gNe at e
  split at e <;> cases e
  rename_i h
  exact ⟨dx, dy, r1.dp l, r2.dp l, h.1, h.2, q _ F H (Gr.refl l) (.bl _)⟩
theorem od_in : OpD (rInD K) gIn := by
  intro F H x y dx dy d l r1 r2 e Q q
  unfold gIn at e
  split at e
  · split at e
    · rename_i h
      cases e
      exact ⟨dx, _, r1.dp l, r2.dp l, h.1, h.2, q _ F H (Gr.refl l) (.bl _)⟩
    · cases e
  · cases e
theorem od_notIn : OpD (rNotInD K) gNotIn := by
  intro F H x y dx dy d l r1 r2 e Q q
  unfold gNotIn at e
  split at e
  · split at e
    · rename_i h
      cases e
      exact ⟨dx, _, r1.dp l, r2.dp l, h.1, h.2, q _ F H (Gr.refl l) (.bl _)⟩
    · cases e
  · cases e
def rIsD : R2 := fun x y H Q => y = .non ∧ Q (.bl (decide (x = .non))) H
def rIsNotD : R2 := fun x y H Q => y = .non ∧ Q (.bl (!decide (x = .non))) H
theorem op_isD {X : Cx} : OpR X (compareOp .Is) rIsD := op_isN
theorem op_isNotD {X : Cx} : OpR X (compareOp .IsNot) rIsNotD := op_notN
theorem od_is : OpD rIsD gIs := by
  intro F H x y dx dy d l r1 r2 e Q q
  unfold gIs at e
  split at e
  · cases e
    cases r2; cases r1
    exact ⟨rfl, q _ F H (Gr.refl l) (.bl _)⟩
  · rename_i hn
    cases e
    cases r2
    refine ⟨rfl, ?_⟩
    rw [rep_none r1]
    refine q _ F H (Gr.refl l) ?_
    cases dx <;> first | exact .bl false | exact (hn rfl).elim
  · cases e
theorem od_isNot : OpD rIsNotD gIsNot := by
  intro F H x y dx dy d l r1 r2 e Q q
  unfold gIsNot at e
  split at e
  · cases e
    cases r2; cases r1
    exact ⟨rfl, q _ F H (Gr.refl l) (.bl _)⟩
  · rename_i hn
    cases e
    cases r2
    refine ⟨rfl, ?_⟩
    rw [rep_none r1]
    refine q _ F H (Gr.refl l) ?_
    cases dx <;> first | exact .bl true | exact (hn rfl).elim
  · cases e
end
end DL

set_option Elab.async false
set_option linter.all false
set_option maxRecDepth 100000
set_option maxHeartbeats 2000000
namespace DL
open PySem PySem.Spec L2

/-- a list or a tuple at a -/
def SqH (H : Hp) (a : Addr) (vs : List V) : Prop := H a = some (.lst vs) ∨ H a = some (.tup vs)
theorem SqH.le {H H' : Hp} {a : Addr} {vs : List V} (l : Le H H') (h : SqH H a vs) : SqH H' a vs := h.elim (fun q => .inl (l _ _ q)) fun q => .inr (l _ _ q)
theorem SqH.sq {K : PySem.W.Frag} {H : Hp} {a : Addr} {vs : List V} (h : SqH H a vs) : SqL K H a vs ∨ SqT K H a vs := h.elim (fun q => .inl (SqL.of q)) fun q => .inr (SqT.of q)
def tQ (f : Rho → Option (List D)) : TE := fun σ H Q => ∃ F ρ xs, EnvR F H σ ρ ∧ f ρ = some xs ∧ ∀ a vs F' H', Gr F H F' H' → SqH H' a vs → RpAll F' vs xs → Q (.ref a) H'
abbrev DQ (X : Cx) (e : Expr) (f : Rho → Option (List D)) : Prop := PE X e (tQ f)
@[simp] def asQ : D → Option (List D)
  | .list xs => some xs
  | .tuple xs => some xs
  | _ => none
@[simp] def kQ (f : Rho → Option D) (ρ : Rho) : Option (List D) := (f ρ).bind asQ
section
variable {X : Cx} {e a b : Expr} {pos : Pos}
theorem DE.q {f : Rho → Option D} (h : DE X e f) : DQ X e (kQ f) := h.w fun σ H Q ⟨F, ρ, xs, E, ef, q⟩ => by
  obtain ⟨d, e1, e2⟩ := bind_some ef
  refine ⟨F, ρ, d, E, e1, fun v F' H' g rp => ?_⟩
  cases d <;> cases e2
  · cases rp with
    | lst h1 h2 => exact q _ _ F' H' g (.inl (g.s _ _ h1)) h2
  · cases rp with
    | tup h1 h2 => exact q _ _ F' H' g (.inr (g.s _ _ h1)) h2
theorem DLs.q {f : Rho → Option (List D)} (h : DLs X e f) : DQ X e f := h.w fun σ H Q ⟨F, ρ, xs, E, ef, q⟩ => ⟨F, ρ, xs, E, ef, fun a vs F' H' g h r => q a vs F' H' g (.inl h) r⟩

/-! ### places -/
theorem atI_rp {F : Hp} {vs : List V} {ds : List D} {i : Int} {d : D} (r : RpAll F vs ds) (h : atI ds i = some d) : ∃ v, atI vs i = some v ∧ Rp F v d := by
  unfold atI at h ⊢
  obtain ⟨j, e1, e2⟩ := bind_some h
  obtain ⟨v, h1, h2⟩ := r.get e2
  exact ⟨v, by rw [r.length, e1]; exact h1, h2⟩
@[simp] def kIx (f : Rho → Option (List D)) (g : Rho → Option D) (ρ : Rho) : Option D := (f ρ).bind fun xs => (g ρ).bind fun i => match i with
  | .int i => atI xs i
  | _ => none
def rIxD (K : PySem.W.Frag) : R2 := fun x y H Q => rIxL K x y H Q ∨ rIxT K x y H Q
theorem ix_D : IxR X (rIxD X.K) := IxR.or ix_list ix_tup
theorem DE.ix {f : Rho → Option (List D)} {g : Rho → Option D} (ha : DQ X a f) (hb : DE X b g) (hs : PlainIx b := by intro _ _; rfl) : DE X (.Subscript a b pos) (kIx f g) := (pe_ix ix_D ha hb hs).w fun σ H Q ⟨F, ρ, d, E, ef, q⟩ => by
  obtain ⟨xs, e1, ef⟩ := bind_some ef
  obtain ⟨i, e2, ef⟩ := bind_some ef
  refine ⟨F, ρ, xs, E, e1, fun a vs F1 H1 g1 h1 r1 => ⟨F1, ρ, i, E.gr g1, e2, fun u F2 H2 g2 r2 => ?_⟩⟩
  cases i <;> try (cases ef; done)
  cases r2
  obtain ⟨v, h3, r3⟩ := atI_rp r1 ef
  have qq := q v F2 H2 (g1.trans g2) (r3.mono g2.f)
  exact (h1.le g2.h).elim (fun z => .inl ⟨_, _, _, v, rfl, rfl, SqL.of z, h3, qq⟩) fun z => .inr ⟨_, _, _, v, rfl, rfl, SqT.of z, h3, qq⟩
/-- a slice's part -/
def tO (f : Rho → Option (Option Int)) : TO := fun σ H Q => ∃ F ρ o, EnvR F H σ ρ ∧ f ρ = some o ∧ ∀ F' H', Gr F H F' H' → Q o H'
abbrev DO (X : Cx) (e : Option Expr) (f : Rho → Option (Option Int)) : Prop := PO X e (tO f)
theorem _root_.L2.PO.w {X : Cx} {e : Option Expr} {t t' : TO} (h : PO X e t) (w : ∀ σ H Q, t' σ H Q → t σ H Q) : PO X e t' := ⟨fun pins s σ H Q I q => h.run pins s σ H Q I (w σ H Q q)⟩
@[simp] def kO0 (_ : Rho) : Option (Option Int) := some none
@[simp] def kO1 (f : Rho → Option D) (ρ : Rho) : Option (Option Int) := (f ρ).bind fun d => match d with
  | .int i => some (some i)
  | _ => none
theorem DO.none : DO X none kO0 := po_none.w fun σ H Q ⟨F, ρ, o, E, ef, q⟩ => by
  cases ef
  exact q F H (Gr.refl E.le)
theorem DO.one {f : Rho → Option D} (h : DE X e f) : DO X (some e) (kO1 f) := (po_some h).w fun σ H Q ⟨F, ρ, o, E, ef, q⟩ => by
  obtain ⟨d, e1, ef⟩ := bind_some ef
  refine ⟨F, ρ, d, E, e1, fun v F1 H1 g1 r1 => ?_⟩
  cases d <;> cases ef
  cases r1
  exact ⟨_, rfl, q F1 H1 g1⟩
def cutD {α : Type} (xs : List α) (lo hi : Option Int) : List α := (xs.drop (HT.sIx xs.length 0 lo)).take (HT.sIx xs.length xs.length hi - HT.sIx xs.length 0 lo)
@[simp] def kSl (f : Rho → Option (List D)) (lo hi : Rho → Option (Option Int)) (ρ : Rho) : Option Rv := (f ρ).bind fun xs => (lo ρ).bind fun l => (hi ρ).bind fun h => some (.ow (cutD xs l h))
/-- a new list at a free place -/
theorem rv_new {H F' H' : Hp} {p : Addr} {vs : List V} {xs : List D} (l0 : Le H H') (l : Le F' H') (hp : H' p = none) (r : RpAll F' vs xs) : RvR H F' (upd H' p (.lst vs)) (.ref p) (.ow xs) :=
  ⟨p, vs, rfl, free_of l0 hp, free_of l hp, upd_same, r⟩
theorem DR.sl {f : Rho → Option (List D)} {lo hi : Option Expr} {l h : Rho → Option (Option Int)} {p2 : Pos} (ha : DLs X a f) (hl : DO X lo l) (hh : DO X hi h) : DR X (.Subscript a (.Slice lo hi none p2) pos) (kSl f l h) := (pe_slice sl_list ha hl hh).w fun σ H Q ⟨F, ρ, r, E, ef, q⟩ => by
  obtain ⟨xs, e1, ef⟩ := bind_some ef
  obtain ⟨i, e2, ef⟩ := bind_some ef
  obtain ⟨j, e3, ef⟩ := bind_some ef
  cases ef
  refine ⟨F, ρ, xs, E, e1, fun a vs F1 H1 g1 h1 r1 => ⟨F1, ρ, i, E.gr g1, e2, fun F2 H2 g2 => ⟨F2, ρ, j, (E.gr g1).gr g2, e3, fun F3 H3 g3 => ?_⟩⟩⟩
  refine ⟨a, vs, rfl, SqL.of ((g2.h.trans g3.h) _ _ h1), fun p hp => ?_⟩
  have gg := (g1.trans g2).trans g3
  refine q _ F3 _ (gg.trans (Gr.lay gg.s hp)) (rv_new gg.h gg.s hp ?_)
  unfold cutV cutD
  rw [r1.length]
  exact ((r1.mono (g2.f.trans g3.f)).drop _).take _

/-! ### displays -/
@[simp] def kLst (f : Rho → Option (List D)) (ρ : Rho) : Option Rv := (f ρ).bind fun xs => if xs.length ≤ line then some (.ow xs) else none
@[simp] def kTup (f : Rho → Option (List D)) (ρ : Rho) : Option D := (f ρ).bind fun xs => if xs.length ≤ line then some (.tuple xs) else none
variable {es : List Expr} {fs : Rho → Option (List D)}
theorem DR.lst (h : DA X es fs) : DR X (.List es pos) (kLst fs) := (pe_lst h).w fun σ H Q ⟨F, ρ, r, E, ef, q⟩ => by
  obtain ⟨xs, e1, ef⟩ := bind_some ef
  split at ef
  · rename_i hl
    cases ef
    refine ⟨F, ρ, xs, E, e1, fun vs F1 H1 g1 r1 => ⟨by rw [r1.length, line_eq]; exact hl, fun p hp => ?_⟩⟩
    exact q _ F1 _ (g1.trans (Gr.lay g1.s hp)) (rv_new g1.h g1.s hp r1)
  · cases ef
theorem DE.tup {k : Nat} (h : DA X es fs) : DE X (.Tuple es k pos) (kTup fs) := (pe_tup h).w fun σ H Q ⟨F, ρ, r, E, ef, q⟩ => by
  obtain ⟨xs, e1, ef⟩ := bind_some ef
  split at ef
  · rename_i hl
    cases ef
    refine ⟨F, ρ, xs, E, e1, fun vs F1 H1 g1 r1 => ⟨by rw [r1.length, line_eq]; exact hl, fun p hp => ?_⟩⟩
    exact q _ _ _ (g1.trans (Gr.frz g1.s hp)) (.tup upd_same (r1.mono (Le.new (free_of g1.s hp))))
  · cases ef
@[simp] def kStar (f : Rho → Option (List D)) (g : Rho → Option (List D)) (ρ : Rho) : Option (List D) := (f ρ).bind fun xs => (g ρ).bind fun ys => some (xs ++ ys)
theorem DA.star {p : Pos} {f : Rho → Option (List D)} (h : DQ X e f) (t : DA X es fs) (hs : starEach (.Starred e p :: es) X.env = (true, eval e X.env) :: starEach es X.env := by rfl) : DA X (.Starred e p :: es) (kStar f fs) := (StX.pa_star h t hs).w fun σ H Q ⟨F, ρ, r, E, ef, q⟩ => by
  obtain ⟨xs, e1, ef⟩ := bind_some ef
  obtain ⟨ys, e2, ef⟩ := bind_some ef
  cases ef
  refine ⟨F, ρ, xs, E, e1, fun a vs F1 H1 g1 h1 r1 => ⟨a, vs, rfl, (h1.sq (K := X.K)).symm, F1, ρ, ys, E.gr g1, e2, fun us F2 H2 g2 r2 => ?_⟩⟩
  exact q _ F2 H2 (g1.trans g2) ((r1.mono g2.f).append r2)

/-! ### built-in calls: by frozen values; by one list or tuple -/
def CallD (r : List V → Hp → VK → Prop) (g : List D → Option Rv) : Prop := ∀ (F H : Hp) (vs : List V) (ds : List D) (z : Rv), Le F H → RpAll F vs ds → g ds = some z → ∀ Q : VK, (∀ v F' H', Gr F H F' H' → RvR H F' H' v z → Q v H') → r vs H Q
def CallQ (r : List V → Hp → VK → Prop) (g : List D → Option Rv) : Prop := ∀ (F H : Hp) (a : Addr) (vs : List V) (ds : List D) (z : Rv), Le F H → SqH H a vs → RpAll F vs ds → g ds = some z → ∀ Q : VK, (∀ v F' H', Gr F H F' H' → RvR H F' H' v z → Q v H') → r [.ref a] H Q
def CallL (r : List V → Hp → VK → Prop) (g : List D → Option Rv) : Prop := ∀ (F H : Hp) (a : Addr) (vs : List V) (ds : List D) (z : Rv), Le F H → H a = some (.lst vs) → RpAll F vs ds → g ds = some z → ∀ Q : VK, (∀ v F' H', Gr F H F' H' → RvR H F' H' v z → Q v H') → r [.ref a] H Q
theorem RvR.gr {H0 H F H' F' : Hp} {v : V} {z : Rv} (l : Le H0 H) (r : RvR H F' H' v z) : RvR H0 F' H' v z := by
  cases z with
  | fr d => exact r
  | ow xs => obtain ⟨a, vs, e, h0, r⟩ := r; exact ⟨a, vs, e, free_of l h0, r⟩
  | tp xs ds => obtain ⟨p, a, vs, ws, e, h0, hf, hh, r, p0, q⟩ := r; exact ⟨p, a, vs, ws, e, free_of l h0, hf, hh, r, free_of l p0, q⟩
@[simp] def kCall (g : List D → Option Rv) (f : Rho → Option (List D)) (ρ : Rho) : Option Rv := (f ρ).bind g
variable {r : List V → Hp → VK → Prop} {g : List D → Option Rv} {x : Str} {p : Pos}
theorem calld_w (hg : CallD r g) (σ : L2.St) (H : Hp) (Q : VK) (h : tR (kCall g fs) σ H Q) : tCB r (tA fs) σ H Q := by
  obtain ⟨F, ρ, z, E, ef, q⟩ := h
  obtain ⟨ds, e1, ef⟩ := bind_some ef
  exact ⟨F, ρ, ds, E, e1, fun vs F1 H1 g1 r1 => hg F1 H1 vs ds z g1.s r1 ef Q fun v F2 H2 g2 r2 => q v F2 H2 (g1.trans g2) (r2.gr (F := F) g1.h)⟩
theorem callq_w {f : Rho → Option (List D)} (hg : CallQ r g) (σ : L2.St) (H : Hp) (Q : VK) (h : tR (kCall g f) σ H Q) : tCB r (tCons (tQ f) tNil) σ H Q := by
  obtain ⟨F, ρ, z, E, ef, q⟩ := h
  obtain ⟨ds, e1, ef⟩ := bind_some ef
  exact ⟨F, ρ, ds, E, e1, fun a vs F1 H1 g1 h1 r1 => hg F1 H1 a vs ds z g1.s h1 r1 ef Q fun v F2 H2 g2 r2 => q v F2 H2 (g1.trans g2) (r2.gr (F := F) g1.h)⟩
theorem calll_w {f : Rho → Option (List D)} (hg : CallL r g) (σ : L2.St) (H : Hp) (Q : VK) (h : tR (kCall g f) σ H Q) : tCB r (tCons (tL f) tNil) σ H Q := by
  obtain ⟨F, ρ, z, E, ef, q⟩ := h
  obtain ⟨ds, e1, ef⟩ := bind_some ef
  exact ⟨F, ρ, ds, E, e1, fun a vs F1 H1 g1 h1 r1 => hg F1 H1 a vs ds z g1.s h1 r1 ef Q fun v F2 H2 g2 r2 => q v F2 H2 (g1.trans g2) (r2.gr (F := F) g1.h)⟩
theorem DR.callB {id : String} (hc : CallR X (.builtin id) r) (hg : CallD r g) (hG : Gl X x) (hm : X.mg x = none) (hv : bootBuiltins x = some (.builtin id)) (ha : DA X (e :: es) fs) (hn : x ≠ "__name__" := by decide) (hdb : (x == ("__debug__" : Str)) = false := by decide)
    (he : starEach (e :: es) X.env = (false, eval e X.env) :: starEach es X.env := by rfl) (hpl : (backTo pos (starEach es X.env)).any (·.1) = false := by rfl) : DR X (.Call (.Name x p) (e :: es) [] pos) (kCall g fs) :=
  (pe_callB hc hG hm hv ha hn hdb he hpl).w (calld_w hg)
theorem DR.callTy {id : String} (hc : CallR X (.type id) r) (hg : CallD r g) (hG : Gl X x) (hm : X.mg x = none) (hv : bootBuiltins x = some (.type id)) (ha : DA X (e :: es) fs) (hn : x ≠ "__name__" := by decide) (hdb : (x == ("__debug__" : Str)) = false := by decide)
    (he : starEach (e :: es) X.env = (false, eval e X.env) :: starEach es X.env := by rfl) (hpl : (backTo pos (starEach es X.env)).any (·.1) = false := by rfl) : DR X (.Call (.Name x p) (e :: es) [] pos) (kCall g fs) :=
  (pe_callTy hc hG hm hv ha hn hdb he hpl).w (calld_w hg)
variable {f : Rho → Option (List D)}
theorem DR.callBQ {id : String} (hc : CallR X (.builtin id) r) (hg : CallQ r g) (hG : Gl X x) (hm : X.mg x = none) (hv : bootBuiltins x = some (.builtin id)) (ha : DQ X e f) (hn : x ≠ "__name__" := by decide) (hdb : (x == ("__debug__" : Str)) = false := by decide)
    (he : starEach (e :: []) X.env = (false, eval e X.env) :: starEach [] X.env := by rfl) (hpl : (backTo pos (starEach [] X.env)).any (·.1) = false := by rfl) : DR X (.Call (.Name x p) [e] [] pos) (kCall g f) :=
  (pe_callB hc hG hm hv (pa_cons ha pa_nil he) hn hdb he hpl).w (callq_w hg)
theorem DR.callTyQ {id : String} (hc : CallR X (.type id) r) (hg : CallQ r g) (hG : Gl X x) (hm : X.mg x = none) (hv : bootBuiltins x = some (.type id)) (ha : DQ X e f) (hn : x ≠ "__name__" := by decide) (hdb : (x == ("__debug__" : Str)) = false := by decide)
    (he : starEach (e :: []) X.env = (false, eval e X.env) :: starEach [] X.env := by rfl) (hpl : (backTo pos (starEach [] X.env)).any (·.1) = false := by rfl) : DR X (.Call (.Name x p) [e] [] pos) (kCall g f) :=
  (pe_callTy hc hG hm hv (pa_cons ha pa_nil he) hn hdb he hpl).w (callq_w hg)
theorem DR.callBL {id : String} (hc : CallR X (.builtin id) r) (hg : CallL r g) (hG : Gl X x) (hm : X.mg x = none) (hv : bootBuiltins x = some (.builtin id)) (ha : DLs X e f) (hn : x ≠ "__name__" := by decide) (hdb : (x == ("__debug__" : Str)) = false := by decide)
    (he : starEach (e :: []) X.env = (false, eval e X.env) :: starEach [] X.env := by rfl) (hpl : (backTo pos (starEach [] X.env)).any (·.1) = false := by rfl) : DR X (.Call (.Name x p) [e] [] pos) (kCall g f) :=
  (pe_callB hc hG hm hv (pa_cons ha pa_nil he) hn hdb he hpl).w (calll_w hg)
/-- math.gcd, a name of the module -/
theorem DR.callM {id : String} (hc : CallR X (.builtin id) r) (hg : CallD r g) (hG : Gl X x) (hm : X.mg x = some (.builtin id)) (ha : DA X (e :: es) fs) (hdb : (x == ("__debug__" : Str)) = false := by decide)
    (he : starEach (e :: es) X.env = (false, eval e X.env) :: starEach es X.env := by rfl) (hpl : (backTo pos (starEach es X.env)).any (·.1) = false := by rfl) : DR X (.Call (.Name x p) (e :: es) [] pos) (kCall g fs) :=
  (pe_callBfun hc hG hm ha hdb he hpl).w (calld_w hg)
end

/-! ### the built-ins -/
def intsOf : List D → Option (List Int)
  | [] => some []
  | .int i :: r => (intsOf r).bind fun ns => some (i :: ns)
  | _ :: _ => none
theorem intsOf_map : ∀ ns : List Int, intsOf (ns.map PyData.int) = some ns
  | [] => rfl
  | n :: ns => by show (intsOf (ns.map PyData.int)).bind _ = _; rw [intsOf_map ns]; rfl
theorem intsOf_inv : ∀ {ds : List D} {ns : List Int}, intsOf ds = some ns → ds = ns.map PyData.int
  | [], ns, h => by cases h; rfl
  | .int i :: r, ns, h => by
    obtain ⟨ms, e1, e2⟩ := bind_some (show (intsOf r).bind _ = _ from h)
    cases e2
    rw [intsOf_inv e1]; rfl
  | .none :: _, _, h => by cases h
  | .bool _ :: _, _, h => by cases h
  | .str _ :: _, _, h => by cases h
  | .list _ :: _, _, h => by cases h
  | .tuple _ :: _, _, h => by cases h
  | .dict _ :: _, _, h => by cases h
def boolsOf : List D → Option (List Bool)
  | [] => some []
  | .bool i :: r => (boolsOf r).bind fun ns => some (i :: ns)
  | _ :: _ => none
theorem boolsOf_map : ∀ ns : List Bool, boolsOf (ns.map PyData.bool) = some ns
  | [] => rfl
  | n :: ns => by show (boolsOf (ns.map PyData.bool)).bind _ = _; rw [boolsOf_map ns]; rfl
theorem boolsOf_inv : ∀ {ds : List D} {ns : List Bool}, boolsOf ds = some ns → ds = ns.map PyData.bool
  | [], ns, h => by cases h; rfl
  | .bool i :: r, ns, h => by
    obtain ⟨ms, e1, e2⟩ := bind_some (show (boolsOf r).bind _ = _ from h)
    cases e2
    rw [boolsOf_inv e1]; rfl
  | .none :: _, _, h => by cases h
  | .int _ :: _, _, h => by cases h
  | .str _ :: _, _, h => by cases h
  | .list _ :: _, _, h => by cases h
  | .tuple _ :: _, _, h => by cases h
  | .dict _ :: _, _, h => by cases h
theorem RpAll.bools_inv {F : Hp} : ∀ {ns : List Bool} {vs : List V}, RpAll F vs (ns.map PyData.bool) → vs = ns.map V.bl
  | [], _, r => by cases r; rfl
  | n :: ns, _, r => by
    have r' : RpAll F _ (PyData.bool n :: ns.map PyData.bool) := r
    cases r' with
    | cons h t => cases h; rw [RpAll.bools_inv t]; rfl
@[simp] def gLen (ds : List D) : Option Rv := some (.fr (.int ds.length))
def gSum (ds : List D) : Option Rv := (intsOf ds).bind fun ns => some (.fr (.int ns.sum))
def maxI : List Int → Option Int
  | [] => none
  | n :: ns => some (ns.foldl max n)
def minI : List Int → Option Int
  | [] => none
  | n :: ns => some (ns.foldl min n)
def gMax (ds : List D) : Option Rv := (intsOf ds).bind fun ns => (maxI ns).bind fun m => some (.fr (.int m))
def gMin (ds : List D) : Option Rv := (intsOf ds).bind fun ns => (minI ns).bind fun m => some (.fr (.int m))
def gAny (ds : List D) : Option Rv := (boolsOf ds).bind fun ns => some (.fr (.bool (ns.any id)))
def gAll (ds : List D) : Option Rv := (boolsOf ds).bind fun ns => some (.fr (.bool (ns.all id)))
@[simp] def gList (ds : List D) : Option Rv := some (.ow ds)
@[simp] def gTuple (ds : List D) : Option Rv := some (.fr (.tuple ds))
@[simp] def gAbs : List D → Option Rv
  | [.int i] => some (.fr (.int (if i < 0 then -i else i)))
  | _ => none
@[simp] def gMax2 : List D → Option Rv
  | [.int i, .int j] => some (.fr (.int (if j > i then j else i)))
  | _ => none
@[simp] def gMin2 : List D → Option Rv
  | [.int i, .int j] => some (.fr (.int (if j < i then j else i)))
  | _ => none
@[simp] def gInt : List D → Option Rv
  | [.int i] => some (.fr (.int i))
  | [.bool b] => some (.fr (.int (if b then 1 else 0)))
  | _ => none
@[simp] def gGcd : List D → Option Rv
  | [.int i, .int j] => some (.fr (.int ((Nat.gcd i.natAbs j.natAbs : Nat) : Int)))
  | _ => none
section
variable {K : PySem.W.Frag} {X : Cx}
def rLenD (K : PySem.W.Frag) : List V → Hp → VK → Prop := fun xs H Q => ∃ p ys, xs = [.ref p] ∧ (SqL K H p ys ∨ SqT K H p ys) ∧ Q (.int ys.length) H
theorem cr_len : CallR X (.builtin "len") (rLenD X.K) := call_len_seq
theorem cq_len : CallQ (rLenD K) gLen := fun F H a vs ds z l h r e Q q => by
  cases e
  refine ⟨a, vs, rfl, h.sq, q _ F H (Gr.refl l) ?_⟩
  rw [r.length]
  exact .int _
theorem cl_sum : CallL (rSum K) gSum := fun F H a vs ds z l h r e Q q => by
  obtain ⟨ns, e1, e2⟩ := bind_some e
  cases e2
  rw [intsOf_inv e1] at r
  have e3 := r.ints_inv
  subst e3
  exact ⟨a, ns, rfl, SqL.of h, q _ F H (Gr.refl l) (.int _)⟩
theorem foldl_max_le : ∀ (ns : List Int) (n : Int), n ≤ ns.foldl max n ∧ ∀ y ∈ ns, y ≤ ns.foldl max n
  | [], n => ⟨Int.le_refl n, fun _ h => nomatch h⟩
  | m :: ns, n => by
    obtain ⟨h1, h2⟩ := foldl_max_le ns (max n m)
    refine ⟨Int.le_trans (by omega) h1, fun y hy => ?_⟩
    rcases List.mem_cons.mp hy with e | hy
    · subst e; exact Int.le_trans (by omega) h1
    · exact h2 y hy
theorem foldl_max_mem : ∀ (ns : List Int) (n : Int), ns.foldl max n = n ∨ ns.foldl max n ∈ ns
  | [], n => .inl rfl
  | m :: ns, n => by
    rcases foldl_max_mem ns (max n m) with h | h
    · show ns.foldl max (max n m) = n ∨ _
      rcases (by omega : max n m = n ∨ max n m = m) with q | q
      · exact .inl (h.trans q)
      · exact .inr (by show ns.foldl max (max n m) ∈ _; rw [h, q]; exact List.mem_cons_self)
    · exact .inr (List.mem_cons_of_mem _ h)
theorem foldl_min_le : ∀ (ns : List Int) (n : Int), ns.foldl min n ≤ n ∧ ∀ y ∈ ns, ns.foldl min n ≤ y
  | [], n => ⟨Int.le_refl n, fun _ h => nomatch h⟩
  | m :: ns, n => by
    obtain ⟨h1, h2⟩ := foldl_min_le ns (min n m)
    refine ⟨Int.le_trans h1 (by omega), fun y hy => ?_⟩
    rcases List.mem_cons.mp hy with e | hy
    · subst e; exact Int.le_trans h1 (by omega)
    · exact h2 y hy
theorem foldl_min_mem : ∀ (ns : List Int) (n : Int), ns.foldl min n = n ∨ ns.foldl min n ∈ ns
  | [], n => .inl rfl
  | m :: ns, n => by
    rcases foldl_min_mem ns (min n m) with h | h
    · show ns.foldl min (min n m) = n ∨ _
      rcases (by omega : min n m = n ∨ min n m = m) with q | q
      · exact .inl (h.trans q)
      · exact .inr (by show ns.foldl min (min n m) ∈ _; rw [h, q]; exact List.mem_cons_self)
    · exact .inr (List.mem_cons_of_mem _ h)
theorem cl_max : CallL (rMax K) gMax := fun F H a vs ds z l h r e Q q => by
  obtain ⟨ns, e1, e2⟩ := bind_some e
  obtain ⟨m, e2, e3⟩ := bind_some e2
  cases e3
  rw [intsOf_inv e1] at r
  have e3 := r.ints_inv
  subst e3
  cases ns with
  | nil => cases e2
  | cons n ns =>
    cases e2
    refine ⟨a, n :: ns, rfl, SqL.of h, by simp, fun m hm hle => ?_⟩
    have e4 : m = ns.foldl max n := by
      obtain ⟨h1, h2⟩ := foldl_max_le ns n
      have h3 : m ≤ ns.foldl max n := by
        rcases List.mem_cons.mp hm with z | z
        · rw [z]; exact h1
        · exact h2 m z
      have h4 : ns.foldl max n ≤ m := by
        rcases foldl_max_mem ns n with z | z
        · rw [z]; exact hle _ List.mem_cons_self
        · exact hle _ (List.mem_cons_of_mem _ z)
      omega
    rw [e4]
    exact q _ F H (Gr.refl l) (.int _)
theorem cl_min : CallL (rMin K) gMin := fun F H a vs ds z l h r e Q q => by
  obtain ⟨ns, e1, e2⟩ := bind_some e
  obtain ⟨m, e2, e3⟩ := bind_some e2
  cases e3
  rw [intsOf_inv e1] at r
  have e3 := r.ints_inv
  subst e3
  cases ns with
  | nil => cases e2
  | cons n ns =>
    cases e2
    refine ⟨a, n :: ns, rfl, SqL.of h, by simp, fun m hm hle => ?_⟩
    have e4 : m = ns.foldl min n := by
      obtain ⟨h1, h2⟩ := foldl_min_le ns n
      have h3 : ns.foldl min n ≤ m := by
        rcases List.mem_cons.mp hm with z | z
        · rw [z]; exact h1
        · exact h2 m z
      have h4 : m ≤ ns.foldl min n := by
        rcases foldl_min_mem ns n with z | z
        · rw [z]; exact hle _ List.mem_cons_self
        · exact hle _ (List.mem_cons_of_mem _ z)
      omega
    rw [e4]
    exact q _ F H (Gr.refl l) (.int _)
theorem cl_any : CallL (rAny K) gAny := fun F H a vs ds z l h r e Q q => by
  obtain ⟨ns, e1, e2⟩ := bind_some e
  cases e2
  rw [boolsOf_inv e1] at r
  have e3 := r.bools_inv
  subst e3
  exact ⟨a, ns, rfl, SqL.of h, q _ F H (Gr.refl l) (.bl _)⟩
theorem cl_all : CallL (rAll K) gAll := fun F H a vs ds z l h r e Q q => by
  obtain ⟨ns, e1, e2⟩ := bind_some e
  cases e2
  rw [boolsOf_inv e1] at r
  have e3 := r.bools_inv
  subst e3
  exact ⟨a, ns, rfl, SqL.of h, q _ F H (Gr.refl l) (.bl _)⟩
def rListD (K : PySem.W.Frag) : List V → Hp → VK → Prop := fun xs H Q => ∃ p ys, xs = [.ref p] ∧ (SqL K H p ys ∨ SqT K H p ys) ∧ ∀ l, H l = none → Q (.ref l) (upd H l (.lst ys))
theorem cr_list : CallR X (.type "list") (rListD X.K) := call_list_of
theorem cq_list : CallQ (rListD K) gList := fun F H a vs ds z l h r e Q q => by
  cases e
  exact ⟨a, vs, rfl, h.sq, fun p hp => q _ F _ (Gr.lay l hp) (rv_new (Le.refl H) l hp r)⟩
def rTupD (K : PySem.W.Frag) : List V → Hp → VK → Prop := fun xs H Q => ∃ p ys, xs = [.ref p] ∧ ((SqL K H p ys ∧ ∀ l, H l = none → Q (.ref l) (upd H l (.tup ys))) ∨ (SqT K H p ys ∧ Q (.ref p) H))
theorem cr_tuple : CallR X (.type "tuple") (rTupD X.K) := call_tuple_of
theorem cl_tuple : CallL (rTupD K) gTuple := fun F H a vs ds z l h r e Q q => by
  cases e
  exact ⟨a, vs, rfl, .inl ⟨SqL.of h, fun p hp => q _ _ _ (Gr.frz l hp) (.tup upd_same (r.mono (Le.new (free_of l hp))))⟩⟩
theorem DR.callTyL {e : Expr} {x : Str} {p pos : Pos} {id : String} {r : List V → Hp → VK → Prop} {g : List D → Option Rv} {f : Rho → Option (List D)} (hc : CallR X (.type id) r) (hg : CallL r g) (hG : Gl X x) (hm : X.mg x = none) (hv : bootBuiltins x = some (.type id)) (ha : DLs X e f) (hn : x ≠ "__name__" := by decide) (hdb : (x == ("__debug__" : Str)) = false := by decide)
    (he : starEach (e :: []) X.env = (false, eval e X.env) :: starEach [] X.env := by rfl) (hpl : (backTo pos (starEach [] X.env)).any (·.1) = false := by rfl) : DR X (.Call (.Name x p) [e] [] pos) (kCall g f) :=
  (pe_callTy hc hG hm hv (pa_cons ha pa_nil he) hn hdb he hpl).w (calll_w hg)
def rAbsD : List V → Hp → VK → Prop := fun xs H Q => ∃ i, xs = [.int i] ∧ Q (.int (if i < 0 then -i else i)) H
theorem cr_absD : CallR X (.builtin "abs") rAbsD := call_abs
theorem ints1 {F : Hp} {vs : List V} {i : Int} (r : RpAll F vs [.int i]) : vs = [.int i] := r.ints_inv (ns := [i])
theorem ints2 {F : Hp} {vs : List V} {i j : Int} (r : RpAll F vs [.int i, .int j]) : vs = [.int i, .int j] := r.ints_inv (ns := [i, j])
theorem cd_abs : CallD rAbsD gAbs := fun F H vs ds z l r e Q q => by
  unfold gAbs at e
  split at e
  · cases e
    exact ⟨_, ints1 r, q _ F H (Gr.refl l) (.int _)⟩
  · cases e
def rMax2D : List V → Hp → VK → Prop := fun xs H Q => ∃ i j, xs = [.int i, .int j] ∧ Q (.int (if j > i then j else i)) H
def rMin2D : List V → Hp → VK → Prop := fun xs H Q => ∃ i j, xs = [.int i, .int j] ∧ Q (.int (if j < i then j else i)) H
theorem cr_max2D (hc : X.calm = true) : CallR X (.builtin "max") rMax2D := call_max2 hc
theorem cr_min2D (hc : X.calm = true) : CallR X (.builtin "min") rMin2D := call_min2 hc
theorem cd_max2 : CallD rMax2D gMax2 := fun F H vs ds z l r e Q q => by
  unfold gMax2 at e
  split at e
  · cases e
    exact ⟨_, _, ints2 r, q _ F H (Gr.refl l) (.int _)⟩
  · cases e
theorem cd_min2 : CallD rMin2D gMin2 := fun F H vs ds z l r e Q q => by
  unfold gMin2 at e
  split at e
  · cases e
    exact ⟨_, _, ints2 r, q _ F H (Gr.refl l) (.int _)⟩
  · cases e
theorem cd_gcd : CallD rGcd gGcd := fun F H vs ds z l r e Q q => by
  unfold gGcd at e
  split at e
  · cases e
    exact ⟨_, _, ints2 r, q _ F H (Gr.refl l) (.int _)⟩
  · cases e
def rIntD : List V → Hp → VK → Prop := fun xs H Q => (∃ i, xs = [.int i] ∧ Q (.int i) H) ∨ ∃ b : Bool, xs = [.bl b] ∧ Q (.int (if b then 1 else 0)) H
theorem cr_int : CallR X (.type "int") rIntD := by
  intro pins s σ H xs us Q I r h
  rcases h with ⟨i, rfl, q⟩ | ⟨i, rfl, q⟩
  · cases r with
    | cons r1 r2 =>
      cases r2
      obtain ⟨t, rfl⟩ := r1
      exact call_int_int ⟨.int i, H, I, ⟨t, rfl⟩, q⟩
  · cases r with
    | cons r1 r2 =>
      cases r2
      cases r1
      exact call_int_bool ⟨.int _, H, I.tok _, ⟨_, rfl⟩, q⟩
theorem cd_int : CallD rIntD gInt := fun F H vs ds z l r e Q q => by
  unfold gInt at e
  split at e
  · cases e
    exact .inl ⟨_, ints1 r, q _ F H (Gr.refl l) (.int _)⟩
  · cases e
    rename_i b
    exact .inr ⟨b, r.bools_inv (ns := [b]), q _ F H (Gr.refl l) (.int _)⟩
  · cases e
end
end DL

set_option Elab.async false
set_option linter.all false
set_option maxRecDepth 100000
set_option maxHeartbeats 2000000
namespace DL
open PySem PySem.Spec L2

/-! ### what a loop walks: the data xs -/
structure JOk (J : It) (C : Hp → Prop) (F0 : Hp) (xs : List D) : Prop where
  go : ∀ i F H, C H → Le F0 F → Le F H → i < xs.length → J.go i H
  stop : ∀ i F H, C H → Le F0 F → Le F H → xs.length ≤ i → J.stop i H
  yld : ∀ i F H x H' d, C H → Le F0 F → Le F H → xs[i]? = some d → J.yld i H x H' → ∃ F', Gr F H F' H' ∧ Rp F' x d
theorem JOk.imp {J : It} {C C' : Hp → Prop} {F0 : Hp} {xs : List D} (j : JOk J C F0 xs) (h : ∀ H, C' H → C H) : JOk J C' F0 xs :=
  ⟨fun i F H c => j.go i F H (h H c), fun i F H c => j.stop i F H (h H c), fun i F H x H' d c => j.yld i F H x H' d (h H c)⟩
/-- for a for: whatever the body changes -/
def tIF (f : Rho → Option (List D)) : TI := fun σ H R => ∃ F ρ xs, EnvR F H σ ρ ∧ f ρ = some xs ∧ ∀ J F' H', Gr F H F' H' → JOk J (fun _ => True) F' xs → R J H'
/-- for a comprehension: nothing that stood changes -/
def tIC (f : Rho → Option (List D)) : TI := fun σ H R => ∃ F ρ xs, EnvR F H σ ρ ∧ f ρ = some xs ∧ ∀ J F' H', Gr F H F' H' → JOk J (Le H') F' xs → R J H'
abbrev DIF (X : Cx) (tg e : Expr) (f : Rho → Option (List D)) : Prop := PI X tg e (tIF f)
abbrev DIC (X : Cx) (tg e : Expr) (f : Rho → Option (List D)) : Prop := PI X tg e (tIC f)
section
variable {X : Cx} {tg e e2 : Expr} {f f2 : Rho → Option (List D)} {p pos tpos : Pos}
theorem DIF.c (h : DIF X tg e f) : DIC X tg e f := h.w fun σ H R ⟨F, ρ, xs, E, ef, q⟩ => ⟨F, ρ, xs, E, ef, fun J F' H' g j => q J F' H' g (j.imp fun _ _ => trivial)⟩

theorem j_list {K : PySem.W.Frag} {C : Hp → Prop} {F0 : Hp} {a : Addr} {vs : List V} {xs : List D} (hc : ∀ F H, C H → Le F0 F → Le F H → H a = some (.lst vs)) (r : RpAll F0 vs xs) : JOk (Itl K a) C F0 xs where
  go := fun i F H c l l2 hi => by
    obtain ⟨v, h1, _⟩ := r.get (List.getElem?_eq_getElem hi)
    exact ⟨vs, v, SqL.of (hc F H c l l2), h1⟩
  stop := fun i F H c l l2 hi => ⟨vs, SqL.of (hc F H c l l2), by rw [r.length]; exact hi⟩
  yld := fun i F H x H' d c l l2 hd ⟨e1, e2⟩ => by
    subst e1
    obtain ⟨v, h1, h2⟩ := r.get hd
    have e3 := e2 vs (SqL.of (hc F _ c l l2))
    rw [h1] at e3
    cases e3
    exact ⟨F, Gr.refl l2, h2.mono l⟩
theorem j_tup {K : PySem.W.Frag} {C : Hp → Prop} {F0 : Hp} {a : Addr} {vs : List V} {xs : List D} (hc : ∀ F H, C H → Le F0 F → Le F H → H a = some (.tup vs)) (r : RpAll F0 vs xs) : JOk (Itt K a) C F0 xs where
  go := fun i F H c l l2 hi => by
    obtain ⟨v, h1, _⟩ := r.get (List.getElem?_eq_getElem hi)
    exact ⟨vs, v, SqT.of (hc F H c l l2), h1⟩
  stop := fun i F H c l l2 hi => ⟨vs, SqT.of (hc F H c l l2), by rw [r.length]; exact hi⟩
  yld := fun i F H x H' d c l l2 hd ⟨e1, e2⟩ => by
    subst e1
    obtain ⟨v, h1, h2⟩ := r.get hd
    have e3 := e2 vs (SqT.of (hc F _ c l l2))
    rw [h1] at e3
    cases e3
    exact ⟨F, Gr.refl l2, h2.mono l⟩
/-- a list or a tuple, walked -/
def iSeq (K : PySem.W.Frag) (tl : TE) : TI := fun σ H R => tl σ H fun x H1 => ∃ a, x = .ref a ∧ (((∃ xs, SqL K H1 a xs) ∧ R (Itl K a) H1) ∨ ((∃ xs, SqT K H1 a xs) ∧ R (Itt K a) H1))
theorem pi_seq {l : Expr} {tl : TE} (hl : PE X l tl) : PI X tg l (iSeq X.K tl) := by
  refine ⟨fun pins s σ H R I h => ?_⟩
  refine thn (hl.run pins s σ H _ I h) fun v s1 ⟨x, H1, I1, r1, q1⟩ => ?_
  obtain ⟨a, e, q⟩ := q1
  subst e
  cases r1
  rcases q with ⟨⟨xs, hq⟩, q⟩ | ⟨⟨xs, hq⟩, q⟩
  · obtain ⟨its, rv, pl, hz⟩ := I1.list hq
    refine wpAny_pyIter_list pl.isList ?_
    exact ⟨_, [s1.heap.objs.size], _, _, H1, rfl, I1.kept (t' := s1.toks) fun b o q => Heap.get?_push_of_some _ q, turn_list a _, ⟨_, Heap.get?_push_size _ rfl, rfl, rfl⟩, fun b hb => by
      have z : b = s1.heap.objs.size := by simpa using hb
      subst z
      exact I1.fpOk (Nat.le_refl _) (I1.hok.fresh (Nat.le_refl _)), q⟩
  · obtain ⟨its, rv, pl, hz⟩ := I1.tuple hq
    refine wpAny_pyIter_tuple (show s1.heap.IsTuple a its.toArray from pl) ?_
    exact ⟨_, [s1.heap.objs.size], _, _, H1, rfl, I1.kept (t' := s1.toks) fun b o q => Heap.get?_push_of_some _ q, turn_tuple a _, ⟨_, Heap.get?_push_size _ rfl, rfl, rfl⟩, fun b hb => by
      have z : b = s1.heap.objs.size := by simpa using hb
      subst z
      exact I1.fpOk (Nat.le_refl _) (I1.hok.fresh (Nat.le_refl _)), q⟩
theorem DIF.seq {g : Rho → Option D} (h : DE X e g) : DIF X tg e (kQ g) := (pi_seq h).w fun σ H R ⟨F, ρ, xs, E, ef, q⟩ => by
  obtain ⟨d, e1, e2⟩ := bind_some ef
  refine ⟨F, ρ, d, E, e1, fun v F1 H1 g1 r1 => ?_⟩
  cases d <;> cases e2
  · cases r1 with
    | lst h1 h2 => exact ⟨_, rfl, .inl ⟨⟨_, SqL.of (g1.s _ _ h1)⟩, q _ F1 H1 g1 (j_list (fun F H _ l l2 => l2 _ _ (l _ _ h1)) h2)⟩⟩
  · cases r1 with
    | tup h1 h2 => exact ⟨_, rfl, .inr ⟨⟨_, SqT.of (g1.s _ _ h1)⟩, q _ F1 H1 g1 (j_tup (fun F H _ l l2 => l2 _ _ (l _ _ h1)) h2)⟩⟩
theorem DIC.seq (h : DQ X e f) : DIC X tg e f := (pi_seq h).w fun σ H R ⟨F, ρ, xs, E, ef, q⟩ => by
  refine ⟨F, ρ, xs, E, ef, fun a vs F1 H1 g1 h1 r1 => ⟨a, rfl, ?_⟩⟩
  rcases h1 with h1 | h1
  · exact .inl ⟨⟨_, SqL.of h1⟩, q _ F1 H1 g1 (j_list (fun F H c l l2 => c _ _ h1) r1)⟩
  · exact .inr ⟨⟨_, SqT.of h1⟩, q _ F1 H1 g1 (j_tup (fun F H c l l2 => c _ _ h1) r1)⟩

/-! ### range -/
def rangeD (lo c : Int) (n : Nat) : List D := (List.range n).map fun (i : Nat) => PyData.int (lo + (i : Int) * c)
theorem rangeD_get {lo c : Int} {n i : Nat} {d : D} (h : (rangeD lo c n)[i]? = some d) : d = .int (lo + (i : Int) * c) := by
  unfold rangeD at h
  rw [List.getElem?_map] at h
  by_cases hi : i < n
  · rw [List.getElem?_range hi] at h
    exact (Option.some.inj h).symm
  · rw [List.getElem?_eq_none (by simpa using hi)] at h
    cases h
theorem rangeD_len {lo c : Int} {n : Nat} : (rangeD lo c n).length = n := by simp [rangeD]
/-- a range's bound -/
def sm (j : Int) : Bool := decide (-(2 ^ 62) ≤ j) && decide (j < 2 ^ 62)
theorem sm_iff {j : Int} : sm j = true ↔ -(2 ^ 62) ≤ j ∧ j < 2 ^ 62 := by
  unfold sm
  rw [Bool.and_eq_true, decide_eq_true_iff, decide_eq_true_iff]
theorem sm_of {j : Int} (h : -1000000000 ≤ j) (h2 : j ≤ 1000000000) : sm j = true := sm_iff.mpr ⟨by omega, by omega⟩
@[simp] def gRange1 : List D → Option (List D)
  | [.int j] => if sm j = true then some (rangeD 0 1 j.toNat) else none
  | _ => none
@[simp] def gRange2 : List D → Option (List D)
  | [.int i, .int j] => if sm i = true ∧ sm j = true then some (rangeD i 1 (j - i).toNat) else none
  | _ => none
/-- downwards by one, or by a step from 1 to 2 ^ 29 -/
def stepN (i j c : Int) : Nat := if i < j then ((j - i - 1) / c + 1).toNat else 0
@[simp] def gRange3 : List D → Option (List D)
  | [.int i, .int j, .int c] => if sm i = true ∧ sm j = true then
      (if c = -1 then some (rangeD i (-1) (i - j).toNat) else none) else none
  | _ => none
@[simp] def kRange1 (f : Rho → Option (List D)) (ρ : Rho) : Option (List D) := (f ρ).bind gRange1
@[simp] def kRange2 (f : Rho → Option (List D)) (ρ : Rho) : Option (List D) := (f ρ).bind gRange2
@[simp] def kRange3 (f : Rho → Option (List D)) (ρ : Rho) : Option (List D) := (f ρ).bind gRange3
theorem j_range {lo : Int} {n : Nat} {F0 : Hp} : JOk (Itr lo n) (fun _ => True) F0 (rangeD lo 1 n) where
  go := fun i F H _ _ _ hi => by rw [rangeD_len] at hi; exact hi
  stop := fun i F H _ _ _ hi => by rw [rangeD_len] at hi; exact hi
  yld := fun i F H x H' d _ l l2 hd ⟨e1, e2⟩ => by
    subst e1
    rw [rangeD_get hd, e2, Int.mul_one]
    exact ⟨F, Gr.refl l2, .int _⟩
theorem j_rangeC {lo c : Int} {n : Nat} {F0 : Hp} : JOk (Itc lo c n) (fun _ => True) F0 (rangeD lo c n) where
  go := fun i F H _ _ _ hi => by rw [rangeD_len] at hi; exact hi
  stop := fun i F H _ _ _ hi => by rw [rangeD_len] at hi; exact hi
  yld := fun i F H x H' d _ l l2 hd ⟨e1, e2⟩ => by
    subst e1
    rw [rangeD_get hd, e2]
    exact ⟨F, Gr.refl l2, .int _⟩
theorem DIF.range1 {a : Expr} (hg : Gl X "range") (hm : X.mg "range" = none) (ha : DA X [a] f) (hs : starEach [a] X.env = [(false, eval a X.env)] := by rfl) : DIF X tg (.Call (.Name "range" p) [a] [] pos) (kRange1 f) := (pi_range1 hg hm ha hs).w fun σ H R ⟨F, ρ, xs, E, ef, q⟩ => by
  obtain ⟨ds, e1, e2⟩ := bind_some ef
  refine ⟨F, ρ, ds, E, e1, fun vs F1 H1 g1 r1 => ?_⟩
  unfold gRange1 at e2
  split at e2
  · split at e2
    · rename_i hj
      cases e2
      exact ⟨_, ints1 r1, (sm_iff.mp hj).1, (sm_iff.mp hj).2, q _ F1 H1 g1 j_range⟩
    · cases e2
  · cases e2
theorem DIF.range2 {a b : Expr} (hg : Gl X "range") (hm : X.mg "range" = none) (ha : DA X [a, b] f) (hs : starEach [a, b] X.env = [(false, eval a X.env), (false, eval b X.env)] := by rfl) (hs2 : starEach [b] X.env = [(false, eval b X.env)] := by rfl) : DIF X tg (.Call (.Name "range" p) [a, b] [] pos) (kRange2 f) := (pi_range2 hg hm ha hs hs2).w fun σ H R ⟨F, ρ, xs, E, ef, q⟩ => by
  obtain ⟨ds, e1, e2⟩ := bind_some ef
  refine ⟨F, ρ, ds, E, e1, fun vs F1 H1 g1 r1 => ?_⟩
  unfold gRange2 at e2
  split at e2
  · split at e2
    · rename_i hj
      cases e2
      exact ⟨_, _, ints2 r1, ⟨(sm_iff.mp hj.1).1, (sm_iff.mp hj.1).2, (sm_iff.mp hj.2).1, (sm_iff.mp hj.2).2⟩, q _ F1 H1 g1 j_range⟩
    · cases e2
  · cases e2
theorem DIF.range3 {a b c : Expr} (hg : Gl X "range") (hm : X.mg "range" = none) (ha : DA X [a, b, c] f) (hs : starEach [a, b, c] X.env = (false, eval a X.env) :: starEach [b, c] X.env := by rfl) (hpl : (backTo pos (starEach [b, c] X.env)).any (·.1) = false := by rfl) : DIF X tg (.Call (.Name "range" p) [a, b, c] [] pos) (kRange3 f) := (pi_range3 hg hm ha hs hpl).w fun σ H R ⟨F, ρ, xs, E, ef, q⟩ => by
  obtain ⟨ds, e1, e2⟩ := bind_some ef
  refine ⟨F, ρ, ds, E, e1, fun vs F1 H1 g1 r1 => ?_⟩
  unfold gRange3 at e2
  split at e2
  · split at e2
    · rename_i i j c hj
      split at e2
      · rename_i hc
        subst hc
        cases e2
        exact ⟨i, j, -1, _, r1.ints_inv (ns := [i, j, -1]), RgC.neg (sm_iff.mp hj.1).1 (sm_iff.mp hj.1).2 (sm_iff.mp hj.2).1 (sm_iff.mp hj.2).2, q _ F1 H1 g1 j_rangeC⟩
      · cases e2
    · cases e2
  · cases e2

/-! ### enumerate, zip -/
def enumD : Nat → List D → List D
  | _, [] => []
  | i, x :: xs => .tuple [.int (i : Int), x] :: enumD (i + 1) xs
theorem enumD_len : ∀ (xs : List D) (i : Nat), (enumD i xs).length = xs.length
  | [], _ => rfl
  | _ :: xs, i => by simp [enumD, enumD_len xs]
theorem enumD_get : ∀ {xs : List D} {k i : Nat} {d : D}, (enumD k xs)[i]? = some d → ∃ x, xs[i]? = some x ∧ d = .tuple [.int ((k + i : Nat) : Int), x]
  | [], _, _, _, h => by simp [enumD] at h
  | x :: xs, k, 0, d, h => by
    simp [enumD] at h
    exact ⟨x, rfl, h.symm⟩
  | x :: xs, k, i + 1, d, h => by
    obtain ⟨y, h1, h2⟩ := enumD_get (xs := xs) (k := k + 1) (i := i) (d := d) (by simpa [enumD] using h)
    exact ⟨y, by simpa using h1, by rw [h2, show k + 1 + i = k + (i + 1) by omega]⟩
def zipD : List D → List D → List D
  | x :: xs, y :: ys => .tuple [x, y] :: zipD xs ys
  | _, _ => []
theorem zipD_len : ∀ (xs ys : List D), (zipD xs ys).length = min xs.length ys.length
  | [], ys => by cases ys <;> simp [zipD]
  | _ :: _, [] => by simp [zipD]
  | _ :: xs, _ :: ys => by simp [zipD, zipD_len xs ys]
theorem zipD_get : ∀ {xs ys : List D} {i : Nat} {d : D}, (zipD xs ys)[i]? = some d → ∃ x y, xs[i]? = some x ∧ ys[i]? = some y ∧ d = .tuple [x, y]
  | [], ys, _, _, h => by cases ys <;> simp [zipD] at h
  | _ :: _, [], _, _, h => by simp [zipD] at h
  | x :: xs, y :: ys, 0, d, h => by
    simp [zipD] at h
    exact ⟨x, y, rfl, rfl, h.symm⟩
  | x :: xs, y :: ys, i + 1, d, h => by
    obtain ⟨a, b, h1, h2, h3⟩ := zipD_get (xs := xs) (ys := ys) (i := i) (d := d) (by simpa [zipD] using h)
    exact ⟨a, b, by simpa using h1, by simpa using h2, h3⟩
theorem frz_pair {F H : Hp} {T : Addr} {x y : V} {dx dy : D} (l : Le F H) (hT : H T = none) (r1 : Rp F x dx) (r2 : Rp F y dy) : ∃ F', Gr F H F' (upd H T (.tup [x, y])) ∧ Rp F' (.ref T) (.tuple [dx, dy]) := by
  have lf := Le.new (H := F) (o := HO.tup [x, y]) (free_of l hT)
  exact ⟨_, Gr.frz l hT, .tup upd_same (.cons (r1.mono lf) (.cons (r2.mono lf) .nil))⟩
theorem j_enum {K : PySem.W.Frag} {C : Hp → Prop} {F0 : Hp} {a : Addr} {vs : List V} {xs : List D} (hc : ∀ F H, C H → Le F0 F → Le F H → H a = some (.lst vs)) (r : RpAll F0 vs xs) : JOk (Ite K a) C F0 (enumD 0 xs) where
  go := fun i F H c l l2 hi => by
    rw [enumD_len] at hi
    obtain ⟨v, h1, _⟩ := r.get (List.getElem?_eq_getElem hi)
    exact ⟨vs, v, SqL.of (hc F H c l l2), h1⟩
  stop := fun i F H c l l2 hi => ⟨vs, SqL.of (hc F H c l l2), by rw [r.length]; rw [enumD_len] at hi; exact hi⟩
  yld := fun i F H x H' d c l l2 hd ⟨T, y, e1, hT, e2, e3⟩ => by
    subst e1; subst e2
    obtain ⟨z, h1, rfl⟩ := enumD_get hd
    obtain ⟨v, h2, h3⟩ := r.get h1
    have e4 := e3 vs (SqL.of (hc F _ c l l2))
    rw [h2] at e4
    cases e4
    rw [Nat.zero_add]
    exact frz_pair l2 hT (.int _) (h3.mono l)
theorem j_zip {K : PySem.W.Frag} {C : Hp → Prop} {F0 : Hp} {a b : Addr} {vs us : List V} {xs ys : List D} (hc : ∀ F H, C H → Le F0 F → Le F H → H a = some (.lst vs)) (hc2 : ∀ F H, C H → Le F0 F → Le F H → H b = some (.lst us)) (r : RpAll F0 vs xs) (r2 : RpAll F0 us ys) : JOk (Itz K a b) C F0 (zipD xs ys) where
  go := fun i F H c l l2 hi => by
    rw [zipD_len] at hi
    obtain ⟨v, h1, _⟩ := r.get (List.getElem?_eq_getElem (by omega : i < xs.length))
    obtain ⟨u, h2, _⟩ := r2.get (List.getElem?_eq_getElem (by omega : i < ys.length))
    exact ⟨vs, us, v, u, SqL.of (hc F H c l l2), SqL.of (hc2 F H c l l2), h1, h2⟩
  stop := fun i F H c l l2 hi => ⟨vs, us, SqL.of (hc F H c l l2), SqL.of (hc2 F H c l l2), by rw [r.length, r2.length]; rw [zipD_len] at hi; omega⟩
  yld := fun i F H x H' d c l l2 hd ⟨T, x1, y1, e1, hT, e2, e3, e4⟩ => by
    subst e1; subst e2
    obtain ⟨z, w, h1, h2, rfl⟩ := zipD_get hd
    obtain ⟨v, h3, h4⟩ := r.get h1
    obtain ⟨u, h5, h6⟩ := r2.get h2
    have e5 := e3 vs (SqL.of (hc F _ c l l2))
    have e6 := e4 us (SqL.of (hc2 F _ c l l2))
    rw [h3] at e5
    rw [h5] at e6
    cases e5; cases e6
    exact frz_pair l2 hT (h4.mono l) (h6.mono l)
theorem j_zipT {K : PySem.W.Frag} {C : Hp → Prop} {F0 : Hp} {a b : Addr} {vs us : List V} {xs ys : List D} (hc : ∀ F H, C H → Le F0 F → Le F H → H a = some (.tup vs)) (hc2 : ∀ F H, C H → Le F0 F → Le F H → H b = some (.tup us)) (r : RpAll F0 vs xs) (r2 : RpAll F0 us ys) : JOk (RZ.ItzT K a b) C F0 (zipD xs ys) where
  go := fun i F H c l l2 hi => by
    rw [zipD_len] at hi
    obtain ⟨v, h1, _⟩ := r.get (List.getElem?_eq_getElem (by omega : i < xs.length))
    obtain ⟨u, h2, _⟩ := r2.get (List.getElem?_eq_getElem (by omega : i < ys.length))
    exact ⟨vs, us, v, u, SqT.of (hc F H c l l2), SqT.of (hc2 F H c l l2), h1, h2⟩
  stop := fun i F H c l l2 hi => ⟨vs, us, SqT.of (hc F H c l l2), SqT.of (hc2 F H c l l2), by rw [r.length, r2.length]; rw [zipD_len] at hi; omega⟩
  yld := fun i F H x H' d c l l2 hd ⟨T, x1, y1, e1, hT, e2, e3, e4⟩ => by
    subst e1; subst e2
    obtain ⟨z, w, h1, h2, rfl⟩ := zipD_get hd
    obtain ⟨v, h3, h4⟩ := r.get h1
    obtain ⟨u, h5, h6⟩ := r2.get h2
    have e5 := e3 vs (SqT.of (hc F _ c l l2))
    have e6 := e4 us (SqT.of (hc2 F _ c l l2))
    rw [h3] at e5
    rw [h5] at e6
    cases e5; cases e6
    exact frz_pair l2 hT (h4.mono l) (h6.mono l)
variable {elts : List Expr} {kk : Nat}
@[simp] def kEnum (f : Rho → Option (List D)) (ρ : Rho) : Option (List D) := (f ρ).bind fun xs => some (enumD 0 xs)
@[simp] def kZip (f g : Rho → Option (List D)) (ρ : Rho) : Option (List D) := (f ρ).bind fun xs => (g ρ).bind fun ys => some (zipD xs ys)
theorem DIF.enum {g : Rho → Option D} (hg : Gl X "enumerate") (hm : X.mg "enumerate" = none) (h : DE X e g) (hs : starEach [e] X.env = [(false, eval e X.env)] := by rfl) (hs2 : starEach [e] X.env = (false, eval e X.env) :: starEach [] X.env := by rfl) : DIF X (.Tuple elts kk tpos) (.Call (.Name "enumerate" p) [e] [] pos) (kEnum (kL g)) := (pi_enum hg hm (pa_cons h pa_nil hs2) hs).w fun σ H R ⟨F, ρ, xs, E, ef, q⟩ => by
  obtain ⟨ys, e1, e2⟩ := bind_some ef
  cases e2
  obtain ⟨d, e1, e2⟩ := bind_some e1
  refine ⟨F, ρ, d, E, e1, fun v F1 H1 g1 r1 => ?_⟩
  cases d <;> cases e2
  cases r1 with
  | lst h1 h2 => exact ⟨_, _, rfl, SqL.of (g1.s _ _ h1), q _ F1 H1 g1 (j_enum (fun F H _ l l2 => l2 _ _ (l _ _ h1)) h2)⟩
theorem DIC.enum (hg : Gl X "enumerate") (hm : X.mg "enumerate" = none) (h : DLs X e f) (hs : starEach [e] X.env = [(false, eval e X.env)] := by rfl) (hs2 : starEach [e] X.env = (false, eval e X.env) :: starEach [] X.env := by rfl) : DIC X (.Tuple elts kk tpos) (.Call (.Name "enumerate" p) [e] [] pos) (kEnum f) := (pi_enum hg hm (pa_cons h pa_nil hs2) hs).w fun σ H R ⟨F, ρ, xs, E, ef, q⟩ => by
  obtain ⟨ys, e1, e2⟩ := bind_some ef
  cases e2
  exact ⟨F, ρ, ys, E, e1, fun a vs F1 H1 g1 h1 r1 => ⟨a, vs, rfl, SqL.of h1, q _ F1 H1 g1 (j_enum (fun F H c _ _ => c _ _ h1) r1)⟩⟩
/-- zip of two lists, of two tuples -/
@[simp] def gZip : D → D → Option (List D)
  | .list xs, .list ys => some (zipD xs ys)
  | .tuple xs, .tuple ys => some (zipD xs ys)
  | _, _ => none
@[simp] def kZipD (f g : Rho → Option D) (ρ : Rho) : Option (List D) := (f ρ).bind fun x => (g ρ).bind fun y => gZip x y
theorem DIF.zip {g1 g2 : Rho → Option D} (hg : Gl X "zip") (hm : X.mg "zip" = none) (h : DE X e g1) (h2 : DE X e2 g2) (hs : starEach [e, e2] X.env = (false, eval e X.env) :: starEach [e2] X.env := by rfl) (hs2 : starEach [e2] X.env = (false, eval e2 X.env) :: starEach [] X.env := by rfl) (hpl : (backTo pos (starEach [e2] X.env)).any (·.1) = false := by rfl) :
    DIF X (.Tuple elts kk tpos) (.Call (.Name "zip" p) [e, e2] [] pos) (kZipD g1 g2) := (RZ.pi_zipA hg hm (pa_cons h (pa_cons h2 pa_nil hs2) hs) hs hpl).w fun σ H R ⟨F, ρ, xs, E, ef, q⟩ => by
  obtain ⟨x, e1, ef⟩ := bind_some ef
  obtain ⟨y, e2, ef⟩ := bind_some ef
  refine ⟨F, ρ, x, E, e1, fun v F1 H1 g1 r1 => ⟨F1, ρ, y, E.gr g1, e2, fun u F2 H2 g2 r2 => ?_⟩⟩
  unfold gZip at ef
  split at ef
  · cases ef
    cases r1 with
    | lst h1 h2 =>
      cases r2 with
      | lst h3 h4 =>
        have h1' := g2.f _ _ h1
        exact ⟨_, _, _, _, rfl, .inl ⟨SqL.of (g2.s _ _ h1'), SqL.of (g2.s _ _ h3), q _ F2 H2 (g1.trans g2) (j_zip (fun F H _ l l2 => l2 _ _ (l _ _ h1')) (fun F H _ l l2 => l2 _ _ (l _ _ h3)) (h2.mono g2.f) h4)⟩⟩
  · cases ef
    cases r1 with
    | tup h1 h2 =>
      cases r2 with
      | tup h3 h4 =>
        have h1' := g2.f _ _ h1
        exact ⟨_, _, _, _, rfl, .inr ⟨SqT.of (g2.s _ _ h1'), SqT.of (g2.s _ _ h3), q _ F2 H2 (g1.trans g2) (j_zipT (fun F H _ l l2 => l2 _ _ (l _ _ h1')) (fun F H _ l l2 => l2 _ _ (l _ _ h3)) (h2.mono g2.f) h4)⟩⟩
  · cases ef
theorem DIC.zip (hg : Gl X "zip") (hm : X.mg "zip" = none) (h : DLs X e f) (h2 : DLs X e2 f2) (hs : starEach [e, e2] X.env = (false, eval e X.env) :: starEach [e2] X.env := by rfl) (hs2 : starEach [e2] X.env = (false, eval e2 X.env) :: starEach [] X.env := by rfl) (hpl : (backTo pos (starEach [e2] X.env)).any (·.1) = false := by rfl) :
    DIC X (.Tuple elts kk tpos) (.Call (.Name "zip" p) [e, e2] [] pos) (kZip f f2) := (pi_zip hg hm (pa_cons h (pa_cons h2 pa_nil hs2) hs) hs hpl).w fun σ H R ⟨F, ρ, xs, E, ef, q⟩ => by
  obtain ⟨x, e1, ef⟩ := bind_some ef
  obtain ⟨y, e2, ef⟩ := bind_some ef
  cases ef
  refine ⟨F, ρ, x, E, e1, fun a vs F1 H1 g1 h1 r1 => ⟨F1, ρ, y, E.gr g1, e2, fun b us F2 H2 g2 h3 r2 => ?_⟩⟩
  have h1' := g2.h _ _ h1
  exact ⟨_, _, _, _, rfl, SqL.of h1', SqL.of h3, q _ F2 H2 (g1.trans g2) (j_zip (fun F H c _ _ => c _ _ h1') (fun F H c _ _ => c _ _ h3) (r1.mono g2.f) r2)⟩
end
end DL

set_option Elab.async false
set_option linter.all false
set_option maxRecDepth 100000
set_option maxHeartbeats 2000000
namespace DL
open PySem PySem.Spec L2

/-! ### targets: names, tuples of names; the slots that they store at: js -/
def Only (js : List Nat) (σ σ' : L2.St) : Prop := σ'.length = σ.length ∧ ∀ j, j ∉ js → σ'[j]? = σ[j]?
theorem Only.refl {js : List Nat} {σ : L2.St} : Only js σ σ := ⟨rfl, fun _ _ => rfl⟩
theorem Only.trans {js ks : List Nat} {σ σ1 σ2 : L2.St} (a : Only js σ σ1) (b : Only ks σ1 σ2) : Only (js ++ ks) σ σ2 :=
  ⟨b.1.trans a.1, fun j h => (b.2 j fun z => h (List.mem_append_right _ z)).trans (a.2 j fun z => h (List.mem_append_left _ z))⟩
theorem Only.set {σ : L2.St} {i : Nat} {o : Option V} : Only [i] σ (σ.set i o) := ⟨by simp, fun j h => List.getElem?_set_ne (fun e => h (by simp [e]))⟩
def tG (js : List Nat) (g : D → Rho → Option Rho) : TG := fun v σ H Q => ∃ F ρ d ρ', EnvR F H σ ρ ∧ Rp F v d ∧ g d ρ = some ρ' ∧ ∀ σ', EnvR F H σ' ρ' → Only js σ σ' → Q σ' H
def tGs (js : List Nat) (g : List D → Rho → Option Rho) : TGs := fun vs σ H Q => ∃ F ρ ds ρ', EnvR F H σ ρ ∧ RpAll F vs ds ∧ g ds ρ = some ρ' ∧ ∀ σ', EnvR F H σ' ρ' → Only js σ σ' → Q σ' H
abbrev DG (X : Cx) (e : Expr) (js : List Nat) (g : D → Rho → Option Rho) : Prop := PG X e (tG js g)
abbrev DGs (X : Cx) (e : List Expr) (js : List Nat) (g : List D → Rho → Option Rho) : Prop := PGs X e (tGs js g)
theorem _root_.L2.PGs.w {X : Cx} {e : List Expr} {t t' : TGs} (h : PGs X e t) (w : ∀ v σ H Q, t' v σ H Q → t v σ H Q) : PGs X e t' := ⟨fun pins s σ H v u Q I r q => h.run pins s σ H v u Q I r (w v σ H Q q)⟩
@[simp] def sName (i : Nat) (d : D) (ρ : Rho) : Option Rho := some (ρ.set i (.fr d))
@[simp] def sNil (ds : List D) (ρ : Rho) : Option Rho := match ds with
  | [] => some ρ
  | _ => none
@[simp] def sCons (g : D → Rho → Option Rho) (h : List D → Rho → Option Rho) (ds : List D) (ρ : Rho) : Option Rho := match ds with
  | d :: r => (g d ρ).bind fun ρ' => h r ρ'
  | _ => none
@[simp] def sTup (n : Nat) (h : List D → Rho → Option Rho) (d : D) (ρ : Rho) : Option Rho := match d with
  | .tuple ds => if ds.length = n then h ds ρ else none
  | _ => none
section
variable {X : Cx} {e : Expr} {es : List Expr} {pos : Pos}
theorem DG.name {i : Nat} {x : Str} (hN : X.N.Nodup) (hi : X.N[i]? = some x) (hx : Loc X.env.scope x) (hf : X.fn x = true ∨ X.env.scope.names.lookup x = some .local := by first | exact .inl rfl | exact .inr rfl | assumption) : DG X (.Name x pos) [i] (sName i) :=
  (pg_name hN hi hx hf).w fun v σ H Q ⟨F, ρ, d, ρ', E, r, eg, q⟩ => by
    cases eg
    exact q _ (E.set i r) Only.set
theorem DGs.nil : DGs X [] [] sNil := pgs_nil.w fun v σ H Q ⟨F, ρ, ds, ρ', E, r, eg, q⟩ => by
  unfold sNil at eg
  split at eg <;> cases eg
  cases r
  exact ⟨rfl, q σ E Only.refl⟩
theorem DGs.cons {js ks : List Nat} {g : D → Rho → Option Rho} {h : List D → Rho → Option Rho} (h1 : DG X e js g) (h2 : DGs X es ks h) (hs : (assignEach (e :: es) X.env).map (·.2) = assign e X.env :: (assignEach es X.env).map (·.2) := by rfl) : DGs X (e :: es) (js ++ ks) (sCons g h) :=
  (pgs_cons h1 h2 hs).w fun vs σ H Q ⟨F, ρ, ds, ρ', E, r, eg, q⟩ => by
    cases r with
    | nil => cases eg
    | cons r1 r2 =>
      obtain ⟨ρ1, e1, e2⟩ := bind_some (show (g _ ρ).bind _ = _ from eg)
      exact ⟨_, _, rfl, F, ρ, _, ρ1, E, r1, e1, fun σ1 E1 o1 => ⟨F, ρ1, _, ρ', E1, r2, e2, fun σ2 E2 o2 => q σ2 E2 (o1.trans o2)⟩⟩
theorem DG.tup {js : List Nat} {g : List D → Rho → Option Rho} {k n : Nat} (hc : X.calm = true) (h : DGs X es js g) (hn : (assignEach es X.env).length = n := by rfl) (hst : (assignEach es X.env).findIdx? (·.1) = none := by rfl) : DG X (.Tuple es k pos) js (sTup n g) :=
  (pg_tup hc h hn hst).w fun v σ H Q ⟨F, ρ, d, ρ', E, r, eg, q⟩ => by
    unfold sTup at eg
    split at eg
    · split at eg
      · rename_i ds hl
        cases r with
        | tup h1 h2 => exact ⟨_, _, rfl, SqT.of (E.le _ _ h1), by rw [h2.length]; exact hl, F, ρ, ds, ρ', E, h2, eg, q⟩
      · cases eg
    · cases eg
end

/-! ### comprehensions -/
def wipeE (ρ : Rho) : List Nat → Rho
  | [] => ρ
  | v :: vs => (wipeE ρ vs).set v .un
theorem EnvR.un {F H : Hp} {σ : L2.St} {ρ : Rho} (E : EnvR F H σ ρ) (i : Nat) {o0 : Option V} : EnvR F H (σ.set i o0) (ρ.set i .un) := by
  refine ⟨E.le, fun j s e => ?_, fun j k a s t e1 e2 o1 o2 h1 h2 => ?_⟩
  · by_cases q : i = j
    · subst q
      by_cases l : i < ρ.length
      · rw [List.getElem?_set_self l] at e
        obtain ⟨o, h, _⟩ := E.sl i ρ[i] (List.getElem?_eq_getElem l)
        cases e
        exact ⟨_, List.getElem?_set_self (List.getElem?_eq_some_iff.mp h).1, trivial⟩
      · rw [List.getElem?_eq_none (by simpa using l)] at e; cases e
    · rw [List.getElem?_set_ne q] at e ⊢
      exact E.sl j s e
  · have go : ∀ (j : Nat) (s : Sl), (ρ.set i .un)[j]? = some s → s.own = true → i ≠ j ∧ ρ[j]? = some s := fun j s e o => by
      by_cases q : i = j
      · subst q
        by_cases l : i < ρ.length
        · rw [List.getElem?_set_self l] at e; cases e; cases o
        · rw [List.getElem?_eq_none (by simpa using l)] at e; cases e
      · rw [List.getElem?_set_ne q] at e; exact ⟨q, e⟩
    obtain ⟨n1, e1⟩ := go j s e1 o1
    obtain ⟨n2, e2⟩ := go k t e2 o2
    rw [List.getElem?_set_ne n1] at h1
    rw [List.getElem?_set_ne n2] at h2
    exact E.ap j k a s t e1 e2 o1 o2 h1 h2
theorem EnvR.wipe {F H : Hp} {σ : L2.St} {ρ : Rho} (E : EnvR F H σ ρ) : ∀ vs : List Nat, EnvR F H (L2.wipe σ vs) (wipeE ρ vs)
  | [] => E
  | v :: vs => (E.wipe vs).un v
theorem wipe_get (σ : L2.St) (j : Nat) : ∀ vs : List Nat, (L2.wipe σ vs)[j]? = if j ∈ vs ∧ j < σ.length then some none else σ[j]?
  | [] => by simp [L2.wipe]
  | v :: vs => by
    have ih := wipe_get σ j vs
    unfold L2.wipe
    by_cases h : v = j
    · subst h
      by_cases l : v < σ.length
      · rw [List.getElem?_set_self (by rw [wipe_length]; exact l), if_pos ⟨List.mem_cons_self, l⟩]
      · rw [List.getElem?_eq_none (by simpa [wipe_length] using l), if_neg (fun z => l z.2), List.getElem?_eq_none (by simpa using l)]
    · rw [List.getElem?_set_ne h, ih]
      have : j ∈ v :: vs ↔ j ∈ vs := by simp [Ne.symm h]
      simp only [this]
theorem wipe_only {σ σ' : L2.St} {vs : List Nat} (o : Only vs (L2.wipe σ vs) σ') : L2.wipe σ' vs = L2.wipe σ vs := by
  have hl : σ'.length = σ.length := o.1.trans (wipe_length σ vs)
  apply List.ext_getElem?
  intro j
  rw [wipe_get, wipe_get, hl]
  split
  · rfl
  · rename_i h
    by_cases m : j ∈ vs
    · have l : ¬ j < σ.length := fun l => h ⟨m, l⟩
      rw [List.getElem?_eq_none (by omega), List.getElem?_eq_none (by omega)]
    · rw [o.2 j m, wipe_get, if_neg (fun z => m z.1)]
theorem Only.mono {js ks : List Nat} {σ σ' : L2.St} (o : Only js σ σ') (h : ∀ j ∈ js, j ∈ ks) : Only ks σ σ' := ⟨o.1, fun j n => o.2 j fun z => n (h j z)⟩
abbrev DTs (X : Cx) (e : List Expr) (f : Rho → Option Bool) : Prop := PTs X e (tT f)
theorem _root_.L2.PTs.w {X : Cx} {e : List Expr} {t t' : TT} (h : PTs X e t) (w : ∀ σ H Q, t' σ H Q → t σ H Q) : PTs X e t' := ⟨fun pins s σ H Q I q => h.run pins s σ H Q I (w σ H Q q)⟩
@[simp] def kYes (_ : Rho) : Option Bool := some true
theorem DTs.nil {X : Cx} : DTs X [] kYes := pts_nil.w fun σ H Q ⟨F, ρ, b, E, ef, q⟩ => by
  cases ef
  exact q F H (Gr.refl E.le)
theorem DTs.one {X : Cx} {c : Expr} {f : Rho → Option Bool} (h : DT X c f) : DTs X [c] f := pts_one h
/-- the items made -/
def compGo (g : D → Rho → Option Rho) (tt : Rho → Option Bool) (te : Rho → Option D) (ρ0 : Rho) : List D → Option (List D)
  | [] => some []
  | x :: xs => (g x ρ0).bind fun ρ1 => (tt ρ1).bind fun b => if b = true then (te ρ1).bind fun y => (compGo g tt te ρ0 xs).bind fun ys => some (y :: ys) else compGo g tt te ρ0 xs
def fit (ys : List D) : Option Rv := if ys.length ≤ line then some (.ow ys) else none
@[simp] def kComp (vs : List Nat) (src : Rho → Option (List D)) (g : D → Rho → Option Rho) (tt : Rho → Option Bool) (te : Rho → Option D) (ρ : Rho) : Option Rv :=
  (src ρ).bind fun xs => (compGo g tt te (wipeE ρ vs) xs).bind fit
theorem fit_inv {ys : List D} {r : Rv} (h : fit ys = some r) : ys.length ≤ line ∧ r = .ow ys := by
  unfold fit at h
  split at h
  · rename_i hl; cases h; exact ⟨hl, rfl⟩
  · cases h
/-- what holds within a comprehension -/
structure Acc (F1 H1 : Hp) (D0 : Addr) (F' H' : Hp) (dn : List D) : Prop where
  gr : Gr F1 H1 F' H'
  at_ : ∃ acc, H' D0 = some (.lst acc) ∧ RpAll F' acc dn
  fz : F' D0 = none
theorem Acc.start {F1 H1 : Hp} {D0 : Addr} (l : Le F1 H1) (h : H1 D0 = none) : Acc F1 H1 D0 F1 (upd H1 D0 (.lst [])) [] :=
  ⟨Gr.lay l h, ⟨[], upd_same, .nil⟩, free_of l h⟩
theorem Acc.step {F1 H1 F' H' F2 H2 : Hp} {D0 : Addr} {dn : List D} (a : Acc F1 H1 D0 F' H' dn) (g : Gr F' H' F2 H2) : Acc F1 H1 D0 F2 H2 dn := by
  obtain ⟨acc, h1, h2⟩ := a.at_
  exact ⟨a.gr.trans g, ⟨acc, g.h _ _ h1, h2.mono g.f⟩, g.g _ a.fz (by rw [h1]; exact fun z => nomatch z)⟩
theorem Acc.put {F1 H1 F' H' : Hp} {D0 : Addr} {dn : List D} {y : V} {d : D} (a : Acc F1 H1 D0 F' H' dn) (h0 : H1 D0 = none) (r : Rp F' y d) {acc : List V} (h : H' D0 = some (.lst acc)) : Acc F1 H1 D0 F' (upd H' D0 (.lst (acc ++ [y]))) (dn ++ [d]) := by
  obtain ⟨acc', h1, h2⟩ := a.at_
  rw [h] at h1
  cases h1
  have ne : ∀ b o, F' b = some o → b ≠ D0 := fun b o e z => by rw [z, a.fz] at e; cases e
  refine ⟨⟨a.gr.f, fun b o e => ?_, fun b o e => ?_, fun b e1 e2 => a.gr.g b e1 e2⟩, ⟨_, upd_same, h2.append (.cons r .nil)⟩, a.fz⟩
  · rw [upd_ne (ne_of_none e h0)]; exact a.gr.h b o e
  · rw [upd_ne (ne b o e)]; exact a.gr.s b o e
theorem Acc.len {F1 H1 F' H' : Hp} {D0 : Addr} {dn : List D} (a : Acc F1 H1 D0 F' H' dn) {acc : List V} (h : H' D0 = some (.lst acc)) : acc.length = dn.length := by
  obtain ⟨acc', h1, h2⟩ := a.at_
  rw [h] at h1
  cases h1
  exact h2.length
section
variable {X : Cx} {elt tg iter : Expr} {ifs : List Expr} {scope : Scope} {own : List (Str × Nat)} {pos : Pos} {src : Rho → Option (List D)} {g : D → Rho → Option Rho} {tt : Rho → Option Bool} {te : Rho → Option D} {js : List Nat}
theorem lc_w (hjs : ∀ j ∈ js, j ∈ own.map (·.2)) (σ : L2.St) (H : Hp) (Q : VK) (h : tR (kComp (own.map (·.2)) src g tt te) σ H Q) : tLc (tIC src) (tG js g) (tT tt) (tE te) (own.map (·.2)) σ H Q := by
  obtain ⟨F, ρ, r, E, ef, q⟩ := h
  obtain ⟨xs, e1, ef⟩ := bind_some ef
  obtain ⟨ys, e2, ef⟩ := bind_some ef
  obtain ⟨hl, rfl⟩ := fit_inv ef
  refine ⟨F, ρ, xs, E, e1, fun J F1 H1 g1 j D0 h0 => ?_⟩
  refine ⟨fun i m H' => m = xs.length - i ∧ i ≤ xs.length ∧ ∃ F' dn rest, Acc F1 H1 D0 F' H' dn ∧ compGo g tt te (wipeE ρ (own.map (·.2))) (xs.drop i) = some rest ∧ dn ++ rest = ys, ⟨xs.length, by simp, Nat.zero_le _, F1, [], ys, Acc.start g1.s h0, by simpa using e2, rfl⟩, ?_⟩
  rintro i m H' ⟨rfl, hi, F', dn, rest, a, hr, hy⟩
  by_cases hlt : i < xs.length
  · refine .inr ⟨j.go i F' H' a.gr.h a.gr.f a.gr.s hlt, fun H2 => ∃ F2 dn rest, Acc F1 H1 D0 F2 H2 dn ∧ compGo g tt te (wipeE ρ (own.map (·.2))) (xs.drop (i + 1)) = some rest ∧ dn ++ rest = ys, fun H2 ⟨F2, dn, rest, a2, b2, c2⟩ => ⟨xs.length - (i + 1), by omega, rfl, hlt, F2, dn, rest, a2, b2, c2⟩, fun x H2 y2 => ?_⟩
    obtain ⟨F2, gy, rx⟩ := j.yld i F' H' x H2 xs[i] a.gr.h a.gr.f a.gr.s (List.getElem?_eq_getElem hlt) y2
    have a2 := a.step gy
    rw [List.drop_eq_getElem_cons hlt] at hr
    obtain ⟨ρ1, e3, hr⟩ := bind_some (show (g _ _).bind _ = _ from hr)
    obtain ⟨b, e4, hr⟩ := bind_some hr
    refine ⟨F2, _, xs[i], ρ1, (E.wipe _).gr (g1.trans a2.gr), rx, e3, fun σ2 E2 o2 => ⟨wipe_only (o2.mono hjs), F2, ρ1, b, E2, e4, fun F3 H3 g3 => ?_⟩⟩
    have a3 := a2.step g3
    cases b with
    | false =>
      rw [if_neg Bool.false_ne_true] at hr
      exact iteF ⟨F3, dn, rest, a3, hr, hy⟩
    | true =>
      rw [if_pos rfl] at hr
      refine iteT ?_
      obtain ⟨y, e5, hr⟩ := bind_some hr
      obtain ⟨rest', e6, hr⟩ := bind_some hr
      cases hr
      refine ⟨F3, ρ1, y, E2.gr g3, e5, fun v F4 H4 g4 r4 => ?_⟩
      have a4 := a3.step g4
      obtain ⟨acc, h4, h5⟩ := a4.at_
      refine ⟨acc, h4, ?_, F4, dn ++ [y], rest', a4.put h0 r4 h4, e6, by rw [List.append_assoc]; exact hy⟩
      rw [h5.length, line_eq]
      have := congrArg List.length hy
      simp at this
      omega
  · have : i = xs.length := by omega
    subst this
    rw [List.drop_length] at hr
    cases hr
    rw [List.append_nil] at hy
    subst hy
    refine .inl ⟨j.stop _ F' H' a.gr.h a.gr.f a.gr.s (Nat.le_refl _), ?_⟩
    obtain ⟨acc, h4, h5⟩ := a.at_
    exact q _ F' H' (g1.trans a.gr) ⟨D0, acc, rfl, free_of g1.h h0, a.fz, h4, h5⟩
theorem DR.lc (hc : X.calm = true) (hN : X.N.Nodup) (hi : DIC X tg iter src) (ok : BlkOk X.N X.env.scope scope own)
    (hg : ∀ (s : Shared) (H : Hp) (C : Addr) (cl : List (Str × Addr)) (fp : List Addr), DG (X.blk s H scope (compEnvC scope cl C X.env) fp) tg js g)
    (ht : ∀ (s : Shared) (H : Hp) (C : Addr) (cl : List (Str × Addr)) (fp : List Addr), DTs (X.blk s H scope (compEnvC scope cl C X.env) fp) ifs tt)
    (he : ∀ (s : Shared) (H : Hp) (C : Addr) (cl : List (Str × Addr)) (fp : List Addr), DE (X.blk s H scope (compEnvC scope cl C X.env) fp) elt te)
    (hjs : ∀ j ∈ js, j ∈ own.map (·.2) := by decide) (hs : ∀ x, foldedSetIterable iter X.env x = pure x := by intro _; rfl) : DR X (.ListComp elt [⟨tg, iter, ifs, 0⟩] scope pos) (kComp (own.map (·.2)) src g tt te) :=
  (pe_lc hc hN hi ok hg ht he hs).w (lc_w hjs)
end
end DL

set_option Elab.async false
set_option linter.all false
set_option maxRecDepth 100000
set_option maxHeartbeats 2000000
namespace DL
open PySem PySem.Spec L2

/-! ### statements -/
inductive Fl where
  | nx (ρ : Rho)
  | br (ρ : Rho)
  | ct (ρ : Rho)
  | rt (r : Rv)
  | ex (c : Str) (i : Int)
/-- the state in a def's body; F0, H0: at its entry -/
structure StOk (F0 H0 F H : Hp) (σ : L2.St) (ρ : Rho) : Prop where
  env : EnvR F H σ ρ
  gr : Gr F0 H0 F H
  new : ∀ (i : Nat) (s : Sl) (a : Addr), ρ[i]? = some s → s.own = true → σ[i]? = some (some (.ref a)) → H0 a = none
/-- what is wanted behind -/
def fin (wx : Str → Int → Prop) (F0 H0 : Hp) (Z : Ends) : Fl → Prop
  | .nx ρ => ∀ σ F H, StOk F0 H0 F H σ ρ → Z.nx σ H
  | .br ρ => ∀ σ F H, StOk F0 H0 F H σ ρ → Z.bk σ H
  | .ct ρ => ∀ σ F H, StOk F0 H0 F H σ ρ → Z.ct σ H
  | .rt r => ∀ v F H, Gr F0 H0 F H → RvR H0 F H v r → Z.rt v H
  | .ex c i => wx c i
def tS (wx : Str → Int → Prop) (f : Rho → Option Fl) : TS := fun Z σ H => ∃ F0 H0 F ρ fl, StOk F0 H0 F H σ ρ ∧ f ρ = some fl ∧ fin wx F0 H0 Z fl
abbrev DS (wx : Str → Int → Prop) (X : Cx) (st : Stmt) (f : Rho → Option Fl) : Prop := PS X st (tS wx f)
abbrev DSs (wx : Str → Int → Prop) (X : Cx) (st : List Stmt) (f : Rho → Option Fl) : Prop := PSs X st (tS wx f)
theorem StOk.gro {F0 H0 F H F' H' : Hp} {σ : L2.St} {ρ : Rho} (S : StOk F0 H0 F H σ ρ) (g : Gr F H F' H') : StOk F0 H0 F' H' σ ρ := ⟨S.env.gr g, S.gr.trans g, S.new⟩
theorem StOk.set {F0 H0 F H : Hp} {σ : L2.St} {ρ : Rho} (S : StOk F0 H0 F H σ ρ) (i : Nat) {v : V} {d : D} (r : Rp F v d) : StOk F0 H0 F H (σ.set i (some v)) (ρ.set i (.fr d)) := by
  refine ⟨S.env.set i r, S.gr, fun j s a e o h => ?_⟩
  by_cases q : i = j
  · subst q
    by_cases l : i < ρ.length
    · rw [List.getElem?_set_self l] at e; cases e; cases o
    · rw [List.getElem?_eq_none (by simpa using l)] at e; cases e
  · rw [List.getElem?_set_ne q] at e h
    exact S.new j s a e o h
theorem StOk.setOwn {F0 H0 F H : Hp} {σ : L2.St} {ρ : Rho} (S : StOk F0 H0 F H σ ρ) (i : Nat) {p : Addr} {s0 : Sl} (ho : SlR F H (some (.ref p)) s0) (h0 : H0 p = none) (hn : ∀ j s, ρ[j]? = some s → s.own = true → j ≠ i → σ[j]? ≠ some (some (.ref p))) : StOk F0 H0 F H (σ.set i (some (.ref p))) (ρ.set i s0) := by
  refine ⟨S.env.setOwn i ho hn, S.gr, fun j s a e o h => ?_⟩
  by_cases q : i = j
  · subst q
    by_cases l : i < σ.length
    · rw [List.getElem?_set_self l] at h; cases h; exact h0
    · rw [List.getElem?_eq_none (by simpa using l)] at h; cases h
  · rw [List.getElem?_set_ne q] at e h
    exact S.new j s a e o h
@[simp] def Rv.slot : Rv → Sl
  | .fr d => .fr d
  | .ow xs => .ow xs
  | .tp _ _ => .un
theorem StOk.un {F0 H0 F H : Hp} {σ : L2.St} {ρ : Rho} (S : StOk F0 H0 F H σ ρ) (i : Nat) {o0 : Option V} : StOk F0 H0 F H (σ.set i o0) (ρ.set i .un) := by
  refine ⟨S.env.un i, S.gr, fun j s a e o h => ?_⟩
  by_cases q : i = j
  · subst q
    by_cases l : i < ρ.length
    · rw [List.getElem?_set_self l] at e; cases e; cases o
    · rw [List.getElem?_eq_none (by simpa using l)] at e; cases e
  · rw [List.getElem?_set_ne q] at e h
    exact S.new j s a e o h
/-- a name gets a value that is new since H -/
theorem StOk.setR {F0 H0 F H F' H' : Hp} {σ : L2.St} {ρ : Rho} (S : StOk F0 H0 F H σ ρ) (g : Gr F H F' H') (i : Nat) {v : V} {r : Rv} (rr : RvR H F' H' v r) : StOk F0 H0 F' H' (σ.set i (some v)) (ρ.set i r.slot) := by
  have S' := S.gro g
  cases r with
  | fr d => exact S'.set i rr
  | ow xs =>
    obtain ⟨a, vs, rfl, h0, hf, hh, r⟩ := rr
    refine S'.setOwn i ⟨a, vs, rfl, hf, hh, r⟩ (free_of S.gr.h h0) fun j s e o _ h => ?_
    exact (S.env.own_at e o h).2 h0
  | tp xs ds => exact S'.un i
/-- the list of its own at slot i changes -/
theorem EnvR.mut {F H : Hp} {σ : L2.St} {ρ : Rho} (E : EnvR F H σ ρ) {i : Nat} {a : Addr} {s0 s1 : Sl} {o1 : HO} (e : ρ[i]? = some s0) (o0 : s0.own = true) (o1' : s1.own = true) (h : σ[i]? = some (some (.ref a))) (r : SlR F (upd H a o1) (some (.ref a)) s1) : EnvR F (upd H a o1) σ (ρ.set i s1) := by
  have hF := (E.own_at e o0 h).1
  have li : i < ρ.length := (List.getElem?_eq_some_iff.mp e).1
  have at_ : ∀ (j : Nat) (s : Sl), (ρ.set i s1)[j]? = some s → ∃ t, ρ[j]? = some t ∧ (s.own = true → t.own = true) := fun j s ej => by
    by_cases q : i = j
    · subst q
      rw [List.getElem?_set_self li] at ej
      exact ⟨s0, e, fun _ => o0⟩
    · rw [List.getElem?_set_ne q] at ej
      exact ⟨s, ej, fun z => z⟩
  refine ⟨fun b u q => ?_, fun j s ej => ?_, fun j k b s t ej ek oj ok hj hk => ?_⟩
  · have : b ≠ a := fun z => by rw [z, hF] at q; cases q
    rw [upd_ne this]; exact E.le b u q
  · by_cases q : i = j
    · subst q
      rw [List.getElem?_set_self li] at ej
      cases ej
      exact ⟨_, h, r⟩
    · rw [List.getElem?_set_ne q] at ej
      obtain ⟨o, ho, ro⟩ := E.sl j s ej
      refine ⟨o, ho, ?_⟩
      cases s with
      | un => trivial
      | fr d => exact ro
      | ow xs =>
        obtain ⟨b, vs, rfl, f, hb, rb⟩ := ro
        have : b ≠ a := fun z => q (E.ap i j a s0 _ e ej o0 rfl h (by rw [← z]; exact ho))
        exact ⟨b, vs, rfl, f, by rw [upd_ne this]; exact hb, rb⟩
      | dk xs =>
        obtain ⟨b, vs, rfl, f, hb, rb⟩ := ro
        have : b ≠ a := fun z => q (E.ap i j a s0 _ e ej o0 rfl h (by rw [← z]; exact ho))
        exact ⟨b, vs, rfl, f, by rw [upd_ne this]; exact hb, rb⟩
      | sc K ns => exact ro
      | rg lo hi => exact ro
  · obtain ⟨s', e1, o1⟩ := at_ j s ej
    obtain ⟨t', e2, o2⟩ := at_ k t ek
    exact E.ap j k b s' t' e1 e2 (o1 oj) (o2 ok) hj hk
theorem StOk.mut {F0 H0 F H : Hp} {σ : L2.St} {ρ : Rho} (S : StOk F0 H0 F H σ ρ) {i : Nat} {a : Addr} {s0 s1 : Sl} {o1 : HO} (e : ρ[i]? = some s0) (o0 : s0.own = true) (o1' : s1.own = true) (h : σ[i]? = some (some (.ref a))) (r : SlR F (upd H a o1) (some (.ref a)) s1) : StOk F0 H0 F (upd H a o1) σ (ρ.set i s1) := by
  have h0 := S.new i s0 a e o0 h
  have hF := (S.env.own_at e o0 h).1
  refine ⟨S.env.mut e o0 o1' h r, ⟨S.gr.f, fun b u q => ?_, fun b u q => ?_, S.gr.g⟩, fun j s b ej oj hj => ?_⟩
  · rw [upd_ne (ne_of_none q h0)]; exact S.gr.h b u q
  · have : b ≠ a := fun z => by rw [z, hF] at q; cases q
    rw [upd_ne this]; exact S.gr.s b u q
  · by_cases q : i = j
    · subst q
      rw [h] at hj; cases hj; exact h0
    · rw [List.getElem?_set_ne q] at ej
      exact S.new j s b ej oj hj

theorem Gr.rebase {F0 H0 F1 H1 F H : Hp} (a : Gr F0 H0 F1 H1) (b : Gr F1 H0 F H) : Gr F0 H0 F H := ⟨a.f.trans b.f, b.h, b.s, fun x e1 e2 => b.g x (a.g x e1 e2) e2⟩
theorem Gr.up {F0 H0 F1 H1 F H : Hp} (a : Gr F0 H0 F1 H1) (b : Gr F0 H0 F H) (l : Le F1 F) : Gr F1 H0 F H := ⟨l, b.h, b.s, fun x e1 e2 => b.g x (free_of a.f e1) e2⟩
theorem StOk.rebase {F0 H0 F1 H1 F H : Hp} {σ : L2.St} {ρ : Rho} (a : Gr F0 H0 F1 H1) (S : StOk F1 H0 F H σ ρ) : StOk F0 H0 F H σ ρ := ⟨S.env, a.rebase S.gr, S.new⟩
theorem StOk.up {F0 H0 F1 H1 F H : Hp} {σ : L2.St} {ρ : Rho} (a : Gr F0 H0 F1 H1) (S : StOk F0 H0 F H σ ρ) (l : Le F1 F) : StOk F1 H0 F H σ ρ := ⟨S.env, a.up S.gr l, S.new⟩

section
variable {wx : Str → Int → Prop} {X : Cx} {st : Stmt} {rest : List Stmt} {f g : Rho → Option Fl} {e : Expr} {pos : Pos}
@[simp] def zNext (ρ : Rho) : Option Fl := some (.nx ρ)
@[simp] def zSeq (f g : Rho → Option Fl) (ρ : Rho) : Option Fl := (f ρ).bind fun fl => match fl with
  | .nx ρ' => g ρ'
  | other => some other
theorem DSs.nil : DSs wx X [] zNext := pss_nil.w fun Z σ H ⟨F0, H0, F, ρ, fl, S, ef, q⟩ => by
  cases ef
  exact q σ F H S
theorem DSs.one (h : DS wx X st f) : DSs wx X [st] f := pss_one h
theorem DSs.cons (h1 : DS wx X st f) (h2 : DSs wx X rest g) : DSs wx X (st :: rest) (zSeq f g) := (pss_cons h1 h2).w fun Z σ H ⟨F0, H0, F, ρ, fl, S, ef, q⟩ => by
  obtain ⟨fl1, e1, ef⟩ := bind_some ef
  refine ⟨F0, H0, F, ρ, fl1, S, e1, ?_⟩
  cases fl1 with
  | nx ρ' => exact fun σ' F' H' S' => ⟨F0, H0, F', ρ', fl, S', ef, q⟩
  | br ρ' => cases ef; exact q
  | ct ρ' => cases ef; exact q
  | rt r => cases ef; exact q
  | ex c i => cases ef; exact q
theorem DS.pass : DS wx X (.Pass pos) zNext := ps_pass.w fun Z σ H ⟨F0, H0, F, ρ, fl, S, ef, q⟩ => by
  cases ef
  exact q σ F H S
@[simp] def zBreak (ρ : Rho) : Option Fl := some (.br ρ)
@[simp] def zCont (ρ : Rho) : Option Fl := some (.ct ρ)
theorem DS.brk : DS wx X (.Break pos) zBreak := ps_break.w fun Z σ H ⟨F0, H0, F, ρ, fl, S, ef, q⟩ => by
  cases ef
  exact q σ F H S
theorem DS.cont : DS wx X (.Continue pos) zCont := ps_continue.w fun Z σ H ⟨F0, H0, F, ρ, fl, S, ef, q⟩ => by
  cases ef
  exact q σ F H S
/-- never come to -/
@[simp] def zNone (_ : Rho) : Option Fl := none
theorem DS.never : DS wx X st zNone := ⟨fun _ _ _ _ _ _ ⟨_, _, _, _, _, _, ef, _⟩ => nomatch ef⟩
/-- x = e -/
@[simp] def zSet (i : Nat) (f : Rho → Option D) (ρ : Rho) : Option Fl := (f ρ).bind fun d => some (.nx (ρ.set i (.fr d)))
@[simp] def zSetR (i : Nat) (f : Rho → Option Rv) (ρ : Rho) : Option Fl := (f ρ).bind fun r => some (.nx (ρ.set i r.slot))
variable {x : Str} {i : Nat} {pos' : Pos}
theorem setR_w {f : Rho → Option Rv} {t : TE} (ht : ∀ σ H Q, tR f σ H Q → t σ H Q) (Z : Ends) (σ : L2.St) (H : Hp) (h : tS wx (zSetR i f) Z σ H) : tAsg t (gName i) Z σ H := by
  obtain ⟨F0, H0, F, ρ, fl, S, ef, q⟩ := h
  obtain ⟨r, e1, ef⟩ := bind_some ef
  cases ef
  exact ht _ _ _ ⟨F, ρ, r, S.env, e1, fun v F1 H1 g1 r1 => q _ F1 H1 (S.setR g1 i r1)⟩
theorem DS.setR {f : Rho → Option Rv} (hN : X.N.Nodup) (hi : X.N[i]? = some x) (hx : Loc X.env.scope x) (he : DR X e f) (hs : swapsWith e (some (.Name x pos')) pos.line X.env = pure false := by rfl) (hf : X.fn x = true ∨ X.env.scope.names.lookup x = some .local := by first | exact .inl rfl | exact .inr rfl | assumption) :
    DS wx X (.Assign [.Name x pos'] e pos) (zSetR i f) := (ps_set hN hi hx he hs hf).w (setR_w fun _ _ _ h => h)
theorem DS.set {f : Rho → Option D} (hN : X.N.Nodup) (hi : X.N[i]? = some x) (hx : Loc X.env.scope x) (he : DE X e f) (hs : swapsWith e (some (.Name x pos')) pos.line X.env = pure false := by rfl) (hf : X.fn x = true ∨ X.env.scope.names.lookup x = some .local := by first | exact .inl rfl | exact .inr rfl | assumption) :
    DS wx X (.Assign [.Name x pos'] e pos) (zSet i f) := (ps_set hN hi hx he hs hf).w fun Z σ H ⟨F0, H0, F, ρ, fl, S, ef, q⟩ => by
  obtain ⟨r, e1, ef⟩ := bind_some ef
  cases ef
  exact ⟨F, ρ, r, S.env, e1, fun v F1 H1 g1 r1 => q _ F1 H1 ((S.gro g1).set i r1)⟩
/-- x = [.. for ..] -/
theorem DS.setLc {elt tg iter : Expr} {ifs : List Expr} {scope : Scope} {own : List (Str × Nat)} {spos : Pos} {src : Rho → Option (List D)} {g : D → Rho → Option Rho} {tt : Rho → Option Bool} {te : Rho → Option D} {js : List Nat} (hc : X.calm = true) (hN : X.N.Nodup) (hy : X.N[i]? = some x) (hyl : X.env.scope.names.lookup x = some .local)
    (hsw : swapsWith (.ListComp elt [⟨tg, iter, ifs, 0⟩] scope pos) (some (.Name x pos')) spos.line X.env = pure true) (hi : DIC X tg iter src) (ok : BlkOk X.N X.env.scope scope own)
    (hg : ∀ (s : Shared) (H : Hp) (C : Addr) (cl : List (Str × Addr)) (fp : List Addr), DG (X.blk s H scope (compEnvC scope cl C X.env) fp) tg js g)
    (ht : ∀ (s : Shared) (H : Hp) (C : Addr) (cl : List (Str × Addr)) (fp : List Addr), DTs (X.blk s H scope (compEnvC scope cl C X.env) fp) ifs tt)
    (he : ∀ (s : Shared) (H : Hp) (C : Addr) (cl : List (Str × Addr)) (fp : List Addr), DE (X.blk s H scope (compEnvC scope cl C X.env) fp) elt te)
    (hjs : ∀ j ∈ js, j ∈ own.map (·.2) := by decide) (hs : ∀ x, foldedSetIterable iter X.env x = pure x := by intro _; rfl) :
    DS wx X (.Assign [.Name x pos'] (.ListComp elt [⟨tg, iter, ifs, 0⟩] scope pos) spos) (zSetR i (kComp (own.map (·.2)) src g tt te)) :=
  (ps_setLc hc hN hy hyl hsw hi ok hg ht he hs).w (setR_w fun σ H Q h => lc_w hjs σ H Q h)
/-- (a, b) = e -/
theorem StOk.only {F0 H0 F H : Hp} {σ σ' : L2.St} {ρ ρ' : Rho} (S : StOk F0 H0 F H σ ρ) (E : EnvR F H σ' ρ') (h : ∀ (j : Nat) (s : Sl) (a : Addr), ρ'[j]? = some s → s.own = true → σ'[j]? = some (some (.ref a)) → H0 a = none) : StOk F0 H0 F H σ' ρ' := ⟨E, S.gr, h⟩
/-- the targets store frozen data alone -/
def Frz (js : List Nat) (g : D → Rho → Option Rho) : Prop := ∀ d ρ ρ', g d ρ = some ρ' → ∀ j s, ρ'[j]? = some s → s.own = true → j ∉ js ∧ ρ[j]? = some s
def Frzs (js : List Nat) (g : List D → Rho → Option Rho) : Prop := ∀ d ρ ρ', g d ρ = some ρ' → ∀ j s, ρ'[j]? = some s → s.own = true → j ∉ js ∧ ρ[j]? = some s
theorem Frz.name (i : Nat) : Frz [i] (sName i) := fun d ρ ρ' h j s e o => by
  cases h
  by_cases q : i = j
  · subst q
    by_cases l : i < ρ.length
    · rw [List.getElem?_set_self l] at e; cases e; cases o
    · rw [List.getElem?_eq_none (by simpa using l)] at e; cases e
  · rw [List.getElem?_set_ne q] at e
    exact ⟨by simp [Ne.symm q], e⟩
theorem Frzs.nil : Frzs [] sNil := fun d ρ ρ' h j s e o => by
  unfold sNil at h
  split at h <;> cases h
  exact ⟨by simp, e⟩
theorem Frzs.cons {js ks : List Nat} {g : D → Rho → Option Rho} {h : List D → Rho → Option Rho} (a : Frz js g) (b : Frzs ks h) : Frzs (js ++ ks) (sCons g h) := fun d ρ ρ' q j s e o => by
  unfold sCons at q
  split at q
  · obtain ⟨ρ1, e1, e2⟩ := bind_some q
    obtain ⟨n1, f1⟩ := b _ _ _ e2 j s e o
    obtain ⟨n2, f2⟩ := a _ _ _ e1 j s f1 o
    exact ⟨by simp [n1, n2], f2⟩
  · cases q
theorem Frz.tup {js : List Nat} {g : List D → Rho → Option Rho} {n : Nat} (a : Frzs js g) : Frz js (sTup n g) := fun d ρ ρ' q j s e o => by
  unfold sTup at q
  split at q
  · split at q
    · exact a _ _ _ q j s e o
    · cases q
  · cases q
theorem StOk.tgt {F0 H0 F H : Hp} {σ σ' : L2.St} {ρ ρ' : Rho} {js : List Nat} {g : D → Rho → Option Rho} {d : D} (S : StOk F0 H0 F H σ ρ) (fz : Frz js g) (eg : g d ρ = some ρ') (E : EnvR F H σ' ρ') (o : Only js σ σ') : StOk F0 H0 F H σ' ρ' :=
  S.only E fun j s a e w h => by
    obtain ⟨n, e'⟩ := fz _ _ _ eg j s e w
    rw [o.2 j n] at h
    exact S.new j s a e' w h
@[simp] def zAsg (f : Rho → Option D) (g : D → Rho → Option Rho) (ρ : Rho) : Option Fl := (f ρ).bind fun d => (g d ρ).bind fun ρ' => some (.nx ρ')
theorem DS.asg {tg : Expr} {f : Rho → Option D} {js : List Nat} {g : D → Rho → Option Rho} (he : DE X e f) (hg : DG X tg js g) (fz : Frz js g) (hs : swapsWithSole [tg] e pos.line X.env = pure false := by rfl) (hw : swappedStores [tg] e X.env = pure none := by rfl)
    (h1 : (assignEach [tg] X.env).map (·.2) = [assign tg X.env] := by rfl) : DS wx X (.Assign [tg] e pos) (zAsg f g) := (ps_asg he hg hs hw h1).w fun Z σ H ⟨F0, H0, F, ρ, fl, S, ef, q⟩ => by
  obtain ⟨d, e1, ef⟩ := bind_some ef
  obtain ⟨ρ', e2, ef⟩ := bind_some ef
  cases ef
  refine ⟨F, ρ, d, S.env, e1, fun v F1 H1 g1 r1 => ⟨F1, ρ, d, ρ', S.env.gr g1, r1, e2, fun σ' E' o' => ?_⟩⟩
  exact q σ' F1 H1 ((S.gro g1).tgt fz e2 E' o')
/-- a, b = x, y -/
@[simp] def zPar (i j : Nat) (f : Rho → Option (List D)) (ρ : Rho) : Option Fl := (f ρ).bind fun ds => match ds with
  | [x, y] => some (.nx ((ρ.set i (.fr x)).set j (.fr y)))
  | _ => none
theorem DS.par {i j : Nat} {x y : Str} {a b : Expr} {f : Rho → Option (List D)} {px py pt : Pos} {kt k2 : Nat} {pt2 : Pos} (hc : X.calm = true) (hN : X.N.Nodup) (hi : X.N[i]? = some x) (hj : X.N[j]? = some y) (hij : i ≠ j)
    (hx : X.env.scope.names.lookup x = some .local) (hy : X.env.scope.names.lookup y = some .local) (ha : DA X [a, b] f)
    (hw : swappedStores [.Tuple [.Name x px, .Name y py] kt pt] (.Tuple [a, b] k2 pt2) X.env = pure (some [x, y]))
    (hs : swapsWithSole [.Tuple [.Name x px, .Name y py] kt pt] (.Tuple [a, b] k2 pt2) pos.line X.env = pure false := by rfl) :
    DS wx X (.Assign [.Tuple [.Name x px, .Name y py] kt pt] (.Tuple [a, b] k2 pt2) pos) (zPar i j f) := (ps_par hc hN hi hj hij hx hy ha hw hs).w fun Z σ H ⟨F0, H0, F, ρ, fl, S, ef, q⟩ => by
  obtain ⟨ds, e1, ef⟩ := bind_some ef
  split at ef
  · cases ef
    refine ⟨F, ρ, _, S.env, e1, fun vs F1 H1 g1 r1 => ?_⟩
    cases r1 with
    | cons r1 r2 =>
      cases r2 with
      | cons r2 r3 =>
        cases r3
        exact ⟨_, _, rfl, q _ F1 H1 (((S.gro g1).set i r1).set j r2)⟩
  · cases ef

/-! ### if, for, while, return, a dropped value -/
@[simp] def zIf (t : Rho → Option Bool) (f g : Rho → Option Fl) (ρ : Rho) : Option Fl := (t ρ).bind fun b => if b = true then f ρ else g ρ
theorem DS.ifS {c : Expr} {a b : List Stmt} {t : Rho → Option Bool} (hc : DT X c t) (ha : DSs wx X a f) (hb : DSs wx X b g) : DS wx X (.If c a b pos) (zIf t f g) := (ps_if hc ha hb).w fun Z σ H ⟨F0, H0, F, ρ, fl, S, ef, q⟩ => by
  obtain ⟨b, e1, ef⟩ := bind_some ef
  refine ⟨F, ρ, b, S.env, e1, fun F1 H1 g1 => ?_⟩
  cases b with
  | true =>
    rw [if_pos rfl] at ef ⊢
    exact ⟨F0, H0, F1, ρ, fl, S.gro g1, ef, q⟩
  | false =>
    rw [if_neg Bool.false_ne_true] at ef ⊢
    exact ⟨F0, H0, F1, ρ, fl, S.gro g1, ef, q⟩
@[simp] def zRet (f : Rho → Option Rv) (ρ : Rho) : Option Fl := (f ρ).bind fun r => some (.rt r)
theorem DS.ret {f : Rho → Option Rv} (he : DR X e f) : DS wx X (.Return (some e) pos) (zRet f) := (ps_ret he).w fun Z σ H ⟨F0, H0, F, ρ, fl, S, ef, q⟩ => by
  obtain ⟨r, e1, ef⟩ := bind_some ef
  cases ef
  exact ⟨F, ρ, r, S.env, e1, fun v F1 H1 g1 r1 => q v F1 H1 (S.gr.trans g1) (r1.gr (F := F) S.gr.h)⟩
@[simp] def zRetN (_ : Rho) : Option Fl := some (.rt (.fr .none))
theorem DS.retN : DS wx X (.Return none pos) zRetN := ps_retN.w fun Z σ H ⟨F0, H0, F, ρ, fl, S, ef, q⟩ => by
  cases ef
  exact q _ F H S.gr .non
@[simp] def kSlot (i : Nat) (ρ : Rho) : Option Rv := match ρ[i]? with
  | some (.fr d) => some (.fr d)
  | some (.ow xs) => some (.ow xs)
  | _ => none
/-- return x, x a name that may have a list of its own -/
theorem DS.retV (he : PE X e (tVar i)) : DS wx X (.Return (some e) pos) (zRet (kSlot i)) := (ps_ret he).w fun Z σ H ⟨F0, H0, F, ρ, fl, S, ef, q⟩ => by
  obtain ⟨r, e1, ef⟩ := bind_some ef
  cases ef
  unfold kSlot at e1
  split at e1
  · rename_i d hd
    cases e1
    obtain ⟨o, h1, v, rfl, r⟩ := S.env.sl _ _ hd
    exact ⟨v, h1, q v F H S.gr r⟩
  · rename_i xs hd
    cases e1
    obtain ⟨o, h1, a, vs, rfl, hf, hh, r⟩ := S.env.sl _ _ hd
    exact ⟨_, h1, q _ F H S.gr ⟨a, vs, rfl, S.new _ _ _ hd rfl h1, hf, hh, r⟩⟩
  · cases e1
@[simp] def zDrop (f : Rho → Option Rv) (ρ : Rho) : Option Fl := (f ρ).bind fun _ => some (.nx ρ)
theorem DS.drop {f : Rho → Option Rv} (he : DR X e f) (hs : swapsWith e none pos.line X.env = pure false := by rfl) : DS wx X (.Expr e pos) (zDrop f) := (ps_expr he hs).w fun Z σ H ⟨F0, H0, F, ρ, fl, S, ef, q⟩ => by
  obtain ⟨r, e1, ef⟩ := bind_some ef
  cases ef
  exact ⟨F, ρ, r, S.env, e1, fun v F1 H1 g1 r1 => q σ F1 H1 (S.gro g1)⟩
/-- the turns -/
def forGo (g : D → Rho → Option Rho) (b : Rho → Option Fl) : List D → Rho → Option Fl
  | [], ρ => some (.nx ρ)
  | x :: xs, ρ => (g x ρ).bind fun ρ1 => (b ρ1).bind fun fl => match fl with
    | .nx ρ2 => forGo g b xs ρ2
    | .ct ρ2 => forGo g b xs ρ2
    | .br ρ2 => some (.nx ρ2)
    | .rt r => some (.rt r)
    | .ex c i => some (.ex c i)
@[simp] def zFor (src : Rho → Option (List D)) (g : D → Rho → Option Rho) (b : Rho → Option Fl) (ρ : Rho) : Option Fl := (src ρ).bind fun xs => forGo g b xs ρ
theorem DS.for_ {tg iter : Expr} {body : List Stmt} {src : Rho → Option (List D)} {g : D → Rho → Option Rho} {js : List Nat} (hp : PassesOwn (model X.prog X.w) X.A X.env X.xe) (hc : X.calm = true) (hi : DIF X tg iter src) (hg : DG X tg js g) (fz : Frz js g) (hb : DSs wx X body f)
    (hs : ∀ x, foldedSetIterable iter X.env x = pure x := by intro _; rfl) : DS wx X (.For tg iter body [] pos) (zFor src g f) := (ps_for hp hc hi hg hb hs).w fun Z σ H ⟨F0, H0, F, ρ, fl, S, ef, q⟩ => by
  obtain ⟨xs, e1, ef⟩ := bind_some ef
  refine ⟨F, ρ, xs, S.env, e1, fun J F1 H1 g1 j => ?_⟩
  refine ⟨fun i m σ' H' => m = xs.length - i ∧ i ≤ xs.length ∧ ∃ F' ρ', StOk F0 H0 F' H' σ' ρ' ∧ Le F1 F' ∧ forGo g f (xs.drop i) ρ' = some fl, ⟨xs.length, by simp, Nat.zero_le _, F1, ρ, S.gro g1, Le.refl _, by simpa using ef⟩, ?_⟩
  rintro i m σ' H' ⟨rfl, hi, F', ρ', S', l', hf⟩
  by_cases hlt : i < xs.length
  · refine .inr ⟨j.go i F' H' trivial l' S'.env.le hlt, fun σ2 H2 => ∃ F2 ρ2, StOk F0 H0 F2 H2 σ2 ρ2 ∧ Le F1 F2 ∧ forGo g f (xs.drop (i + 1)) ρ2 = some fl, fun σ2 H2 ⟨F2, ρ2, a, b, c⟩ => ⟨xs.length - (i + 1), by omega, rfl, hlt, F2, ρ2, a, b, c⟩, fun x H2 y2 => ?_⟩
    obtain ⟨F2, gy, rx⟩ := j.yld i F' H' x H2 xs[i] trivial l' S'.env.le (List.getElem?_eq_getElem hlt) y2
    rw [List.drop_eq_getElem_cons hlt] at hf
    obtain ⟨ρ1, e3, hf⟩ := bind_some (show (g _ _).bind _ = _ from hf)
    obtain ⟨fl1, e4, hf⟩ := bind_some hf
    have S2 := S'.gro gy
    refine ⟨F2, ρ', xs[i], ρ1, S2.env, rx, e3, fun σ3 E3 o3 => ?_⟩
    have S3 := S2.tgt fz e3 E3 o3
    have l3 := l'.trans gy.f
    have a1 : Gr F0 H0 F1 H1 := (S.gro g1).gr
    refine ⟨F1, H0, F2, ρ1, fl1, S3.up a1 l3, e4, ?_⟩
    cases fl1 with
    | nx ρ2 => exact fun σ4 F4 H4 S4 => ⟨F4, ρ2, S4.rebase a1, S4.gr.f, hf⟩
    | ct ρ2 => exact fun σ4 F4 H4 S4 => ⟨F4, ρ2, S4.rebase a1, S4.gr.f, hf⟩
    | br ρ2 => cases hf; exact fun σ4 F4 H4 S4 => q σ4 F4 H4 (S4.rebase a1)
    | rt r => cases hf; exact fun v F4 H4 g4 r4 => q v F4 H4 (a1.rebase g4) r4
    | ex c i => cases hf; exact q
  · have : i = xs.length := by omega
    subst this
    rw [List.drop_length] at hf
    cases hf
    exact .inl ⟨j.stop _ F' H' trivial l' S'.env.le (Nat.le_refl _), q σ' F' H' S'⟩
/-! ### while: W turns at most -/
def whileGo (t : Rho → Option Bool) (b : Rho → Option Fl) : Nat → Rho → Option Fl
  | 0, _ => none
  | n + 1, ρ => (t ρ).bind fun k => if k = true then (b ρ).bind fun fl => match fl with
      | .nx ρ2 => whileGo t b n ρ2
      | .ct ρ2 => whileGo t b n ρ2
      | .br ρ2 => some (.nx ρ2)
      | .rt r => some (.rt r)
      | .ex c i => some (.ex c i)
    else some (.nx ρ)
@[simp] def zWhile (n : Nat) (t : Rho → Option Bool) (b : Rho → Option Fl) (ρ : Rho) : Option Fl := whileGo t b n ρ
theorem DS.while_ {n : Nat} {c : Expr} {body : List Stmt} {t : Rho → Option Bool} (hp : PassesOwn (model X.prog X.w) X.A X.env X.xe) (hc : DT X c t) (hb : DSs wx X body f) : DS wx X (.While c body [] pos) (zWhile n t f) := (ps_while hp hc hb).w fun Z σ H ⟨F0, H0, F, ρ, fl, S, ef, q⟩ => by
  refine ⟨fun m σ' H' => ∃ F' ρ', StOk F0 H0 F' H' σ' ρ' ∧ whileGo t f m ρ' = some fl, ⟨n, F, ρ, S, ef⟩, ?_⟩
  rintro m σ' H' ⟨F', ρ', S', hf⟩
  cases m with
  | zero => cases hf
  | succ m =>
    obtain ⟨k, e1, hf⟩ := bind_some (show (t ρ').bind _ = _ from hf)
    refine ⟨F', ρ', k, S'.env, e1, fun F1 H1 g1 => ?_⟩
    have S1 := S'.gro g1
    cases k with
    | false =>
      rw [if_neg Bool.false_ne_true] at hf
      cases hf
      exact iteF (q σ' F1 H1 S1)
    | true =>
      rw [if_pos rfl] at hf
      obtain ⟨fl1, e2, hf⟩ := bind_some hf
      refine iteT ⟨fun σ2 H2 => ∃ F2 ρ2, StOk F0 H0 F2 H2 σ2 ρ2 ∧ whileGo t f m ρ2 = some fl, fun σ2 H2 ⟨F2, ρ2, a, b⟩ => ⟨m, Nat.lt_succ_self m, F2, ρ2, a, b⟩, F0, H0, F1, ρ', fl1, S1, e2, ?_⟩
      cases fl1 with
      | nx ρ2 => exact fun σ4 F4 H4 S4 => ⟨F4, ρ2, S4, hf⟩
      | ct ρ2 => exact fun σ4 F4 H4 S4 => ⟨F4, ρ2, S4, hf⟩
      | br ρ2 => cases hf; exact fun σ4 F4 H4 S4 => q σ4 F4 H4 S4
      | rt r => cases hf; exact fun v F4 H4 g4 r4 => q v F4 H4 g4 r4
      | ex c i => cases hf; exact q

/-! ### lists of one's own -/
/-- the list at slot i is frozen from here on -/
@[simp] def frzE (i : Nat) (ρ : Rho) : Rho := match ρ[i]? with
  | some (.ow xs) => ρ.set i (.fr (.list xs))
  | _ => ρ
theorem StOk.ice {F0 H0 F H : Hp} {σ : L2.St} {ρ : Rho} (S : StOk F0 H0 F H σ ρ) (i : Nat) : ∃ F', StOk F0 H0 F' H σ (frzE i ρ) := by
  unfold frzE
  split
  · rename_i xs e
    obtain ⟨o, h1, a, vs, rfl, hf, hh, r⟩ := S.env.sl _ _ e
    have h0 := S.new _ _ _ e rfl h1
    have lf := Le.new (H := F) (o := HO.lst vs) hf
    have li : i < ρ.length := (List.getElem?_eq_some_iff.mp e).1
    refine ⟨upd F a (.lst vs), ⟨⟨(S.gr.ice h0 hf hh).s, fun j s ej => ?_, fun j k b s t ej ek oj ok hj hk => ?_⟩, S.gr.ice h0 hf hh, fun j s b ej oj hj => ?_⟩⟩
    · by_cases q : i = j
      · subst q
        rw [List.getElem?_set_self li] at ej
        cases ej
        exact ⟨_, h1, _, rfl, .lst upd_same (r.mono lf)⟩
      · rw [List.getElem?_set_ne q] at ej
        obtain ⟨o, ho, ro⟩ := S.env.sl j s ej
        refine ⟨o, ho, ?_⟩
        cases s with
        | un => trivial
        | fr d => obtain ⟨v, e1, rv⟩ := ro; exact ⟨v, e1, rv.mono lf⟩
        | ow ys =>
          obtain ⟨b, us, rfl, f, hb, rb⟩ := ro
          have : b ≠ a := fun z => q (S.env.ap i j a _ _ e ej rfl rfl h1 (by rw [← z]; exact ho))
          exact ⟨b, us, rfl, by rw [upd_ne this]; exact f, hb, rb.mono lf⟩
        | dk ys =>
          obtain ⟨b, us, rfl, f, hb, rb⟩ := ro
          have : b ≠ a := fun z => q (S.env.ap i j a _ _ e ej rfl rfl h1 (by rw [← z]; exact ho))
          exact ⟨b, us, rfl, by rw [upd_ne this]; exact f, hb, rb.mono lf⟩
        | sc K ns => obtain ⟨b, e1, rb⟩ := ro; exact ⟨b, e1, sqL_le lf rb⟩
        | rg lo hi => obtain ⟨b, e1, rb⟩ := ro; exact ⟨b, e1, lf _ _ rb⟩
    · have go : ∀ (j : Nat) (s : Sl), (ρ.set i (.fr (.list xs)))[j]? = some s → s.own = true → ρ[j]? = some s := fun j s e o => by
        by_cases q : i = j
        · subst q
          rw [List.getElem?_set_self li] at e; cases e; cases o
        · rw [List.getElem?_set_ne q] at e; exact e
      exact S.env.ap j k b s t (go j s ej oj) (go k t ek ok) oj ok hj hk
    · by_cases q : i = j
      · subst q
        rw [List.getElem?_set_self li] at ej; cases ej; cases oj
      · rw [List.getElem?_set_ne q] at ej; exact S.new j s b ej oj hj
  · exact ⟨F, S⟩
@[simp] def zIce (i : Nat) (f : Rho → Option Fl) (ρ : Rho) : Option Fl := f (frzE i ρ)
theorem DSs.ice {sts : List Stmt} (i : Nat) (h : DSs wx X sts f) : DSs wx X sts (zIce i f) := h.w fun Z σ H ⟨F0, H0, F, ρ, fl, S, ef, q⟩ => by
  obtain ⟨F', S'⟩ := S.ice i
  exact ⟨F0, H0, F', _, fl, S', ef, q⟩
theorem DS.ice (i : Nat) (h : DS wx X st f) : DS wx X st (zIce i f) := h.w fun Z σ H ⟨F0, H0, F, ρ, fl, S, ef, q⟩ => by
  obtain ⟨F', S'⟩ := S.ice i
  exact ⟨F0, H0, F', _, fl, S', ef, q⟩
/-- x.append(e) -/
@[simp] def zApp (i : Nat) (f : Rho → Option D) (ρ : Rho) : Option Fl := match ρ[i]? with
  | some (.ow xs) => (f ρ).bind fun d => if xs.length < line then some (.nx (ρ.set i (.ow (xs ++ [d])))) else none
  | _ => none
theorem DS.app {o e : Expr} {f : Rho → Option D} {apos cpos : Pos} (ho : PE X o (tVar i)) (he : DE X e f) (hs : swapsWith (.Call (.Attribute o "append" apos) [e] [] cpos) none pos.line X.env = pure false := by rfl)
    (hbase : attributeBase o "append" X.env (eval o X.env) = eval o X.env := by rfl)
    (hfew : ((backTo cpos (starEach (e :: []) X.env)).all (fun x => !x.1) && (backToKw cpos (keywordEach [] X.env)).all (fun x => x.1.isSome)
      && decide ((e :: ([] : List Expr)).length + ([] : List Keyword).length + (if ([] : List Keyword).isEmpty then 0 else 1) < 30)) = true := by rfl)
    (hline : (apos.endLine == cpos.line) = true := by rfl) (h1 : starEach (e :: []) X.env = (false, eval e X.env) :: starEach [] X.env := by rfl) (hplain : (backTo cpos (starEach [] X.env)).any (·.1) = false := by rfl) :
    DS wx X (.Expr (.Call (.Attribute o "append" apos) [e] [] cpos) pos) (zApp i f) :=
  (ps_expr (pe_bm PySem.F.plainAttrs_list PySem.F.slot_list_append PySem.F.type_list_append mt_append ho (pa_cons he pa_nil h1) hbase hfew hline h1 hplain) hs).w fun Z σ H ⟨F0, H0, F, ρ, fl, S, ef, q⟩ => by
  unfold zApp at ef
  split at ef
  · rename_i xs hx
    obtain ⟨d, e1, ef⟩ := bind_some ef
    split at ef
    · rename_i hl
      cases ef
      obtain ⟨o, h1, a, vs, rfl, hf, hh, r⟩ := S.env.sl _ _ hx
      refine ⟨_, h1, .inl ⟨rfl, _, SqL.of hh⟩, F, ρ, d, S.env, e1, fun v F1 H1 g1 r1 => ?_⟩
      have S1 := S.gro g1
      have hh1 := g1.h _ _ hh
      refine ⟨a, vs, v, rfl, rfl, hh1, by rw [r.length, line_eq]; exact hl, ?_⟩
      exact q σ F1 _ (S1.mut hx rfl rfl h1 ⟨a, _, rfl, (S1.env.own_at hx rfl h1).1, upd_same, (r.mono g1.f).append (.cons r1 .nil)⟩)
    · cases ef
  · cases ef
/-- x[e] = v -/
@[simp] def zPut (i : Nat) (f g : Rho → Option D) (ρ : Rho) : Option Fl := (f ρ).bind fun d => match ρ[i]? with
  | some (.ow xs) => (g ρ).bind fun k => match k with
    | .int k => (ixN xs.length k).bind fun j => some (.nx (ρ.set i (.ow (xs.set j d))))
    | _ => none
  | _ => none
theorem DS.put {o k e : Expr} {f g : Rho → Option D} {tpos : Pos} (he : DE X e f) (ho : PE X o (tVar i)) (hk : DE X k g) 
    (ha : ∀ v, assign (.Subscript o k tpos) X.env v = (do
      let ov ← holding [v] (eval o X.env)
      let iv ← holding [v, ov] (eval k X.env)
      standAt tpos
      holding [v, ov, iv] (setItem ov iv v)
      release [v, ov, iv] []) := by intro _; rfl) (hs : swapsWithSole [.Subscript o k tpos] e pos.line X.env = pure false := by rfl) (hw : swappedStores [.Subscript o k tpos] e X.env = pure none := by rfl)
    (h1 : (assignEach [.Subscript o k tpos] X.env).map (·.2) = [assign (.Subscript o k tpos) X.env] := by rfl) : DS wx X (.Assign [.Subscript o k tpos] e pos) (zPut i f g) :=
  (ps_asg he (pg_sub ho hk set_list ha) hs hw h1).w fun Z σ H ⟨F0, H0, F, ρ, fl, S, ef, q⟩ => by
  obtain ⟨d, e1, ef⟩ := bind_some ef
  split at ef
  · rename_i xs hx
    obtain ⟨kd, e2, ef⟩ := bind_some ef
    split at ef
    · obtain ⟨j, e3, ef⟩ := bind_some ef
      cases ef
      refine ⟨F, ρ, d, S.env, e1, fun v F1 H1 g1 r1 => ?_⟩
      have S1 := S.gro g1
      obtain ⟨o, h1, a, vs, rfl, hf, hh, r⟩ := S1.env.sl _ _ hx
      refine ⟨_, h1, F1, ρ, _, S1.env, e2, fun u F2 H2 g2 r2 => ?_⟩
      cases r2
      have S2 := S1.gro g2
      refine ⟨a, vs, _, j, rfl, rfl, g2.h _ _ hh, by rw [r.length]; exact e3, ?_⟩
      exact q σ F2 _ (S2.mut hx rfl rfl h1 ⟨a, _, rfl, (S2.env.own_at hx rfl h1).1, upd_same, (r.mono g2.f).set (r1.mono g2.f) j⟩)
    · cases ef
  · cases ef
end
end DL

set_option Elab.async false
set_option linter.all false
set_option maxRecDepth 100000
set_option maxHeartbeats 2000000
namespace DL
open PySem PySem.Spec L2

/-! ### defs -/
inductive Res where
  | ok (r : Rv)
  | ex (c : Str) (i : Int)
/-- what an exception of the class named c with at = i is; IsX is left open -/
abbrev XIs := Str → Int → Value → Option Addr → Hp → Prop
def resFin (IsX : XIs) (F H : Hp) (Q : VK) (E : XK) : Res → Prop
  | .ok r => ∀ v F' H', Gr F H F' H' → RvR H F' H' v r → Q v H'
  | .ex c i => ∀ cls d H', IsX c i cls d H' → E cls d H'
def spD (IsX : XIs) (den : List D → Option Res) : Sp := fun vs H Q E => ∃ F ds res, Le F H ∧ RpAll F vs ds ∧ den ds = some res ∧ resFin IsX F H Q E res
@[simp] def flRes : Fl → Option Res
  | .rt r => some (.ok r)
  | .nx _ => some (.ok (.fr .none))
  | .ex c i => some (.ex c i)
  | _ => none
@[simp] def dFn (n N : Nat) (f : Rho → Option Fl) (ds : List D) : Option Res := if ds.length = n then (f (ds.map Sl.fr ++ List.replicate (N - n) Sl.un)).bind flRes else none
theorem dFn_inv {n N : Nat} {f : Rho → Option Fl} {ds : List D} {res : Res} (h : dFn n N f ds = some res) : ds.length = n ∧ ∃ fl, f (ds.map Sl.fr ++ List.replicate (N - n) Sl.un) = some fl ∧ flRes fl = some res := by
  unfold dFn at h
  split at h
  · rename_i e
    obtain ⟨fl, h1, h2⟩ := bind_some h
    exact ⟨e, fl, h1, h2⟩
  · cases h
theorem envR_start {F H : Hp} (l : Le F H) {vs : List V} {ds : List D} (r : RpAll F vs ds) (k : Nat) : EnvR F H (vs.map some ++ List.replicate k none) (ds.map Sl.fr ++ List.replicate k Sl.un) := by
  have own_no : ∀ (j : Nat) (s : Sl), (ds.map Sl.fr ++ List.replicate k Sl.un)[j]? = some s → s.own = false := fun j s e => by
    rw [List.getElem?_append] at e
    split at e
    · rw [List.getElem?_map] at e
      cases h : ds[j]? with
      | none => rw [h] at e; cases e
      | some d => rw [h] at e; cases e; rfl
    · rw [List.getElem?_replicate] at e
      split at e <;> cases e
      rfl
  refine ⟨l, fun i s e => ?_, fun i j a s t e1 e2 o1 o2 _ _ => ?_⟩
  · rw [List.getElem?_append] at e
    split at e
    · rename_i hl
      rw [List.length_map] at hl
      rw [List.getElem?_map, List.getElem?_eq_getElem hl] at e
      cases e
      obtain ⟨v, h1, h2⟩ := r.get (List.getElem?_eq_getElem hl)
      refine ⟨some v, ?_, v, rfl, h2⟩
      rw [List.getElem?_append_left (by rw [List.length_map, r.length]; exact hl), List.getElem?_map, h1]
      rfl
    · rename_i hl
      rw [List.length_map] at hl
      rw [List.getElem?_replicate] at e
      split at e <;> cases e
      rename_i h2
      rw [List.length_map] at h2
      refine ⟨none, ?_, trivial⟩
      rw [List.getElem?_append_right (by rw [List.length_map, r.length]; omega), List.getElem?_replicate, if_pos (by rw [List.length_map, r.length]; omega)]
  · rw [own_no i s e1] at o1
    cases o1
theorem stOk_start {F H : Hp} {σ : L2.St} {ρ : Rho} (E : EnvR F H σ ρ) (no : ∀ (i : Nat) (s : Sl), ρ[i]? = some s → s.own = false) : StOk F H F H σ ρ :=
  ⟨E, Gr.refl E.le, fun i s a e o _ => by rw [no i s e] at o; cases o⟩
theorem own_start {ds : List D} {k : Nat} : ∀ (j : Nat) (s : Sl), (ds.map Sl.fr ++ List.replicate k Sl.un)[j]? = some s → s.own = false := fun j s e => by
  rw [List.getElem?_append] at e
  split at e
  · rw [List.getElem?_map] at e
    cases h : ds[j]? with
    | none => rw [h] at e; cases e
    | some d => rw [h] at e; cases e; rfl
  · rw [List.getElem?_replicate] at e
    split at e <;> cases e
    rfl
/-- the end of a body -/
theorem fin_res {IsX : XIs} {F H : Hp} {Q : VK} {E : XK} {fl : Fl} {res : Res} (h : flRes fl = some res) (q : resFin IsX F H Q E res) : fin (fun c i => ∀ cls d H', IsX c i cls d H' → E cls d H') F H { nx := fun _ H' => Q .non H', rt := Q } fl := by
  cases fl with
  | nx ρ => cases h; exact fun σ F' H' S => q _ F' H' S.gr .non
  | br ρ => cases h
  | ct ρ => cases h
  | rt r => cases h; exact q
  | ex c i => cases h; exact q
section
variable {P : Program} {w : World} {K : PySem.W.Frag} {mg : Str → Option Value} {base : Heap} {x qual : Str} {f : Addr} {fd : FuncData} {N ps : List Str} {k : Nat} {g : Rho → Option Fl} {params : Arguments} {body : List Stmt} {sc : Scope}
/-- a def that raises nothing -/
theorem fn_ok {IsX : XIs} (F : FunD K x qual params body sc [] [] f fd) (S : FnScope N ps sc)
    (hb : ∀ (wx : Str → Int → Prop) (cdv : Value) (A : Around) (outer : List PySem.Env) (s : Shared) (H : Hp) (E : XK), Room k (A.deeper (PyProof.Rows.envOfC qual sc s.heap.objs.size f cdv)) → DSs wx (cxOf CX0 P w K mg base N qual sc f cdv A outer s H E).nox body g) :
    FnOk P w K mg base CX0 (k + 1) f fd ps (spD IsX (dFn ps.length N.length g)) := by
  refine F.ok S (fun vs H Q E ⟨F, ds, res, l, r, e, q⟩ => by rw [r.length]; exact (dFn_inv e).1) fun cdv A outer s H vs Q E hr ⟨F, ds, res, l, r, e, q⟩ => ?_
  obtain ⟨el, fl, e1, e2⟩ := dFn_inv e
  refine ⟨_, (hb (fun c i => ∀ cls d H', IsX c i cls d H' → E cls d H') cdv A outer s H E hr).nox, F, H, F, _, fl, stOk_start (envR_start l r _) own_start, ?_, fin_res e2 q⟩
  rw [r.length, el]
  exact e1
/-- what a caller knows of a def -/
structure FnD (P : Program) (w : World) (K : PySem.W.Frag) (mg : Str → Option Value) (base : Heap) (IsX : XIs) (CX : CXT) (k : Nat) (x : Str) (ps : List Str) (den : List D → Option Res) : Prop where
  ex : ∃ f fd, FnOk P w K mg base CX k f fd ps (spD IsX den) ∧ mg x = some (.ref f) ∧ PySem.W.keepIn K (.ref f) = true ∧ Binds K fd ps []
@[simp] def kCallD (den : List D → Option Res) (fs : Rho → Option (List D)) (ρ : Rho) : Option Rv := (fs ρ).bind fun ds => (den ds).bind fun res => match res with
  | .ok r => some r
  | _ => none
theorem callD_w {IsX : XIs} {den : List D → Option Res} {fs : Rho → Option (List D)} (σ : L2.St) (H : Hp) (Q : VK) (h : tR (kCallD den fs) σ H Q) : tCall (spD IsX den) [] E0 (tA fs) σ H Q := by
  obtain ⟨F, ρ, r, E, ef, q⟩ := h
  obtain ⟨ds, e1, ef⟩ := bind_some ef
  obtain ⟨res, e2, ef⟩ := bind_some ef
  cases res <;> cases ef
  refine ⟨F, ρ, ds, E, e1, fun vs F1 H1 g1 r1 => ⟨F1, ds, _, g1.s, by rw [List.append_nil]; exact r1, e2, fun v F2 H2 g2 r2 => ?_⟩⟩
  exact q v F2 H2 (g1.trans g2) (r2.gr (F := F) g1.h)
theorem DR.call {X : Cx} {IsX : XIs} {den : List D → Option Res} {fs : Rho → Option (List D)} {e : Expr} {es : List Expr} {p pos : Pos} (G : FnD X.prog X.w X.K X.mg X.base IsX CX0 k x ps den) (hr : Room k X.A) (hg : Gl X x) (ha : DA X (e :: es) fs) (hdb : (x == ("__debug__" : Str)) = false := by decide)
    (he : starEach (e :: es) X.env = (false, eval e X.env) :: starEach es X.env := by rfl) (hpl : (backTo pos (starEach es X.env)).any (·.1) = false := by rfl) : DR X (.Call (.Name x p) (e :: es) [] pos) (kCallD den fs) := by
  obtain ⟨f, fd, G, hm, hk, hb⟩ := G.ex
  exact (pe_call G hr hg hm hk hb .nil pass0 ha hdb he hpl).w callD_w
end
end DL

set_option Elab.async false
set_option linter.all false
set_option maxRecDepth 100000
set_option maxHeartbeats 2000000
namespace DL
open PySem PySem.Spec L2
section
variable {X : Cx}
theorem DE.globE {x : Str} {i : Int} {pos : Pos} (hg : Gl X x) (hm : ∃ t, X.mg x = some (.int i t)) (hd : (x == ("__debug__" : Str)) = false := by decide) : DE X (.Name x pos) (kC (.int i)) :=
  let ⟨_, h⟩ := hm
  DE.glob hg h hd
theorem boot_any_ : bootBuiltins "any" = some (.builtin "any") := by decide +kernel
theorem boot_all_ : bootBuiltins "all" = some (.builtin "all") := by decide +kernel
theorem boot_sum_ : bootBuiltins "sum" = some (.builtin "sum") := by decide +kernel
theorem boot_min_ : bootBuiltins "min" = some (.builtin "min") := by decide +kernel
theorem boot_max_ : bootBuiltins "max" = some (.builtin "max") := by decide +kernel
theorem boot_abs_ : bootBuiltins "abs" = some (.builtin "abs") := by decide +kernel
theorem boot_len_ : bootBuiltins "len" = some (.builtin "len") := by decide +kernel
theorem boot_sorted_ : bootBuiltins "sorted" = some (.builtin "sorted") := by decide +kernel
theorem boot_repr_ : bootBuiltins "repr" = some (.builtin "repr") := by decide +kernel
theorem boot_list_ : bootBuiltins "list" = some (.type "list") := by decide +kernel
theorem boot_tuple_ : bootBuiltins "tuple" = some (.type "tuple") := by decide +kernel
theorem boot_int_ : bootBuiltins "int" = some (.type "int") := by decide +kernel
theorem boot_set_ : bootBuiltins "set" = some (.type "set") := by decide +kernel
theorem boot_dict_ : bootBuiltins "dict" = some (.type "dict") := by decide +kernel
variable {a b c : Expr} {f1 f2 f3 : Rho → Option D} {pos : Pos}
theorem eAdd (ha : DE X a f1) (hb : DE X b f2) : DE X (.BinOp a .Add b pos) (kBin gAdd f1 f2) := DE.bin op_addD od_add ha hb
theorem eSub (ha : DE X a f1) (hb : DE X b f2) : DE X (.BinOp a .Sub b pos) (kBin gSub f1 f2) := DE.bin op_sub od_sub ha hb
theorem eMul (ha : DE X a f1) (hb : DE X b f2) : DE X (.BinOp a .Mult b pos) (kBin gMul f1 f2) := DE.bin op_mulD od_mul ha hb
theorem eDiv (ha : DE X a f1) (hb : DE X b f2) : DE X (.BinOp a .FloorDiv b pos) (kBin gDiv f1 f2) := DE.bin op_fdivN od_div ha hb
theorem eMod (ha : DE X a f1) (hb : DE X b f2) : DE X (.BinOp a .Mod b pos) (kBin gMod f1 f2) := DE.bin op_modN od_mod ha hb
theorem ePow (ha : DE X a f1) (hb : DE X b f2) : DE X (.BinOp a .Pow b pos) (kBin gPow f1 f2) := DE.bin op_pow od_pow ha hb
theorem eNeg (ha : DE X a f1) : DE X (.UnaryOp .USub a pos) (kUn gNeg f1) := DE.un un_neg ud_neg ha
/-- comparisons in short -/
theorem cEq (hu : X.A.units + 65 < cLine) : OpR X (compareOp .Eq) (rEqD X.K) := op_eqD (by omega)
theorem cNe (hu : X.A.units + 65 < cLine) : OpR X (compareOp .NotEq) (rNeD X.K) := op_neD (by omega)
theorem room_hu {k : Nat} {A : Around} (hr : Room k A) : A.units + 65 < cLine := by have := hr.un; omega
/-- a name's slot as a target -/
theorem gN (i : Nat) {x : Str} {p : Pos} (hN : X.N.Nodup) (hi : X.N[i]? = some x := by rfl) (hx : Loc X.env.scope x := by first | exact .inl rfl | exact .inr rfl) (hf : X.fn x = true ∨ X.env.scope.names.lookup x = some .local := by first | exact .inl rfl | exact .inr rfl) : DG X (.Name x p) [i] (sName i) := DG.name hN hi hx hf
variable {wx : Str → Int → Prop} {x : Str} {i : Nat} {pos' : Pos} {e : Expr}
theorem setE_w {f : Rho → Option Rv} {t : TE} (ht : ∀ σ H Q, tR f σ H Q → t σ H Q) (Z : Ends) (σ : L2.St) (H : Hp) (h : tS wx (zSet i (kData f)) Z σ H) : tAsg t (gName i) Z σ H := by
  obtain ⟨F0, H0, F, ρ, fl, S, ef, q⟩ := h
  obtain ⟨d, e1, ef⟩ := bind_some ef
  cases ef
  obtain ⟨r, e2, e3⟩ := bind_some e1
  cases e3
  refine ht _ _ _ ⟨F, ρ, r, S.env, e2, fun v F1 H1 g1 r1 => ?_⟩
  obtain ⟨F2, g2, r2⟩ := freeze g1 r1
  exact q _ F2 H1 ((S.gro g2).set i r2)
/-- x = [.. for ..], x never changed in place -/
theorem DS.setLcE {elt tg iter : Expr} {ifs : List Expr} {scope : Scope} {own : List (Str × Nat)} {spos : Pos} {src : Rho → Option (List D)} {g : D → Rho → Option Rho} {tt : Rho → Option Bool} {te : Rho → Option D} {js : List Nat} (hc : X.calm = true) (hN : X.N.Nodup) (hy : X.N[i]? = some x) (hyl : X.env.scope.names.lookup x = some .local)
    (hsw : swapsWith (.ListComp elt [⟨tg, iter, ifs, 0⟩] scope pos) (some (.Name x pos')) spos.line X.env = pure true) (hi : DIC X tg iter src) (ok : BlkOk X.N X.env.scope scope own)
    (hg : ∀ (s : Shared) (H : Hp) (C : Addr) (cl : List (Str × Addr)) (fp : List Addr), DG (X.blk s H scope (compEnvC scope cl C X.env) fp) tg js g)
    (ht : ∀ (s : Shared) (H : Hp) (C : Addr) (cl : List (Str × Addr)) (fp : List Addr), DTs (X.blk s H scope (compEnvC scope cl C X.env) fp) ifs tt)
    (he : ∀ (s : Shared) (H : Hp) (C : Addr) (cl : List (Str × Addr)) (fp : List Addr), DE (X.blk s H scope (compEnvC scope cl C X.env) fp) elt te)
    (hjs : ∀ j ∈ js, j ∈ own.map (·.2) := by decide) (hs : ∀ x, foldedSetIterable iter X.env x = pure x := by intro _; rfl) :
    DS wx X (.Assign [.Name x pos'] (.ListComp elt [⟨tg, iter, ifs, 0⟩] scope pos) spos) (zSet i (kData (kComp (own.map (·.2)) src g tt te))) :=
  (ps_setLc hc hN hy hyl hsw hi ok hg ht he hs).w (setE_w fun σ H Q h => lc_w hjs σ H Q h)
/-- x.extend(e) -/
@[simp] def zExt (i : Nat) (f : Rho → Option (List D)) (ρ : Rho) : Option Fl := match ρ[i]? with
  | some (.ow xs) => (f ρ).bind fun ds => if xs.length + ds.length ≤ line then some (.nx (ρ.set i (.ow (xs ++ ds)))) else none
  | _ => none
theorem DS.ext {o e : Expr} {f : Rho → Option (List D)} {apos cpos : Pos} (ho : PE X o (tVar i)) (he : DLs X e f) (hs : swapsWith (.Call (.Attribute o "extend" apos) [e] [] cpos) none pos.line X.env = pure false := by rfl)
    (hbase : attributeBase o "extend" X.env (eval o X.env) = eval o X.env := by rfl)
    (hfew : ((backTo cpos (starEach (e :: []) X.env)).all (fun x => !x.1) && (backToKw cpos (keywordEach [] X.env)).all (fun x => x.1.isSome)
      && decide ((e :: ([] : List Expr)).length + ([] : List Keyword).length + (if ([] : List Keyword).isEmpty then 0 else 1) < 30)) = true := by rfl)
    (hline : (apos.endLine == cpos.line) = true := by rfl) (h1 : starEach (e :: []) X.env = (false, eval e X.env) :: starEach [] X.env := by rfl) (hplain : (backTo cpos (starEach [] X.env)).any (·.1) = false := by rfl) :
    DS wx X (.Expr (.Call (.Attribute o "extend" apos) [e] [] cpos) pos) (zExt i f) :=
  (ps_expr (pe_bm PySem.F.plainAttrs_list PySem.F.slot_list_extend PySem.F.type_list_extend mt_extend ho (pa_cons he pa_nil h1) hbase hfew hline h1 hplain) hs).w fun Z σ H ⟨F0, H0, F, ρ, fl, S, ef, q⟩ => by
  unfold zExt at ef
  split at ef
  · rename_i xs hx
    obtain ⟨d, e1, ef⟩ := bind_some ef
    split at ef
    · rename_i hl
      cases ef
      obtain ⟨o, h1, a, vs, rfl, hf, hh, r⟩ := S.env.sl _ _ hx
      refine ⟨_, h1, .inl ⟨rfl, _, SqL.of hh⟩, F, ρ, d, S.env, e1, fun b us F1 H1 g1 hb r1 => ?_⟩
      have S1 := S.gro g1
      have hh1 := g1.h _ _ hh
      refine ⟨a, b, vs, us, rfl, rfl, hh1, hb, by rw [r.length, r1.length, line_eq]; exact hl, ?_⟩
      exact q σ F1 _ (S1.mut hx rfl rfl h1 ⟨a, _, rfl, (S1.env.own_at hx rfl h1).1, upd_same, (r.mono g1.f).append r1⟩)
    · cases ef
  · cases ef
end
end DL

set_option Elab.async false
set_option linter.all false
set_option maxRecDepth 100000
set_option maxHeartbeats 2000000
namespace DL
open PySem PySem.Spec L2

section
variable {X : Cx} {e a b : Expr} {pos p : Pos}
/-! ### list(range(n)) -/
@[simp] def gListRg1 : List D → Option Rv
  | [.int j] => if sm j = true ∧ j ≤ 16777216 then some (.ow (rangeD 0 1 j.toNat)) else none
  | _ => none
@[simp] def kListRg1 (f : Rho → Option (List D)) (ρ : Rho) : Option Rv := (f ρ).bind gListRg1
theorem rgV_rp {F : Hp} (j : Int) : RpAll F (rgV 0 j) (rangeD 0 1 j.toNat) := by
  have e1 : rgV 0 j = ((List.range j.toNat).map fun (i : Nat) => (i : Int)).map V.int := by
    unfold rgV
    rw [List.map_map, Int.sub_zero]
    exact List.map_congr_left fun i _ => by simp
  have e2 : rangeD 0 1 j.toNat = ((List.range j.toNat).map fun (i : Nat) => (i : Int)).map PyData.int := by
    unfold rangeD
    rw [List.map_map]
    exact List.map_congr_left fun i _ => by simp
  rw [e1, e2]
  exact RpAll.ints
theorem listRg_w {f : Rho → Option D} (σ : L2.St) (H : Hp) (Q : VK) (h : tR (kListRg1 (kCons f kNil)) σ H Q) : tLstRg (tRg1 (tE f)) σ H Q := by
  obtain ⟨F, ρ, r, E, ef, q⟩ := h
  obtain ⟨ds, e1, ef⟩ := bind_some ef
  obtain ⟨d, e2, e1⟩ := bind_some e1
  cases e1
  unfold gListRg1 at ef
  split at ef
  · rename_i j hj
    split at ef
    · rename_i hb
      cases ef
      cases hj
      refine ⟨F, ρ, _, E, e2, fun v F1 H1 g1 r1 => ?_⟩
      cases r1
      have hb1 := sm_iff.mp hb.1
      refine ⟨j, rfl, ⟨by omega, by omega, hb1.1, by omega, by omega⟩, fun p hp => ?_⟩
      exact q _ F1 _ (g1.trans (Gr.lay g1.s hp)) (rv_new g1.h g1.s hp (rgV_rp j))
    · cases ef
  · cases ef
theorem DR.listRg1 {f : Rho → Option D} {p2 pos2 : Pos} (hg : Gl X "list") (hm : X.mg "list" = none) (hg2 : Gl X "range") (hm2 : X.mg "range" = none) (ha : DE X a f) (hc : X.calm = true := by rfl)
    (na : starEach [a] X.env = (false, eval a X.env) :: starEach [] X.env := by rfl) (na2 : starEach [(.Call (.Name "range" p2) [a] [] pos2 : Expr)] X.env = (false, eval (.Call (.Name "range" p2) [a] [] pos2) X.env) :: starEach [] X.env := by rfl) :
    DR X (.Call (.Name "list" p) [.Call (.Name "range" p2) [a] [] pos2] [] pos) (kListRg1 (kCons f kNil)) :=
  (pe_listRg hc hg hm (prg_1 hg2 hm2 ha na) na2).w listRg_w

/-! ### sorted -/
open Classical in
noncomputable def gSorted (ds : List D) : Option Rv := if PySem.W.AllAlike ds ∧ PySem.W.Sortable ds ∧ ds.length ≤ line ∧ (∀ d ∈ ds, d.depth ≤ 60) then some (.ow (ds.mergeSort (PySem.W.dataLe false id))) else none
def rSortedA (K : PySem.W.Frag) : List V → Hp → VK → Prop := fun vs H Q => ∃ a xs ds, vs = [.ref a] ∧ SqL K H a xs ∧ DpAll K H xs ds ∧ PySem.W.AllAlike ds ∧ PySem.W.Sortable ds ∧ ds.length ≤ sizeLine ∧ (∀ d ∈ ds, d.depth ≤ 60) ∧
  ∀ ys p, Paired (fun (y : V) (d : D) => ∃ i : Nat, xs[i]? = some y ∧ ds[i]? = some d) ys (ds.mergeSort (PySem.W.dataLe false id)) → H p = none → Q (.ref p) (upd H p (.lst ys))
theorem each_of {α : Type} {R : Value → α → Prop} : ∀ {us : List Value} {ds : List α}, us.length = ds.length → (∀ (i : Nat) (u : Value) (d : α), us[i]? = some u → ds[i]? = some d → R u d) → PySem.W.EachIs R us ds
  | [], [], _, _ => .nil
  | u :: us, d :: ds, e, h => .cons (h 0 u d rfl rfl) (each_of (by simpa using e) fun i u' d' h1 h2 => h (i + 1) u' d' (by simpa using h1) (by simpa using h2))
  | [], _ :: _, e, _ => by simp at e
  | _ :: _, [], e, _ => by simp at e
theorem vals_of_each {xs : List V} {ds : List D} : ∀ {us : List Value} {es : List D}, PySem.W.EachIs (fun (u : Value) (d : D) => ∃ (i : Nat) (x : V), xs[i]? = some x ∧ ds[i]? = some d ∧ RelV x u) us es →
    ∃ ys : List V, Vals ys us ∧ Paired (fun (y : V) (d : D) => ∃ i : Nat, xs[i]? = some y ∧ ds[i]? = some d) ys es
  | _, _, .nil => ⟨[], .nil, .nil⟩
  | _, _, .cons ⟨i, x, h1, h2, h3⟩ t => let ⟨ys, a, b⟩ := vals_of_each t; ⟨x :: ys, .cons h3 a, .cons ⟨i, h1, h2⟩ b⟩
theorem readsAll_get {h : Heap} : ∀ {us : List Value} {ds : List D} {as : List Addr}, ReadsAll h us ds as → ∀ (i : Nat) (u : Value) (d : D), us[i]? = some u → ds[i]? = some d → ∃ as, Reads h u d as
  | _, _, _, .nil, i, u, d, h1, _ => by simp at h1
  | _, _, _, .cons r t, 0, u, d, h1, h2 => by simp at h1 h2; subst h1; subst h2; exact ⟨_, r⟩
  | _, _, _, .cons r t, i + 1, u, d, h1, h2 => readsAll_get t i u d (by simpa using h1) (by simpa using h2)
theorem readsAll_len {h : Heap} : ∀ {us : List Value} {ds : List D} {as : List Addr}, ReadsAll h us ds as → us.length = ds.length
  | _, _, _, .nil => rfl
  | _, _, _, .cons _ t => by simp [readsAll_len t]
theorem paired_len {α β : Type} {R : α → β → Prop} : ∀ {xs : List α} {ys : List β}, Paired R xs ys → xs.length = ys.length
  | _, _, .nil => rfl
  | _, _, .cons _ t => by simp [paired_len t]
theorem cr_sortedD (hu : X.A.units + 65 < cLine) : CallR X (.builtin "sorted") (rSortedA X.K) := by
  intro pins s σ H vs us Q I r h
  obtain ⟨a, xs, ds, rfl, hs, hd, h1, h2, h3, h4, q⟩ := h
  obtain ⟨its, rv, hl, hz⟩ := I.list hs
  rw [Vals.ref1 r]
  obtain ⟨as, ra⟩ := Dp.readsAll I ds xs its hd rv
  have le : its.length = ds.length := readsAll_len ra
  refine PySem.W.sorted_data (enc := (id : D → D)) (bs := ds) (R := fun u d => ∃ (i : Nat) (x : V), xs[i]? = some x ∧ ds[i]? = some d ∧ RelV x u) hl.isList (each_of le fun i u d e1 e2 => ?_) (each_of le fun i u d e1 e2 => readsAll_get ra i u d e1 e2) (by rw [List.map_id]; exact h1) (by rw [List.map_id]; exact h2) h3 (fun d hd => ?_) fun out ho he => ?_
  · have hi : i < xs.length := by rw [rv.length]; exact (List.getElem?_eq_some_iff.mp e1).1
    obtain ⟨u', hu', ru⟩ := rv.get (List.getElem?_eq_getElem hi)
    rw [e1] at hu'
    cases hu'
    exact ⟨i, _, List.getElem?_eq_getElem hi, e2, ru⟩
  · have := h4 d hd
    show X.A.units + 2 + d.depth < cLine
    omega
  · obtain ⟨ys, hv, hp⟩ := vals_of_each he
    obtain ⟨ep, he'⟩ := PyProof.Rows.sortedAll_at s.heap its out.toArray
    exact ⟨.ref _, upd H (s.heap.objs.size + 1) (.lst ys), I.laid (t' := s.toks) (fun _ _ => PyProof.Rows.sortedAll_old) (Nat.le_succ _) ⟨by rw [hv.length, ho]; exact h3, out, ep, hv, he'⟩, rfl, q ys _ hp (I.hok.fresh (Nat.le_succ _))⟩
theorem RpAll.of_paired {F : Hp} {xs : List V} {ds : List D} (r : RpAll F xs ds) : ∀ {ys : List V} {es : List D}, Paired (fun (y : V) (d : D) => ∃ i : Nat, xs[i]? = some y ∧ ds[i]? = some d) ys es → RpAll F ys es
  | _, _, .nil => .nil
  | _, _, .cons ⟨i, h1, h2⟩ t => .cons (by
      obtain ⟨v, e1, e2⟩ := r.get h2
      rw [h1] at e1
      cases e1
      exact e2) (r.of_paired t)
theorem cl_sorted {K : PySem.W.Frag} : CallL (rSortedA K) gSorted := fun F H a vs ds z l h r e Q q => by
  unfold gSorted at e
  split at e
  · rename_i hc
    cases e
    refine ⟨a, vs, ds, rfl, SqL.of h, r.dp l, hc.1, hc.2.1, by rw [line_eq]; exact hc.2.2.1, hc.2.2.2, fun ys p hp hn => ?_⟩
    exact q _ F _ (Gr.lay l hn) (rv_new (Le.refl H) l hn (r.of_paired hp))
  · cases e

/-! ### x in (..) too -/
def rInT (K : PySem.W.Frag) : R2 := fun x y H Q => ∃ d ds, Dp K H x d ∧ Dp K H y (.tuple ds) ∧ SeqAt.shaped d = true ∧ SeqAt.shaped (.tuple ds) = true ∧ Q (.bl (ds.any fun z => PyData.eqv z d)) H
theorem op_inT (hu : X.A.units + 65 < cLine) : OpR X (compareOp .In) (rInT X.K) := by
  intro pins s σ H x y v u Q I rx ry h
  obtain ⟨d, ds, hd, he, sd, se, q⟩ := h
  obtain ⟨as, r1⟩ := Dp.reads I d x v hd rx
  obtain ⟨bs, r2⟩ := Dp.reads I (.tuple ds) y u he ry
  have c2 : PyData.canLay0 (.tuple ds) = true := SeqAt.canLay_of_shaped se
  refine PySem.SeqAt.in_tuple_data r2 r1 (PyData.plainAll_of_canLay0 ds (by simpa [PyData.canLay0] using c2)) (PyData.plain_of_canLay0 d (SeqAt.canLay_of_shaped sd)) ?_ ⟨.bl _, H, I, rfl, q⟩
  have h2 := SeqAt.depth_of_shaped sd
  have h3 : min (PyData.depthAll ds) d.depth ≤ d.depth := Nat.min_le_right _ _
  omega
def rInA (K : PySem.W.Frag) : R2 := fun x y H Q => rInD K x y H Q ∨ rInT K x y H Q
theorem cIn (hu : X.A.units + 65 < cLine) : OpR X (compareOp .In) (rInA X.K) := OpR.or (op_inD hu) (op_inT hu)
@[simp] def gInA : D → D → Option D
  | x, .list ys => if SeqAt.shaped x = true ∧ SeqAt.shaped (.list ys) = true then some (.bool (ys.any fun z => PyData.eqv z x)) else none
  | x, .tuple ys => if SeqAt.shaped x = true ∧ SeqAt.shaped (.tuple ys) = true then some (.bool (ys.any fun z => PyData.eqv z x)) else none
  | _, _ => none
theorem od_inA {K : PySem.W.Frag} : OpD (rInA K) gInA := by
  intro F H x y dx dy d l r1 r2 e Q q
  unfold gInA at e
  split at e
  · split at e
    · rename_i h
      cases e
      exact .inl ⟨dx, _, r1.dp l, r2.dp l, h.1, h.2, q _ F H (Gr.refl l) (.bl _)⟩
    · cases e
  · split at e
    · rename_i h
      cases e
      exact .inr ⟨dx, _, r1.dp l, r2.dp l, h.1, h.2, q _ F H (Gr.refl l) (.bl _)⟩
    · cases e
  · cases e

/-! ### slices of a list or a tuple -/
def rSlD (K : PySem.W.Frag) : V → Option Int → Option Int → Hp → VK → Prop := fun x lo hi H Q => (∃ a xs, x = .ref a ∧ SqL K H a xs ∧ ∀ p, H p = none → Q (.ref p) (upd H p (.lst (cutV xs lo hi)))) ∨ rSlA K x lo hi H Q
@[simp] def kSlA (f : Rho → Option D) (lo hi : Rho → Option (Option Int)) (ρ : Rho) : Option Rv := (f ρ).bind fun d => (lo ρ).bind fun l => (hi ρ).bind fun h => match d with
  | .list xs => some (.ow (cutD xs l h))
  | .tuple xs => some (.fr (.tuple (cutD xs l h)))
  | _ => none
theorem cut_rp {F : Hp} {vs : List V} {ds : List D} (r : RpAll F vs ds) (lo hi : Option Int) : RpAll F (cutV vs lo hi) (cutD ds lo hi) := by
  unfold cutV cutD
  rw [r.length]
  exact (r.drop _).take _
theorem DR.slA {f : Rho → Option D} {lo hi : Option Expr} {l h : Rho → Option (Option Int)} {p2 : Pos} (ha : DE X a f) (hl : DO X lo l) (hh : DO X hi h) : DR X (.Subscript a (.Slice lo hi none p2) pos) (kSlA f l h) := (pe_slice (SlR.or sl_list sl_tupA) ha hl hh).w fun σ H Q ⟨F, ρ, r, E, ef, q⟩ => by
  obtain ⟨d, e1, ef⟩ := bind_some ef
  obtain ⟨i, e2, ef⟩ := bind_some ef
  obtain ⟨j, e3, ef⟩ := bind_some ef
  refine ⟨F, ρ, d, E, e1, fun v F1 H1 g1 r1 => ⟨F1, ρ, i, E.gr g1, e2, fun F2 H2 g2 => ⟨F2, ρ, j, (E.gr g1).gr g2, e3, fun F3 H3 g3 => ?_⟩⟩⟩
  have gg := (g1.trans g2).trans g3
  have r3 := r1.mono (g2.f.trans g3.f)
  cases d <;> cases ef
  · cases r3 with
    | lst h1 h2 => exact .inl ⟨_, _, rfl, SqL.of (gg.s _ _ h1), fun p hp => q _ F3 _ (gg.trans (Gr.lay gg.s hp)) (rv_new gg.h gg.s hp (cut_rp h2 i j))⟩
  · cases r3 with
    | tup h1 h2 =>
      refine .inr ⟨_, _, rfl, SqT.of (gg.s _ _ h1), fun hw => ?_, fun hw p hp => ?_⟩
      · refine q _ F3 _ gg ?_
        have e4 := h2.length
        have e5 : ∀ xs : List D, _ = xs.length → cutD xs i j = xs := fun xs e4 => by
          unfold cutD
          rw [← e4, hw.1, hw.2, e4]
          simp
        show Rp F3 _ (.tuple (cutD _ i j))
        rw [e5 _ e4]
        exact .tup h1 h2
      · exact q _ _ _ (gg.trans (Gr.frz gg.s hp)) (.tup upd_same ((cut_rp h2 i j).mono (Le.new (free_of gg.s hp))))

/-! ### xs + ys, a new list -/
@[simp] def kCat (f g : Rho → Option (List D)) (ρ : Rho) : Option Rv := (f ρ).bind fun xs => (g ρ).bind fun ys => if xs.length + ys.length ≤ line then some (.ow (xs ++ ys)) else none
theorem DR.cat {f g : Rho → Option (List D)} (ha : DLs X a f) (hb : DLs X b g) : DR X (.BinOp a .Add b pos) (kCat f g) := (pe_op op_cat ha hb).w fun σ H Q ⟨F, ρ, r, E, ef, q⟩ => by
  obtain ⟨xs, e1, ef⟩ := bind_some ef
  obtain ⟨ys, e2, ef⟩ := bind_some ef
  split at ef
  · rename_i hl
    cases ef
    refine ⟨F, ρ, xs, E, e1, fun a vs F1 H1 g1 h1 r1 => ⟨F1, ρ, ys, E.gr g1, e2, fun b us F2 H2 g2 h2 r2 => ?_⟩⟩
    have gg := g1.trans g2
    refine ⟨a, b, vs, us, rfl, rfl, g2.h _ _ h1, h2, by rw [r1.length, r2.length, line_eq]; exact hl, fun p hp => ?_⟩
    exact q _ F2 _ (gg.trans (Gr.lay gg.s hp)) (rv_new gg.h gg.s hp ((r1.mono g2.f).append r2))
  · cases ef
/-- xs * k, a new list -/
@[simp] def kRep (f : Rho → Option (List D)) (g : Rho → Option D) (ρ : Rho) : Option Rv := (f ρ).bind fun xs => (g ρ).bind fun k => match k with
  | .int k => if k < 2 ^ 32 ∧ -(2 ^ 32) < k ∧ xs.length * k.toNat ≤ line then some (.ow (List.replicate k.toNat xs).flatten) else none
  | _ => none
theorem DR.rep {f : Rho → Option (List D)} {g : Rho → Option D} (ha : DLs X a f) (hb : DE X b g) : DR X (.BinOp a .Mult b pos) (kRep f g) := (pe_op op_rep ha hb).w fun σ H Q ⟨F, ρ, r, E, ef, q⟩ => by
  obtain ⟨xs, e1, ef⟩ := bind_some ef
  obtain ⟨k, e2, ef⟩ := bind_some ef
  split at ef
  · split at ef
    · rename_i k hl
      cases ef
      refine ⟨F, ρ, xs, E, e1, fun a vs F1 H1 g1 h1 r1 => ⟨F1, ρ, _, E.gr g1, e2, fun u F2 H2 g2 r2 => ?_⟩⟩
      cases r2
      have gg := g1.trans g2
      refine ⟨a, k, vs, rfl, rfl, g2.h _ _ h1, by omega, by omega, by rw [r1.length, line_eq]; exact hl.2.2, fun p hp => ?_⟩
      exact q _ F2 _ (gg.trans (Gr.lay gg.s hp)) (rv_new gg.h gg.s hp ((r1.mono g2.f).replicate _))
    · cases ef
  · cases ef

/-! ### == of texts too -/
def rEqA (K : PySem.W.Frag) : R2 := fun x y H Q => rEq x y H Q ∨ rEqD K x y H Q
def rNeA (K : PySem.W.Frag) : R2 := fun x y H Q => rNe x y H Q ∨ rNeD K x y H Q
theorem cEqA (hu : X.A.units + 65 < cLine) : OpR X (compareOp .Eq) (rEqA X.K) := OpR.or op_eq (cEq hu)
theorem cNeA (hu : X.A.units + 65 < cLine) : OpR X (compareOp .NotEq) (rNeA X.K) := OpR.or op_ne (cNe hu)
@[simp] def gEqA : D → D → Option D
  | .str x, .str y => some (.bool (x == y))
  | x, y => gEq x y
@[simp] def gNeA : D → D → Option D
  | .str x, .str y => some (.bool (!(x == y)))
  | x, y => gNe x y
theorem od_eqA {K : PySem.W.Frag} : OpD (rEqA K) gEqA := by
  intro F H x y dx dy d l r1 r2 e Q q
  unfold gEqA at e
  split at e
  · cases e
    cases r1; cases r2
    refine .inl ⟨rfl, ?_⟩
    rw [dec_str]
    exact q _ F H (Gr.refl l) (.bl _)
  · exact .inr (od_eq F H x y _ _ d l r1 r2 e Q q)
theorem od_neA {K : PySem.W.Frag} : OpD (rNeA K) gNeA := by
  intro F H x y dx dy d l r1 r2 e Q q
  unfold gNeA at e
  split at e
  · cases e
    cases r1; cases r2
    refine .inl ⟨rfl, ?_⟩
    rw [dec_str]
    exact q _ F H (Gr.refl l) (.bl _)
  · exact .inr (od_ne F H x y _ _ d l r1 r2 e Q q)

/-! ### repr, where no guard stands -/
def gRepr : List D → Option Rv
  | [d] => if d.showable = true ∧ d.hasDict = false ∧ d.depth ≤ 60 ∧ d.shown.length ≤ line then some (.fr (.str d.shown)) else none
  | _ => none
def rRepr (K : PySem.W.Frag) : List V → Hp → VK → Prop := fun vs H Q => ∃ x d, vs = [x] ∧ Dp K H x d ∧ d.showable = true ∧ d.hasDict = false ∧ d.depth ≤ 60 ∧ d.shown.length ≤ sizeLine ∧ Q (.str d.shown) H
theorem cr_repr (hg : X.A.guards = some []) (hu : X.A.units + 65 < cLine) : CallR X (.builtin "repr") (rRepr X.K) := by
  intro pins s σ H vs us Q I r h
  obtain ⟨x, d, rfl, hd, h1, h2, h3, h4, q⟩ := h
  obtain ⟨u, rfl, ru⟩ := vals1 r
  obtain ⟨as, rd⟩ := Dp.reads I d x u hd ru
  cases rd with
  | none => exact PySem.P.repr_of_none ⟨.str _, H, I.tok _, ⟨_, rfl⟩, q⟩
  | bool b => exact PySem.P.repr_of_bool ⟨.str _, H, I.tok _, ⟨_, rfl⟩, by cases b <;> exact q⟩
  | int i t => exact PySem.P.repr_of_int (of_decide_eq_true h1) ⟨.str _, H, I.tok _, ⟨_, rfl⟩, q⟩
  | str z t => exact PySem.P.repr_of_str ⟨.str _, H, I.tok _, ⟨_, rfl⟩, q⟩ h4
  | list e1 e2 e3 e4 =>
    exact repr_of_reads' (Reads.list e1 e2 e3 e4) h1 (PyData.noDict_hsm h2) hg (by omega) (fun _ _ e => e) (fun h' u tk k => ⟨.str _, H, I.kept k, ⟨_, rfl⟩, q⟩) h4
  | tuple e1 e2 e3 e4 =>
    exact repr_of_reads' (Reads.tuple e1 e2 e3 e4) h1 (PyData.noDict_hsm h2) hg (by omega) (fun _ _ e => e) (fun h' u tk k => ⟨.str _, H, I.kept k, ⟨_, rfl⟩, q⟩) h4
  | dict => simp [PyData.hasDict] at h2
theorem cd_repr {K : PySem.W.Frag} : CallD (rRepr K) gRepr := fun F H vs ds z l r e Q q => by
  unfold gRepr at e
  split at e
  · split at e
    · rename_i d hc
      cases e
      cases r with
      | cons r1 r2 =>
        cases r2
        exact ⟨_, d, rfl, r1.dp l, hc.1, hc.2.1, hc.2.2.1, by rw [line_eq]; exact hc.2.2.2, q _ F H (Gr.refl l) (.str _)⟩
    · cases e
  · cases e
end
end DL

set_option Elab.async false
set_option linter.all false
set_option maxRecDepth 100000
set_option maxHeartbeats 2000000
namespace DL
open PySem PySem.Spec L2

section
variable {X : Cx} {wx : Str → Int → Prop} {e a b tg : Expr} {pos p : Pos} {i : Nat} {x : Str} {pos' : Pos}
/-! ### a range as a value -/
def rRange1 : List V → Hp → VK → Prop := fun vs H Q => ∃ j, vs = [V.int j] ∧ ∀ p, H p = none → Q (.ref p) (upd H p (.rng 0 j))
theorem cr_range1 : CallR X (.type "range") rRange1 := by
  intro pins s σ H vs us Q I r h
  obtain ⟨j, rfl, q⟩ := h
  obtain ⟨u1, rfl, ri⟩ := vals1 r
  obtain ⟨t, rfl⟩ := ri
  refine call_range_1 ⟨.ref s.heap.objs.size, upd H s.heap.objs.size (.rng 0 j), I.laid (t' := s.toks + 1 + 1) (fun b o e => Heap.get?_push_of_some _ e) (Nat.le_refl _) ?_, rfl, q _ (I.hok.fresh (Nat.le_refl _))⟩
  exact ⟨_, t, _, Heap.get?_push_size _ rfl⟩
theorem boot_range_ : bootBuiltins "range" = some (.type "range") := by decide +kernel
@[simp] def zSetRg (i : Nat) (f : Rho → Option D) (ρ : Rho) : Option Fl := (f ρ).bind fun d => match d with
  | .int j => some (.nx (ρ.set i (.rg 0 j)))
  | _ => none
theorem EnvR.setFr {F H : Hp} {σ : L2.St} {ρ : Rho} (E : EnvR F H σ ρ) (i : Nat) {v : V} {s0 : Sl} (hs : s0.own = false) (r : SlR F H (some v) s0) : EnvR F H (σ.set i (some v)) (ρ.set i s0) := by
  refine ⟨E.le, fun j s e => ?_, fun j k a s t e1 e2 o1 o2 h1 h2 => ?_⟩
  · by_cases q : i = j
    · subst q
      by_cases l : i < ρ.length
      · rw [List.getElem?_set_self l] at e
        obtain ⟨o, h, _⟩ := E.sl i ρ[i] (List.getElem?_eq_getElem l)
        cases e
        exact ⟨some v, List.getElem?_set_self (List.getElem?_eq_some_iff.mp h).1, r⟩
      · rw [List.getElem?_eq_none (by simpa using l)] at e; cases e
    · rw [List.getElem?_set_ne q] at e ⊢
      exact E.sl j s e
  · have go : ∀ j s, (ρ.set i s0)[j]? = some s → s.own = true → i ≠ j ∧ ρ[j]? = some s := fun j s e o => by
      by_cases q : i = j
      · subst q
        by_cases l : i < ρ.length
        · rw [List.getElem?_set_self l] at e; cases e; rw [hs] at o; cases o
        · rw [List.getElem?_eq_none (by simpa using l)] at e; cases e
      · rw [List.getElem?_set_ne q] at e; exact ⟨q, e⟩
    obtain ⟨n1, e1⟩ := go j s e1 o1
    obtain ⟨n2, e2⟩ := go k t e2 o2
    rw [List.getElem?_set_ne n1] at h1
    rw [List.getElem?_set_ne n2] at h2
    exact E.ap j k a s t e1 e2 o1 o2 h1 h2
theorem StOk.setFr {F0 H0 F H : Hp} {σ : L2.St} {ρ : Rho} (S : StOk F0 H0 F H σ ρ) (i : Nat) {v : V} {s0 : Sl} (hs : s0.own = false) (r : SlR F H (some v) s0) : StOk F0 H0 F H (σ.set i (some v)) (ρ.set i s0) := by
  refine ⟨S.env.setFr i hs r, S.gr, fun j s a e o h => ?_⟩
  by_cases q : i = j
  · subst q
    by_cases l : i < ρ.length
    · rw [List.getElem?_set_self l] at e; cases e; rw [hs] at o; cases o
    · rw [List.getElem?_eq_none (by simpa using l)] at e; cases e
  · rw [List.getElem?_set_ne q] at e h
    exact S.new j s a e o h
theorem DS.setRg {f : Rho → Option D} (hN : X.N.Nodup) (hi : X.N[i]? = some x) (hx : Loc X.env.scope x) (hG : Gl X "range") (hm : X.mg "range" = none) (ha : DE X a f)
    (hs : swapsWith (.Call (.Name "range" p) [a] [] pos) (some (.Name x pos')) pos.line X.env = pure false := by rfl) (hf : X.fn x = true ∨ X.env.scope.names.lookup x = some .local := by first | exact .inl rfl | exact .inr rfl | assumption)
    (he : starEach (a :: []) X.env = (false, eval a X.env) :: starEach [] X.env := by rfl) (hpl : (backTo pos (starEach [] X.env)).any (·.1) = false := by rfl) {spos : Pos} (hs : swapsWith (.Call (.Name "range" p) [a] [] pos) (some (.Name x pos')) spos.line X.env = pure false := by rfl) :
    DS wx X (.Assign [.Name x pos'] (.Call (.Name "range" p) [a] [] pos) spos) (zSetRg i f) := (ps_set hN hi hx (pe_callTy cr_range1 hG hm boot_range_ (pa_cons ha pa_nil he) (by decide) (by decide) he hpl) hs hf).w fun Z σ H ⟨F0, H0, F, ρ, fl, S, ef, q⟩ => by
  obtain ⟨d, e1, ef⟩ := bind_some ef
  cases d <;> cases ef
  refine ⟨F, ρ, _, S.env, e1, fun v F1 H1 g1 r1 => ?_⟩
  cases r1
  refine ⟨_, rfl, fun p hp => ?_⟩
  have S1 := S.gro g1
  exact q _ _ _ ((S1.gro (Gr.frz S1.env.le hp)).setFr i rfl ⟨p, rfl, upd_same⟩)
@[simp] def gRg (i : Nat) (ρ : Rho) : Option (List D) := match ρ[i]? with
  | some (.rg lo hi) => if sm lo = true ∧ sm hi = true then some (rangeD lo 1 (hi - lo).toNat) else none
  | _ => none
def iRgV (te : TE) : TI := fun σ H R => te σ H fun x H1 => ∃ a lo hi, x = .ref a ∧ H1 a = some (.rng lo hi) ∧ (-(2 ^ 62) ≤ lo ∧ lo < 2 ^ 62 ∧ -(2 ^ 62) ≤ hi ∧ hi < 2 ^ 62) ∧ R (Itr lo (hi - lo).toNat) H1
theorem pi_rgV {te : TE} (h : PE X e te) : PI X tg e (iRgV te) := by
  refine ⟨fun pins s σ H R I q => ?_⟩
  refine thn (h.run pins s σ H _ I q) fun v s1 ⟨x, H1, I1, r1, q1⟩ => ?_
  obtain ⟨a, lo, hi, rfl, ha, ⟨b1, b2, b3, b4⟩, q⟩ := q1
  obtain rfl : v = Value.ref a := r1
  obtain ⟨t1, t2, t3, ho⟩ := I1.hok a _ ha
  have hr : IsRange s1.heap a lo hi 1 t1 t2 t3 := ho
  refine wpAny_pyIter_range hr (small_one b1 b2 b3 b4) ?_
  refine ⟨s1.heap.objs.size, [s1.heap.objs.size], _, _, H1, rfl, I1.kept (t' := s1.toks) fun b o q => Heap.get?_push_of_some _ q, turn_range _ lo (hi - lo).toNat, ?_, fun b hb => ?_, q⟩
  · have e1 : lo + ((0 : Nat) : Int) * 1 = lo := by simp
    have e2 : (((hi - lo).toNat : Nat) : Int) - ((0 : Nat) : Int) = Builtin.Range.rangeSize lo hi 1 := by rw [rangeSize_one]; split <;> omega
    show IsRangeIter _ _ (lo + ((0 : Nat) : Int) * 1) ((((hi - lo).toNat : Nat) : Int) - ((0 : Nat) : Int)) 1
    rw [e1, e2]
    exact Heap.get?_push_size _ rfl
  · have z : b = s1.heap.objs.size := by simpa using hb
    subst z
    exact I1.fpOk (Nat.le_refl _) (I1.hok.fresh (Nat.le_refl _))
theorem DIF.rg (h : PE X e (tVar i)) : DIF X tg e (gRg i) := (pi_rgV h).w fun σ H R ⟨F, ρ, xs, E, ef, q⟩ => by
  unfold gRg at ef
  split at ef
  · rename_i lo hi hx
    split at ef
    · rename_i hb
      cases ef
      obtain ⟨o, h1, a, rfl, r⟩ := E.sl _ _ hx
      exact ⟨_, h1, a, lo, hi, rfl, E.le _ _ r, ⟨(sm_iff.mp hb.1).1, (sm_iff.mp hb.1).2, (sm_iff.mp hb.2).1, (sm_iff.mp hb.2).2⟩, q _ F H (Gr.refl E.le) j_range⟩
    · cases ef
  · cases ef

/-! ### two clauses -/
def compGo2 (g : D → Rho → Option Rho) (tt : Rho → Option Bool) (src1 : Rho → Option (List D)) (vs1 : List Nat) (g1 : D → Rho → Option Rho) (tt1 : Rho → Option Bool) (te : Rho → Option D) (ρ0 : Rho) : List D → Option (List D)
  | [] => some []
  | x :: xs => (g x ρ0).bind fun ρ1 => (tt ρ1).bind fun b => if b = true then (src1 ρ1).bind fun ys => (compGo g1 tt1 te (wipeE ρ1 vs1) ys).bind fun zs => (compGo2 g tt src1 vs1 g1 tt1 te ρ0 xs).bind fun r => some (zs ++ r)
      else compGo2 g tt src1 vs1 g1 tt1 te ρ0 xs
@[simp] def kComp2 (vs : List Nat) (src : Rho → Option (List D)) (g : D → Rho → Option Rho) (tt : Rho → Option Bool) (src1 : Rho → Option (List D)) (vs1 : List Nat) (g1 : D → Rho → Option Rho) (tt1 : Rho → Option Bool) (te : Rho → Option D) (ρ : Rho) : Option Rv :=
  (src ρ).bind fun xs => (compGo2 g tt src1 vs1 g1 tt1 te (wipeE ρ vs) xs).bind fit
variable {elt tg1 iter iter1 : Expr} {ifs ifs1 : List Expr} {scope : Scope} {own : List (Str × Nat)} {src src1 : Rho → Option (List D)} {g g1 : D → Rho → Option Rho} {tt tt1 : Rho → Option Bool} {te : Rho → Option D} {js js1 : List Nat}
theorem wipe_wipe1 {σ2 σ3 : L2.St} {vs1 : List Nat} (o : Only vs1 (L2.wipe σ2 vs1) σ3) : L2.wipe σ3 vs1 = L2.wipe σ2 vs1 := wipe_only o
theorem lc2_w (fz : Frz js g) (hjs : ∀ j ∈ js, j ∈ own.map (·.2)) (σ : L2.St) (H : Hp) (Q : VK) (h : tR (kComp2 (own.map (·.2)) src g tt src1 js1 g1 tt1 te) σ H Q) :
    tLc2 (tIC src) (tG js g) (tT tt) (tIF src1) (tG js1 g1) (tT tt1) (tE te) (own.map (·.2)) js1 σ H Q := by
  obtain ⟨F, ρ, r, E, ef, q⟩ := h
  obtain ⟨xs, e1, ef⟩ := bind_some ef
  obtain ⟨ys, e2, ef⟩ := bind_some ef
  obtain ⟨hl, rfl⟩ := fit_inv ef
  refine ⟨F, ρ, xs, E, e1, fun J F1 H1 gr1 j D0 h0 => ?_⟩
  refine ⟨fun i m H' => m = xs.length - i ∧ i ≤ xs.length ∧ ∃ F' dn rest, Acc F1 H1 D0 F' H' dn ∧ compGo2 g tt src1 js1 g1 tt1 te (wipeE ρ (own.map (·.2))) (xs.drop i) = some rest ∧ dn ++ rest = ys, ⟨xs.length, by simp, Nat.zero_le _, F1, [], ys, Acc.start gr1.s h0, by simpa using e2, rfl⟩, ?_⟩
  rintro i m H' ⟨rfl, hi, F', dn, rest, a, hr, hy⟩
  by_cases hlt : i < xs.length
  · refine .inr ⟨j.go i F' H' a.gr.h a.gr.f a.gr.s hlt, fun H2 => ∃ F2 dn rest, Acc F1 H1 D0 F2 H2 dn ∧ compGo2 g tt src1 js1 g1 tt1 te (wipeE ρ (own.map (·.2))) (xs.drop (i + 1)) = some rest ∧ dn ++ rest = ys, fun H2 ⟨F2, dn, rest, a2, b2, c2⟩ => ⟨xs.length - (i + 1), by omega, rfl, hlt, F2, dn, rest, a2, b2, c2⟩, fun x H2 y2 => ?_⟩
    obtain ⟨F2, gy, rx⟩ := j.yld i F' H' x H2 xs[i] a.gr.h a.gr.f a.gr.s (List.getElem?_eq_getElem hlt) y2
    have a2 := a.step gy
    rw [List.drop_eq_getElem_cons hlt] at hr
    obtain ⟨ρ1, e3, hr⟩ := bind_some (show (g _ _).bind _ = _ from hr)
    obtain ⟨b, e4, hr⟩ := bind_some hr
    refine ⟨F2, _, xs[i], ρ1, (E.wipe _).gr (gr1.trans a2.gr), rx, e3, fun σ2 E2 o2 => ⟨wipe_only (o2.mono hjs), F2, ρ1, b, E2, e4, fun F3 H3 gr3 => ?_⟩⟩
    have a3 := a2.step gr3
    have E3 := E2.gr gr3
    have nd : ∀ (j : Nat) (s : Sl) (c : Addr), ρ1[j]? = some s → s.own = true → σ2[j]? = some (some (.ref c)) → c ≠ D0 := fun j s c ej oj ho hc => by
      obtain ⟨n1, e1'⟩ := fz _ _ _ e3 j s ej oj
      rw [o2.2 j n1] at ho
      have := ((E.wipe _).own_at e1' oj ho).2
      rw [hc] at this
      exact this (free_of gr1.h h0)
    cases b with
    | false =>
      rw [if_neg Bool.false_ne_true] at hr
      exact iteF ⟨F3, dn, rest, a3, hr, hy⟩
    | true =>
      rw [if_pos rfl] at hr
      refine iteT ?_
      obtain ⟨us, e5, hr⟩ := bind_some hr
      obtain ⟨zs, e6, hr⟩ := bind_some hr
      obtain ⟨rest', e7, hr⟩ := bind_some hr
      cases hr
      refine ⟨F3, ρ1, us, E3, e5, fun J1 F4 H4 gr4 j1 => ?_⟩
      have a4 := a3.step gr4
      have E4 := E3.gr gr4
      refine ⟨fun k m H' => m = us.length - k ∧ k ≤ us.length ∧ ∃ F' dn1 rest1, Acc F1 H1 D0 F' H' dn1 ∧ Le F4 F' ∧ EnvR F' H' σ2 ρ1 ∧ compGo g1 tt1 te (wipeE ρ1 js1) (us.drop k) = some rest1 ∧ dn1 ++ rest1 = dn ++ zs, ⟨us.length, by simp, Nat.zero_le _, F4, dn, zs, a4, Le.refl _, E4, by simpa using e6, rfl⟩, ?_⟩
      rintro k m H5 ⟨rfl, hk, F5, dn1, rest1, a5, l5, E5, hr1, hy1⟩
      by_cases hlk : k < us.length
      · refine .inr ⟨j1.go k F5 H5 trivial l5 a5.gr.s hlk, fun H2 => ∃ F' dn1 rest1, Acc F1 H1 D0 F' H2 dn1 ∧ Le F4 F' ∧ EnvR F' H2 σ2 ρ1 ∧ compGo g1 tt1 te (wipeE ρ1 js1) (us.drop (k + 1)) = some rest1 ∧ dn1 ++ rest1 = dn ++ zs, fun H2 ⟨F2, dn, rest, a2, b2, c2, d2, f2⟩ => ⟨us.length - (k + 1), by omega, rfl, hlk, F2, dn, rest, a2, b2, c2, d2, f2⟩, fun x H6 y6 => ?_⟩
        obtain ⟨F6, gy6, rx6⟩ := j1.yld k F5 H5 x H6 us[k] trivial l5 a5.gr.s (List.getElem?_eq_getElem hlk) y6
        have a6 := a5.step gy6
        have E6 := E5.gr gy6
        rw [List.drop_eq_getElem_cons hlk] at hr1
        obtain ⟨ρ2, e8, hr1⟩ := bind_some (show (g1 _ _).bind _ = _ from hr1)
        obtain ⟨b, e9, hr1⟩ := bind_some hr1
        refine ⟨F6, _, us[k], ρ2, E6.wipe _, rx6, e8, fun σ3 E7 o3 => ⟨wipe_only o3, F6, ρ2, b, E7, e9, fun F8 H8 gr8 => ?_⟩⟩
        have a8 := a6.step gr8
        have E8 := E6.gr gr8
        cases b with
        | false =>
          rw [if_neg Bool.false_ne_true] at hr1
          exact iteF ⟨F8, dn1, rest1, a8, l5.trans (gy6.f.trans gr8.f), E8, hr1, hy1⟩
        | true =>
          rw [if_pos rfl] at hr1
          refine iteT ?_
          obtain ⟨y, e10, hr1⟩ := bind_some hr1
          obtain ⟨rest2, e11, hr1⟩ := bind_some hr1
          cases hr1
          refine ⟨F8, ρ2, y, E7.gr gr8, e10, fun v F9 H9 gr9 r9 => ?_⟩
          have a9 := a8.step gr9
          obtain ⟨acc, h4, h5⟩ := a9.at_
          have lnx : EnvR F9 (upd H9 D0 (.lst (acc ++ [v]))) σ2 ρ1 := by
            have E9 := E8.gr gr9
            have a10 := a9.put h0 r9 h4
            refine ⟨a10.gr.s, fun j s ej => ?_, E9.ap⟩
            obtain ⟨o, ho, ro⟩ := E9.sl j s ej
            refine ⟨o, ho, ?_⟩
            cases s with
            | un => trivial
            | fr d => exact ro
            | ow ys =>
              obtain ⟨c, vs, rfl, f, hc, rc⟩ := ro
              exact ⟨c, vs, rfl, f, by rw [upd_ne (nd j _ c ej rfl ho)]; exact hc, rc⟩
            | dk ys =>
              obtain ⟨c, vs, rfl, f, hc, rc⟩ := ro
              exact ⟨c, vs, rfl, f, by rw [upd_ne (nd j _ c ej rfl ho)]; exact hc, rc⟩
            | sc K ns => exact ro
            | rg lo hi => exact ro
          refine ⟨acc, h4, ?_, F9, dn1 ++ [y], rest2, a9.put h0 r9 h4, l5.trans (gy6.f.trans (gr8.f.trans gr9.f)), lnx, e11, by rw [List.append_assoc]; exact hy1⟩
          rw [h5.length, line_eq]
          have := congrArg List.length hy
          have := congrArg List.length hy1
          simp at *
          omega
      · have : k = us.length := by omega
        subst this
        rw [List.drop_length] at hr1
        cases hr1
        rw [List.append_nil] at hy1
        subst hy1
        exact .inl ⟨j1.stop _ F5 H5 trivial l5 a5.gr.s (Nat.le_refl _), F5, _, rest', a5, e7, by rw [List.append_assoc]; exact hy⟩
  · have : i = xs.length := by omega
    subst this
    rw [List.drop_length] at hr
    cases hr
    rw [List.append_nil] at hy
    subst hy
    refine .inl ⟨j.stop _ F' H' a.gr.h a.gr.f a.gr.s (Nat.le_refl _), ?_⟩
    obtain ⟨acc, h4, h5⟩ := a.at_
    exact q _ F' H' (gr1.trans a.gr) ⟨D0, acc, rfl, free_of gr1.h h0, a.fz, h4, h5⟩
theorem DR.lc2 (hc : X.calm = true) (hN : X.N.Nodup) (hi : DIC X tg iter src) (ok : BlkOk X.N X.env.scope scope own)
    (hg : ∀ (s : Shared) (H : Hp) (C : Addr) (cl : List (Str × Addr)) (fp : List Addr), DG (X.blk s H scope (compEnvC scope cl C X.env) fp) tg js g) (fz : Frz js g)
    (ht : ∀ (s : Shared) (H : Hp) (C : Addr) (cl : List (Str × Addr)) (fp : List Addr), DTs (X.blk s H scope (compEnvC scope cl C X.env) fp) ifs tt)
    (hi1 : ∀ (s : Shared) (H : Hp) (C : Addr) (cl : List (Str × Addr)) (fp : List Addr), DIF (X.blk s H scope (compEnvC scope cl C X.env) fp) tg1 iter1 src1)
    (hg1 : ∀ (s : Shared) (H : Hp) (C : Addr) (cl : List (Str × Addr)) (fp : List Addr), DG (X.blk s H scope (compEnvC scope cl C X.env) fp) tg1 js1 g1)
    (ht1 : ∀ (s : Shared) (H : Hp) (C : Addr) (cl : List (Str × Addr)) (fp : List Addr), DTs (X.blk s H scope (compEnvC scope cl C X.env) fp) ifs1 tt1)
    (he : ∀ (s : Shared) (H : Hp) (C : Addr) (cl : List (Str × Addr)) (fp : List Addr), DE (X.blk s H scope (compEnvC scope cl C X.env) fp) elt te)
    (hjs : ∀ j ∈ js, j ∈ own.map (·.2) := by decide) (hjs1 : ∀ j ∈ js1, j ∈ own.map (·.2) := by decide) (hs : ∀ x, foldedSetIterable iter X.env x = pure x := by intro _; rfl) (hs1 : ∀ env x, foldedSetIterable iter1 env x = pure x := by intro _ _; rfl) :
    DR X (.ListComp elt [⟨tg, iter, ifs, 0⟩, ⟨tg1, iter1, ifs1, 0⟩] scope pos) (kComp2 (own.map (·.2)) src g tt src1 js1 g1 tt1 te) :=
  (pe_lc2 hc hN hi ok hjs1 hg ht hi1 hg1 ht1 he hs hs1).w (lc2_w fz hjs)

/-! ### dicts with ints as keys, a name's own -/
def getD2 : List (Int × D) → Int → Option D
  | [], _ => none
  | (k, d) :: r, j => if k = j then some d else getD2 r j
def putD (ds : List (Int × D)) (j : Int) (d : D) : List (Int × D) :=
  if (ds.any fun kv => decide (kv.1 = j)) = true then ds.map (fun kv => if kv.1 = j then (kv.1, d) else kv) else ds ++ [(j, d)]
@[simp] def zDnew (i : Nat) (ρ : Rho) : Option Fl := some (.nx (ρ.set i (.dk [])))
theorem DS.dnew {dpos : Pos} (hN : X.N.Nodup) (hi : X.N[i]? = some x) (hx : Loc X.env.scope x) (hs : swapsWith (.Dict [] [] dpos) (some (.Name x pos')) pos.line X.env = pure false := by rfl) (hf : X.fn x = true ∨ X.env.scope.names.lookup x = some .local := by first | exact .inl rfl | exact .inr rfl | assumption) :
    DS wx X (.Assign [.Name x pos'] (.Dict [] [] dpos) pos) (zDnew i) := (ps_set hN hi hx pe_dnewK hs hf).w fun Z σ H ⟨F0, H0, F, ρ, fl, S, ef, q⟩ => by
  cases ef
  intro p hp
  have S1 := S.gro (Gr.lay S.env.le (o := .dK []) hp)
  refine q _ F _ (S1.setOwn i ⟨p, [], rfl, free_of S.env.le hp, upd_same, .nil⟩ (free_of S.gr.h hp) fun j s e o _ h => ?_)
  exact (S.env.own_at e o h).2 hp
theorem kvR_get {F : Hp} {j : Int} : ∀ {vs : List (Key × V)} {ds : List (Int × D)} {d : D}, KvR F vs ds → getD2 ds j = some d → ∃ v, valV vs (Sum.inl j) = some v ∧ Rp F v d
  | _, _, _, .nil, e => by cases e
  | (k, v) :: vs, (i, e) :: ds, d, .cons h r, q => by
    obtain ⟨h1, h2⟩ := h
    simp only at h1 h2
    subst h1
    unfold getD2 at q
    split at q
    · rename_i e1
      cases q
      subst e1
      exact ⟨v, valV_pos rfl, h2⟩
    · rename_i e1
      obtain ⟨u, q1, q2⟩ := kvR_get r q
      exact ⟨u, by rw [valV_neg (fun z => e1 (by injection z))]; exact q1, q2⟩
theorem kvR_any {F : Hp} {j : Int} : ∀ {vs : List (Key × V)} {ds : List (Int × D)}, KvR F vs ds → (vs.any fun kv => decide (kv.1 = Sum.inl j)) = ds.any fun kv => decide (kv.1 = j)
  | _, _, .nil => rfl
  | (k, v) :: vs, (i, e) :: ds, .cons h r => by
    obtain ⟨h1, h2⟩ := h
    simp only at h1
    subst h1
    rw [List.any_cons, List.any_cons, kvR_any r]
    congr 1
    simp
end
end DL

set_option Elab.async false
set_option linter.all false
set_option maxRecDepth 100000
set_option maxHeartbeats 2000000
namespace DL
open PySem PySem.Spec L2
theorem paired_map {α β : Type} {R : α → β → Prop} {f : α → α} {g : β → β} (h : ∀ a b, R a b → R (f a) (g b)) : ∀ {xs : List α} {ys : List β}, Paired R xs ys → Paired R (xs.map f) (ys.map g)
  | _, _, .nil => .nil
  | _, _, .cons r t => .cons (h _ _ r) (paired_map h t)
theorem paired_app {α β : Type} {R : α → β → Prop} {x : α} {y : β} (r : R x y) : ∀ {xs : List α} {ys : List β}, Paired R xs ys → Paired R (xs ++ [x]) (ys ++ [y])
  | _, _, .nil => .cons r .nil
  | _, _, .cons r' t => .cons r' (paired_app r t)
theorem kvR_put {F : Hp} {j : Int} {v : V} {d : D} {vs : List (Key × V)} {ds : List (Int × D)} (h : KvR F vs ds) (r : Rp F v d) : KvR F (putK vs (Sum.inl j) v) (putD ds j d) := by
  unfold putK putD
  rw [kvR_any h]
  split
  · refine paired_map (fun p q z => ?_) h
    obtain ⟨e1, e2⟩ := z
    by_cases e : q.1 = j
    · rw [if_pos e, if_pos (by rw [e1, e])]
      exact ⟨e1, r⟩
    · rw [if_neg e, if_neg (fun z => e (by rw [e1] at z; injection z))]
      exact ⟨e1, e2⟩
  · exact paired_app ⟨rfl, r⟩ h
section
variable {X : Cx} {wx : Str → Int → Prop} {e a b o k tg : Expr} {pos p tpos : Pos} {i : Nat} {x : Str} {pos' : Pos}
@[simp] def zDput (i : Nat) (f g : Rho → Option D) (ρ : Rho) : Option Fl := (f ρ).bind fun d => match ρ[i]? with
  | some (.dk kvs) => (g ρ).bind fun kd => match kd with
    | .int n => if kvs.length < line then some (.nx (ρ.set i (.dk (putD kvs n d)))) else none
    | _ => none
  | _ => none
theorem DS.dput {f g : Rho → Option D} (hu : X.A.units + 65 < cLine) (he : DE X e f) (ho : PE X o (tVar i)) (hk : DE X k g) (hs : swapsWith e (some (.Subscript o k tpos)) pos.line X.env = pure false := by rfl) : DS wx X (.Assign [.Subscript o k tpos] e pos) (zDput i f g) :=
  (ps_dput (by omega) ho hk he hs).w fun Z σ H ⟨F0, H0, F, ρ, fl, S, ef, q⟩ => by
  obtain ⟨d, e1, ef⟩ := bind_some ef
  split at ef
  · rename_i kvs hx
    obtain ⟨kd, e2, ef⟩ := bind_some ef
    split at ef
    · split at ef
      · rename_i n hl
        cases ef
        refine ⟨F, ρ, d, S.env, e1, fun v F1 H1 g1 r1 => ?_⟩
        have S1 := S.gro g1
        obtain ⟨o, h1, a, vs, rfl, hf, hh, r⟩ := S1.env.sl _ _ hx
        refine ⟨_, h1, F1, ρ, _, S1.env, e2, fun u F2 H2 g2 r2 => ?_⟩
        cases r2
        have S2 := S1.gro g2
        have r' := r.mono g2.f
        refine ⟨a, _, rfl, DPut.k (k := Sum.inl n) (g2.h _ _ hh) (by rw [paired_len r', line_eq]; exact hl), ?_⟩
        exact q σ F2 _ (S2.mut hx rfl rfl h1 ⟨a, _, rfl, (S2.env.own_at hx rfl h1).1, upd_same, kvR_put r' (r1.mono g2.f)⟩)
      · cases ef
    · cases ef
  · cases ef
@[simp] def kDget (i : Nat) (g : Rho → Option D) (ρ : Rho) : Option D := match ρ[i]? with
  | some (.dk kvs) => (g ρ).bind fun kd => match kd with
    | .int n => getD2 kvs n
    | _ => none
  | _ => none
theorem DE.dget {g : Rho → Option D} (hu : X.A.units + 65 < cLine) (ho : PE X o (tVar i)) (hk : DE X k g) (hs : NoSl k := by intro _ _; rfl) : DE X (.Subscript o k pos) (kDget i g) := (pe_dget (by omega) ho hk hs).w fun σ H Q ⟨F, ρ, d, E, ef, q⟩ => by
  unfold kDget at ef
  split at ef
  · rename_i kvs hx
    obtain ⟨kd, e2, ef⟩ := bind_some ef
    split at ef
    · rename_i n
      obtain ⟨o, h1, a, vs, rfl, hf, hh, r⟩ := E.sl _ _ hx
      refine ⟨_, h1, F, ρ, _, E, e2, fun u F2 H2 g2 r2 => ?_⟩
      cases r2
      obtain ⟨v, e3, r3⟩ := kvR_get (r.mono g2.f) ef
      exact ⟨a, v, rfl, by have := DGet.k (k := Sum.inl n) (g2.h _ _ hh); rw [e3] at this; exact this, q v F2 H2 g2 r3⟩
    · cases ef
  · cases ef

/-! ### a tuple whose first item is a new list -/
@[simp] def kTp (f : Rho → Option Rv) (g : Rho → Option (List D)) (ρ : Rho) : Option Rv := (f ρ).bind fun r => (g ρ).bind fun ds => if ds.length + 1 ≤ line then (match r with
  | .ow xs => some (.tp xs ds)
  | .fr d => some (.fr (.tuple (d :: ds)))
  | _ => none) else none
theorem DR.tp {n : Nat} {es : List Expr} {f : Rho → Option Rv} {g : Rho → Option (List D)} (h : DR X e f) (t : DA X es g) (hs : starEach (e :: es) X.env = (false, eval e X.env) :: starEach es X.env := by rfl) : DR X (.Tuple (e :: es) n pos) (kTp f g) := (pe_tup (pa_cons h t hs)).w fun σ H Q ⟨F, ρ, r, E, ef, q⟩ => by
  obtain ⟨r1, e1, ef⟩ := bind_some ef
  obtain ⟨ds, e2, ef⟩ := bind_some ef
  split at ef
  · rename_i hl
    refine ⟨F, ρ, r1, E, e1, fun v F1 H1 g1 rr => ⟨F1, ρ, ds, E.gr g1, e2, fun vs F2 H2 g2 rs => ⟨by rw [List.length_cons, rs.length, line_eq]; exact hl, fun p hp => ?_⟩⟩⟩
    have gg := g1.trans g2
    cases r1 with
    | tp => cases ef
    | fr d =>
      cases ef
      exact q _ _ _ (gg.trans (Gr.frz gg.s hp)) (.tup upd_same ((RpAll.cons (Rp.mono g2.f rr) rs).mono (Le.new (free_of gg.s hp))))
    | ow xs =>
      cases ef
      obtain ⟨a, us, rfl, h0, hf, hh, r⟩ := rr
      have hh2 := g2.h _ _ hh
      have ne : a ≠ p := ne_of_none hh2 hp
      have hf2 := g2.g a hf (by rw [hh]; exact fun z => nomatch z)
      exact q _ F2 _ (gg.trans (Gr.lay gg.s hp)) ⟨p, a, us, vs, rfl, h0, hf2, by rw [upd_ne ne]; exact hh2, r.mono g2.f, free_of gg.h hp, free_of gg.s hp, upd_same, rs⟩
  · cases ef
/-- return (x, ..), x a name that has a list of its own -/
@[simp] def zRetT (i : Nat) (g : Rho → Option (List D)) (ρ : Rho) : Option Fl := match ρ[i]? with
  | some (.ow xs) => (g ρ).bind fun ds => if ds.length + 1 ≤ line then some (.rt (.tp xs ds)) else none
  | _ => none
theorem DS.retT {n : Nat} {tp : Pos} {es : List Expr} {g : Rho → Option (List D)} (ho : PE X o (tVar i)) (t : DA X es g) (hs : starEach (o :: es) X.env = (false, eval o X.env) :: starEach es X.env := by rfl) : DS wx X (.Return (some (.Tuple (o :: es) n tp)) pos) (zRetT i g) :=
  (ps_ret (pe_tup (pa_cons ho t hs))).w fun Z σ H ⟨F0, H0, F, ρ, fl, S, ef, q⟩ => by
  unfold zRetT at ef
  split at ef
  · rename_i xs hx
    obtain ⟨ds, e1, ef⟩ := bind_some ef
    split at ef
    · rename_i hl
      cases ef
      obtain ⟨o, h1, a, vs, rfl, hf, hh, r⟩ := S.env.sl _ _ hx
      refine ⟨_, h1, F, ρ, ds, S.env, e1, fun us F1 H1 g1 rs => ⟨by rw [List.length_cons, rs.length, line_eq]; exact hl, fun p hp => ?_⟩⟩
      have S1 := S.gro g1
      have hh1 := g1.h _ _ hh
      have ne : a ≠ p := ne_of_none hh1 hp
      exact q _ F1 _ (S1.gr.trans (Gr.lay S1.env.le hp)) ⟨p, a, vs, us, rfl, S.new _ _ _ hx rfl h1, (S1.env.own_at hx rfl h1).1, by rw [upd_ne ne]; exact hh1, r.mono g1.f, free_of S1.gr.h hp, free_of S1.env.le hp, upd_same, rs⟩
    · cases ef
  · cases ef
/-- f(..)[0].append(e), the list being new -/
@[simp] def zTapp (f : Rho → Option Rv) (g : Rho → Option D) (ρ : Rho) : Option Fl := (f ρ).bind fun r => match r with
  | .tp xs ds => (g ρ).bind fun _ => if xs.length < line then some (.nx ρ) else none
  | _ => none
theorem DS.tapp {f : Rho → Option Rv} {g : Rho → Option D} {apos cpos spos zpos : Pos} {zk : Nat} (ho : DR X o f) (he : DE X e g) (hs : swapsWith (.Call (.Attribute (.Subscript o (.Constant (.int 0) zk zpos) spos) "append" apos) [e] [] cpos) none pos.line X.env = pure false := by rfl)
    (hbase : attributeBase (.Subscript o (.Constant (.int 0) zk zpos) spos) "append" X.env (eval (.Subscript o (.Constant (.int 0) zk zpos) spos) X.env) = eval (.Subscript o (.Constant (.int 0) zk zpos) spos) X.env := by rfl)
    (hfew : ((backTo cpos (starEach (e :: []) X.env)).all (fun x => !x.1) && (backToKw cpos (keywordEach [] X.env)).all (fun x => x.1.isSome)
      && decide ((e :: ([] : List Expr)).length + ([] : List Keyword).length + (if ([] : List Keyword).isEmpty then 0 else 1) < 30)) = true := by rfl)
    (hline : (apos.endLine == cpos.line) = true := by rfl) (h1 : starEach (e :: []) X.env = (false, eval e X.env) :: starEach [] X.env := by rfl) (hplain : (backTo cpos (starEach [] X.env)).any (·.1) = false := by rfl) :
    DS wx X (.Expr (.Call (.Attribute (.Subscript o (.Constant (.int 0) zk zpos) spos) "append" apos) [e] [] cpos) pos) (zTapp f g) :=
  (ps_expr (pe_bm PySem.F.plainAttrs_list PySem.F.slot_list_append PySem.F.type_list_append mt_append (pe_ix ix_tup ho pe_int (by intro _ _; rfl)) (pa_cons he pa_nil h1) hbase hfew hline h1 hplain) hs).w fun Z σ H ⟨F0, H0, F, ρ, fl, S, ef, q⟩ => by
  obtain ⟨r, e1, ef⟩ := bind_some ef
  cases r with
  | fr d => cases ef
  | ow d => cases ef
  | tp xs ds =>
    obtain ⟨d, e2, ef⟩ := bind_some ef
    split at ef
    · rename_i hl
      cases ef
      refine ⟨F, ρ, _, S.env, e1, fun v F1 H1 g1 rr => ?_⟩
      obtain ⟨p, a, vs, ws, rfl, a0, af, ah, ra, p0, pf, ph, rw_⟩ := rr
      refine ⟨p, _, 0, .ref a, rfl, rfl, SqT.of ph, (by simp [atI, ixN]), .inl ⟨rfl, _, SqL.of ah⟩, F1, ρ, d, S.env.gr g1, e2, fun u F2 H2 g2 r2 => ?_⟩
      have S2 := (S.gro g1).gro g2
      have ah2 := g2.h _ _ ah
      have af2 := g2.g a af (by rw [ah]; exact fun z => nomatch z)
      refine ⟨a, vs, u, rfl, rfl, ah2, by rw [ra.length, line_eq]; exact hl, ?_⟩
      have gg := g1.trans g2
      have gn : Gr F H F2 (upd H2 a (.lst (vs ++ [u]))) := ⟨gg.f, fun b t z => by rw [upd_ne (ne_of_none z a0)]; exact gg.h b t z, fun b t z => by
        have : b ≠ a := fun y => by rw [y, af2] at z; cases z
        rw [upd_ne this]; exact gg.s b t z, gg.g⟩
      exact q σ F2 _ (S.gro gn)
    · cases ef
end
end DL

set_option Elab.async false
set_option linter.all false
set_option maxRecDepth 100000
set_option maxHeartbeats 2000000
namespace DL
open PySem PySem.Spec L2
/-! ### the law's script -/
open Classical in
@[simp] noncomputable def scAt (K : PySem.W.Frag) (i : Nat) (ρ : Rho) : Option (List Int) := match ρ[i]? with
  | some (.sc K' ns) => if K' = K then some ns else none
  | _ => none
@[simp] noncomputable def kScLen (K : PySem.W.Frag) (i : Nat) (ρ : Rho) : Option Rv := (scAt K i ρ).bind fun ns => some (.fr (.int ns.length))
@[simp] noncomputable def kScIx (K : PySem.W.Frag) (i : Nat) (g : Rho → Option D) (ρ : Rho) : Option D := (scAt K i ρ).bind fun ns => (g ρ).bind fun kd => match kd with
    | .int n => (atI ns n).bind fun m => some (.int m)
    | _ => none
theorem scAt_inv {K : PySem.W.Frag} {i : Nat} {ρ : Rho} {ns : List Int} (h : scAt K i ρ = some ns) : ρ[i]? = some (.sc K ns) := by
  unfold scAt at h
  split at h
  · rename_i K' ms e
    split at h
    · rename_i hk
      cases h
      rw [e, hk]
    · cases h
  · cases h
theorem atI_map {α β : Type} (f : α → β) (xs : List α) (i : Int) : atI (xs.map f) i = (atI xs i).map f := by
  unfold atI
  rw [List.length_map]
  cases ixN xs.length i with
  | none => rfl
  | some j => simp
def spS (IsX : XIs) (K : PySem.W.Frag) (den : List Int → Option Res) : Sp := fun vs H Q E => ∃ F a ns res, Le F H ∧ vs = [.ref a] ∧ SqL K F a (ns.map V.int) ∧ den ns = some res ∧ resFin IsX F H Q E res
@[simp] def dSc (K : PySem.W.Frag) (N : Nat) (f : Rho → Option Fl) (ns : List Int) : Option Res := (f (Sl.sc K ns :: List.replicate (N - 1) Sl.un)).bind flRes
section
variable {X : Cx} {e k o : Expr} {pos p : Pos} {i : Nat} {x : Str}
theorem DR.scLen (hG : Gl X "len") (hm : X.mg "len" = none) (ho : PE X o (tVar i)) (he : starEach (o :: []) X.env = (false, eval o X.env) :: starEach [] X.env := by rfl) (hpl : (backTo pos (starEach [] X.env)).any (·.1) = false := by rfl) :
    DR X (.Call (.Name "len" p) [o] [] pos) (kScLen X.K i) := (pe_callB cr_len hG hm boot_len_ (pa_cons ho pa_nil he) (by decide) (by decide) he hpl).w fun σ H Q ⟨F, ρ, r, E, ef, q⟩ => by
  obtain ⟨ns, e1, ef⟩ := bind_some ef
  cases ef
  obtain ⟨o, h1, a, rfl, hs⟩ := E.sl _ _ (scAt_inv e1)
  refine ⟨_, h1, a, _, rfl, .inl (sqL_le E.le hs), ?_⟩
  rw [List.length_map]
  exact q _ F H (Gr.refl E.le) (.int _)
theorem DE.scIx {g : Rho → Option D} (ho : PE X o (tVar i)) (hk : DE X k g) (hs : PlainIx k := by intro _ _; rfl) : DE X (.Subscript o k pos) (kScIx X.K i g) := (pe_ix ix_list ho hk hs).w fun σ H Q ⟨F, ρ, r, E, ef, q⟩ => by
  obtain ⟨ns, e1, ef⟩ := bind_some ef
  obtain ⟨kd, e2, ef⟩ := bind_some ef
  split at ef
  · rename_i n
    obtain ⟨m, e3, ef⟩ := bind_some ef
    cases ef
    obtain ⟨o, h1, a, rfl, hs⟩ := E.sl _ _ (scAt_inv e1)
    refine ⟨_, h1, F, ρ, _, E, e2, fun u F2 H2 g2 r2 => ?_⟩
    cases r2
    exact ⟨a, _, n, .int m, rfl, rfl, sqL_le (g2.s) (sqL_le g2.f hs), by rw [atI_map, e3]; rfl, q _ F2 H2 g2 (.int _)⟩
  · cases ef
variable {P : Program} {w : World} {K : PySem.W.Frag} {mg : Str → Option Value} {base : Heap} {qual : Str} {f : Addr} {fd : FuncData} {N ps : List Str} {kk : Nat} {g : Rho → Option Fl} {params : Arguments} {body : List Stmt} {sc : Scope}
theorem envR_sc {F H : Hp} (l : Le F H) {a : Addr} {ns : List Int} (r : SqL K F a (ns.map V.int)) (n : Nat) : EnvR F H (some (.ref a) :: List.replicate n none) (Sl.sc K ns :: List.replicate n Sl.un) := by
  have own_no : ∀ (j : Nat) (s : Sl), (Sl.sc K ns :: List.replicate n Sl.un)[j]? = some s → s.own = false := fun j s e => by
    cases j with
    | zero => cases e; rfl
    | succ j =>
      rw [List.getElem?_cons_succ, List.getElem?_replicate] at e
      split at e <;> cases e
      rfl
  refine ⟨l, fun i s e => ?_, fun i j a s t e1 e2 o1 o2 _ _ => ?_⟩
  · cases i with
    | zero => cases e; exact ⟨_, rfl, a, rfl, r⟩
    | succ i =>
      rw [List.getElem?_cons_succ, List.getElem?_replicate] at e
      split at e <;> cases e
      rename_i h
      exact ⟨none, by rw [List.getElem?_cons_succ, List.getElem?_replicate, if_pos h], trivial⟩
  · rw [own_no i s e1] at o1
    cases o1
theorem own_sc {K : PySem.W.Frag} {ns : List Int} {n : Nat} : ∀ (j : Nat) (s : Sl), (Sl.sc K ns :: List.replicate n Sl.un)[j]? = some s → s.own = false := fun j s e => by
    cases j with
    | zero => cases e; rfl
    | succ j =>
      rw [List.getElem?_cons_succ, List.getElem?_replicate] at e
      split at e <;> cases e
      rfl
/-- a def that is given the script, and raises nothing -/
theorem fn_okS {IsX : XIs} (F : FunD K x qual params body sc [] [] f fd) (S : FnScope N ps sc) (h1 : ps.length = 1)
    (hb : ∀ (wx : Str → Int → Prop) (cdv : Value) (A : Around) (outer : List PySem.Env) (s : Shared) (H : Hp) (E : XK), Room kk (A.deeper (PyProof.Rows.envOfC qual sc s.heap.objs.size f cdv)) → DSs wx (cxOf CX0 P w K mg base N qual sc f cdv A outer s H E).nox body g) :
    FnOk P w K mg base CX0 (kk + 1) f fd ps (spS IsX K (dSc K N.length g)) := by
  refine F.ok S (fun vs H Q E ⟨F, a, ns, res, l, e, _⟩ => by rw [e, h1]; rfl) fun cdv A outer s H vs Q E hr ⟨F, a, ns, res, l, e, r, ed, q⟩ => ?_
  subst e
  obtain ⟨fl, e1, e2⟩ := bind_some ed
  exact ⟨_, (hb (fun c i => ∀ cls d H', IsX c i cls d H' → E cls d H') cdv A outer s H E hr).nox, F, H, F, _, fl, stOk_start (envR_sc l r _) own_sc, e1, fin_res e2 q⟩
structure FnS (P : Program) (w : World) (K : PySem.W.Frag) (mg : Str → Option Value) (base : Heap) (IsX : XIs) (CX : CXT) (k : Nat) (x : Str) (ps : List Str) (den : List Int → Option Res) : Prop where
  ex : ∃ f fd, FnOk P w K mg base CX k f fd ps (spS IsX K den) ∧ mg x = some (.ref f) ∧ PySem.W.keepIn K (.ref f) = true ∧ Binds K fd ps []
@[simp] noncomputable def kCallSc (K : PySem.W.Frag) (den : List Int → Option Res) (i : Nat) (ρ : Rho) : Option Rv := (scAt K i ρ).bind fun ns => (den ns).bind fun res => match res with
  | .ok r => some r
  | _ => none
theorem DR.callSc {IsX : XIs} {den : List Int → Option Res} {e : Expr} {p pos : Pos} (G : FnS X.prog X.w X.K X.mg X.base IsX CX0 kk x ps den) (hr : Room kk X.A) (hg : Gl X x) (ho : PE X e (tVar i)) (hdb : (x == ("__debug__" : Str)) = false := by decide)
    (he : starEach (e :: []) X.env = (false, eval e X.env) :: starEach [] X.env := by rfl) (hpl : (backTo pos (starEach [] X.env)).any (·.1) = false := by rfl) : DR X (.Call (.Name x p) [e] [] pos) (kCallSc X.K den i) := by
  obtain ⟨f, fd, G, hm, hk, hb⟩ := G.ex
  refine (pe_call G hr hg hm hk hb .nil pass0 (pa_cons ho pa_nil he) hdb he hpl).w fun σ H Q ⟨F, ρ, r, E, ef, q⟩ => ?_
  obtain ⟨ns, e1, ef⟩ := bind_some ef
  obtain ⟨res, e2, ef⟩ := bind_some ef
  cases res <;> cases ef
  obtain ⟨o, h1, a, rfl, hs⟩ := E.sl _ _ (scAt_inv e1)
  refine ⟨_, h1, F, a, ns, _, E.le, rfl, hs, e2, fun v F2 H2 g2 r2 => q v F2 H2 g2 r2⟩
end

/-! ### the law's own call: no guard stands about it -/
section
variable {P : Program} {w : World} {K : PySem.W.Frag} {mg : Str → Option Value} {base : Heap} {qual x : Str} {f : Addr} {fd : FuncData} {N : List Str} {kk : Nat} {params : Arguments} {body : List Stmt} {sc : Scope}
/-- what the law's def does with its script, called as claims call -/
def LawAt (P : Program) (w : World) (K : PySem.W.Frag) (mg : Str → Option Value) (base : Heap) (f : Addr) (n : Nat) : Prop :=
  ∀ (s : Shared) (H : Hp) (a : Addr) (ns : List Int), ns.length ≤ n → Env0 P w K mg base callerA [] s H → SqL K H a (ns.map V.int) →
    codeAny (model P w) callerA (.call (.ref f) ⟨[.ref a], []⟩) (CR CX0 [] P w H s (fun v _ => v = .bl true) fun _ _ _ => False) s
theorem law_at {n : Nat} {g : Rho → Option Fl} (F : FunD K x qual params body sc [] [] f fd) (S : FnScope N [qx] sc) (hb : Binds K fd [qx] []) (hr : Room (kk + 1) callerA)
    (hd : ∀ ns : List Int, ns.length ≤ n → (g (Sl.sc K ns :: List.replicate (N.length - 1) Sl.un)).bind flRes = some (.ok (.fr (.bool true))))
    (hbody : ∀ (wx : Str → Int → Prop) (cdv : Value) (A : Around) (outer : List PySem.Env) (s : Shared) (H : Hp) (E : XK), A.guards = some [] → Room kk (A.deeper (PyProof.Rows.envOfC qual sc s.heap.objs.size f cdv)) →
      DSs wx (cxOf CX0 P w K mg base N qual sc f cdv A outer s H E).nox body g) : LawAt P w K mg base f n := by
  intro s H a ns hn e0 hs
  obtain ⟨oc, od, dV, kV, doc, pm, an, cdv, ct, osl, rfl, lk, hcd, _, _⟩ := F.ex
  have hK : K.In s.heap := e0.mod.kin.keeps fun b o e => (e0.bs b o e).1
  refine StX.run_bnd (ps := [qx]) (G := fun vs H2 => vs = [.ref a] ∧ H2 = H) lk hcd S hr e0 (fun A' Ex Q hq => ?_) fun s2 H2 vs hg hr2 => ?_
  · refine hb s [.ref a] hK rfl _ _ _ _ ?_
    exact hq s H [.ref a] [.ref a] e0 (Un.kept fun _ _ e => e) rfl (fun _ _ z => z) (.cons rfl .nil) rfl ⟨rfl, rfl⟩
  · obtain ⟨rfl, rfl⟩ := hg
    obtain ⟨fl, e1, e2⟩ := bind_some (hd ns hn)
    have B := hbody (fun _ _ => True) cdv callerA [] s2 H2 (fun _ _ _ => False) rfl hr2
    refine ⟨_, B.nox, H2, H2, H2, _, fl, stOk_start (envR_sc (Le.refl H2) hs _) own_sc, e1, ?_⟩
    cases fl with
    | nx ρ => cases e2
    | br ρ => cases e2
    | ct ρ => cases e2
    | rt r =>
      cases e2
      intro v F3 H3 _ r3
      cases r3
      rfl
    | ex c i => cases e2
end
end DL

set_option Elab.async false
set_option linter.all false
set_option maxRecDepth 100000
set_option maxHeartbeats 2000000
namespace DL
open PySem PySem.Spec PyProof.Rows L2
/-- the script alone is tracked, unless it is one of the module's own objects -/
def scH (K : PySem.W.Frag) (a : Addr) (its : List Value) (ns : List Int) : Hp := fun b => if b = a ∧ K.lookup a = none then some (.frz { cls := .type "list", data := .seq its.toArray } (.lst (ns.map V.int))) else none
theorem scH_inv {K : PySem.W.Frag} {a b : Addr} {its : List Value} {ns : List Int} {u : HO} (h : scH K a its ns b = some u) : b = a ∧ K.lookup a = none ∧ u = .frz { cls := .type "list", data := .seq its.toArray } (.lst (ns.map V.int)) := by
  unfold scH at h
  split at h
  · rename_i c
    cases h
    exact ⟨c.1, c.2, rfl⟩
  · cases h
theorem scH_off {K : PySem.W.Frag} {a b : Addr} {its : List Value} {ns : List Int} (h : b = a → K.lookup a ≠ none) : scH K a its ns b = none := by
  cases e : scH K a its ns b with
  | none => rfl
  | some u => obtain ⟨q, z, _⟩ := scH_inv e; exact absurd z (h q)
section
variable {P : Program} {w : World} {K : PySem.W.Frag} {mg mb : Str → Option Value} {fa a : Addr} {s : Shared} {its : List Value} {ns : List Int} {n : Nat}
theorem law_end (KX : K.In s.heap) (h1 : s.heap.Ns mainGlobals mg) (h2 : s.heap.Ns builtinsNs mb) (h3 : ∀ x : Str, x ≠ "__name__" → mb x = bootBuiltins x) (h4 : s.heap.NoLimit) (h5 : s.gens = #[])
    (ha : s.heap.get? a = some { cls := .type "list", data := .seq its.toArray }) (hi : PyProof.Rows.IntsAre its ns) (hn : ns.length ≤ n) (hl : n ≤ sizeLine)
    (F : ∀ base : Heap, K.In base → base.Ns mainGlobals mg → LawAt P w K mg base fa n) :
    codeAny (model P w) callerA (.call (.ref fa) ⟨[.ref a], []⟩) (fun r s' => r = .ok (.ret (.bool true)) ∧ OldK s.heap s'.heap ∧ s'.os = s.os ∧ AllBare s'.gens) s := by
  have rv := vals_ints hi
  have len : its.length = ns.length := hi.length
  generalize hH : scH K a its ns = H
  -- dicts of the heap are not tracked
  have dictOff : ∀ {b : Addr} {o : Obj} {es : Array DictEntry} {ep : Nat}, s.heap.get? b = some o → o.data = .dict es ep → H b = none := by
    intro b o es ep e d
    rw [← hH]
    refine scH_off fun z => ?_
    subst z
    rw [ha] at e
    cases e
    cases d
  have modOff : ∀ {b : Addr} {o : Obj}, K.lookup b = some o → H b = none := by
    intro b o e
    rw [← hH]
    refine scH_off fun z => ?_
    subst z
    rw [e]
    exact fun q => nomatch q
  have ns_ : ∀ {b : Addr} {m : Str → Option Value}, s.heap.Ns b m → (hidT s.heap H).Ns b m := by
    rintro b m ⟨o, es, ep, e, d, r⟩
    exact ⟨o, es, ep, hidT_get e (dictOff e d), d, r⟩
  have kin : K.In (hidT s.heap H) := fun b o e => hidT_get (KX b o e) (modOff e)
  have hok : HOk P w H s.heap := by
    intro b u e
    rw [← hH] at e
    obtain ⟨rfl, _, rfl⟩ := scH_inv e
    exact ⟨ha, by rw [List.length_map]; omega, its, _, rv, ha⟩
  have sq : SqL K H a (ns.map V.int) := by
    cases hk : K.lookup a with
    | none =>
      refine .inl (.inr ⟨{ cls := .type "list", data := .seq its.toArray }, ?_⟩)
      rw [← hH]
      unfold scH
      rw [if_pos ⟨rfl, hk⟩]
    | some o =>
      have e := KX a o hk
      rw [ha] at e
      cases e
      exact .inr ⟨_, its.toArray, _, hk, rfl, rfl, rfl, by rw [List.size_toArray, len]; omega, by simpa using rv⟩
  have mod : Mod K mg (hidT s.heap H) := by
    obtain ⟨mc, q1, q2⟩ := h4
    exact ⟨kin, ns_ h1, ⟨mb, ns_ h2, h3⟩, ⟨mc, ns_ q1, q2⟩⟩
  have e0 : Env0 P w K mg (hidT s.heap H) callerA [] s H :=
    { frames := rfl, mod := mod, bs := fun b o e => of_hidT e, bsz := Nat.le_of_eq (hidT_size _ _), funs := trivial, frf := fun b hb => (nomatch hb), hok := hok, bare := .of_eq h5 }
  refine codeAny_mono (F _ kin (ns_ h1) s H a ns hn e0 sq) fun r s' h => ?_
  match r, h with
  | .error e, h => exact False.elim h
  | .ok .next, h => exact False.elim h
  | .ok .brk, h => exact False.elim h
  | .ok .cont, h => exact False.elim h
  | .ok (.ret u), h =>
    obtain ⟨v, H', os, bare, un, hok', rv', q⟩ := h
    have q' : v = .bl true := q
    subst q'
    obtain rfl : u = Value.bool true := rv'
    refine ⟨rfl, OldK.of_keep fun b o e => ?_, os, bare⟩
    cases hb : H b with
    | none => exact un.keep b o e hb (fun z => by cases z) (fun z => by cases z)
    | some t =>
      rw [← hH] at hb
      obtain ⟨_, _, rfl⟩ := scH_inv hb
      rw [hH] at hb
      obtain ⟨x1, _⟩ := hok b _ hb
      obtain ⟨x2, _⟩ := hok' b _ (un.frzs b _ _ hb)
      rw [e] at x1
      cases x1
      exact x2
/-- a law whose def returns True at every script -/
theorem walk_law {l : PySem.W.OpenLaw} {n : Nat} {q : Program} {loose : List Str} {XP : (Str → Option Value) → Heap → Prop} {YP : World → Heap → Prop} {d : DefRec} (hn : l.most = some n) (hn2 : n ≤ sizeLine) (hdf : d.params.defaults = [])
    (F : ∀ (w : World) (mg : Str → Option Value) (fa : Addr) (h : Heap), YP w h → h.Ns mainGlobals mg → mg d.name = some (.ref fa) →
      ∃ K : PySem.W.Frag, K.In h ∧ ∀ base : Heap, K.In base → base.Ns mainGlobals mg → LawAt l.prog w K mg base fa n) :
    PySem.W.WalkO q loose XP YP l.row.toRowW d [] (fun f vs => PySem.call f vs) := by
  refine Att.attach_call hn hdf fun w _ s1 mg mb fa _ _ _ _ a vs ns G Y _ _ _ hmg hobj hints hlen hg => ?_
  obtain ⟨K, hK, hF⟩ := F w mg fa _ Y G.T.g hmg
  exact law_end hK G.T.g G.T.b G.T.builtins G.T.nolimit hg hobj hints hlen hn2 hF
end
end DL

set_option Elab.async false
set_option linter.all false
set_option maxRecDepth 100000
set_option maxHeartbeats 2000000
namespace ZS
open PySem
open PySem.Sem (wp)
/-- an iterator over a list (true) or a tuple (false) -/
def ItOn : Bool → Heap → Addr → Addr → Nat → Prop
  | true, h, it, l, i => h.IsListIter it l i
  | false, h, it, l, i => h.IsTupleIter it l i
def SqOn : Bool → Heap → Addr → Array Value → Prop
  | true, h, l, xs => h.IsList l xs
  | false, h, l, xs => h.IsTuple l xs
theorem ItOn.stay {b : Bool} {h h' : Heap} {it l : Addr} {i : Nat} (r : ItOn b h it l i) (k : ∀ o, h.get? it = some o → h'.get? it = some o) : ItOn b h' it l i := by
  cases b
  · exact Heap.IsTupleIter.at r k
  · exact Heap.IsListIter.at r k
theorem SqOn.stay {b : Bool} {h h' : Heap} {l : Addr} {xs : Array Value} (r : SqOn b h l xs) (k : ∀ o, h.get? l = some o → h'.get? l = some o) : SqOn b h' l xs := by
  cases b
  · obtain ⟨o, e, c⟩ := r
    exact ⟨o, k o e, c⟩
  · exact Heap.IsList.at r k
theorem ItOn.has {b : Bool} {h : Heap} {it l : Addr} {i : Nat} (r : ItOn b h it l i) : ∃ o, h.get? it = some o := by
  cases b
  · obtain ⟨o, e, _⟩ := r; exact ⟨o, e⟩
  · obtain ⟨o, e, _⟩ := r; exact ⟨o, e⟩
theorem SqOn.has {b : Bool} {h : Heap} {l : Addr} {xs : Array Value} (r : SqOn b h l xs) : ∃ o, h.get? l = some o := by
  cases b
  · obtain ⟨o, e, _⟩ := r; exact ⟨o, e⟩
  · obtain ⟨o, e, _⟩ := r; exact ⟨o, e⟩
section
variable {prog : Program} {w : World} {A : Around} {E : Value → Shared → Prop} {s : Shared}
theorem draw_item {b : Bool} {it l : Addr} {i : Nat} {xs : Array Value} {x : Value} {Q : Value → Shared → Prop} (hi : ItOn b s.heap it l i) (hl : SqOn b s.heap l xs) (hx : xs[i]? = some x)
    (q : ∀ h', ItOn b h' it l (i + 1) → Heap.SameBut it s.heap h' → Q x { s with heap := h' }) : wpAny (model prog w) A (Builtin.SmallTypes.nextOf (.ref it)) Q E s := by
  cases b
  · exact RZ.nextOf_tuple_item hi hl hx q
  · exact wpAny_nextOf_list_item hi hl hx q
theorem draw_end {b : Bool} {it l : Addr} {i : Nat} {xs : Array Value} {Q : Value → Shared → Prop} (hh : A.handled = none) (hi : ItOn b s.heap it l i) (hl : SqOn b s.heap l xs) (hx : xs[i]? = none)
    (q : ∀ h' e, Heap.ExtBut it s.heap h' → (∃ o, h'.get? e = some o ∧ o.cls = .type "StopIteration") → E (.ref e) { s with heap := h' }) : wpAny (model prog w) A (Builtin.SmallTypes.nextOf (.ref it)) Q E s := by
  cases b
  · exact RZ.nextOf_tuple_end hh hi hl hx q
  · exact wpAny_nextOf_list_end hh hi hl hx q
end
/-- a zip object, whatever tuple it has handed out -/
abbrev ZAt (h : Heap) (z TI TO : Addr) (f0 f1 : Value) : Prop := h.get? z = some { cls := .type "zip", data := .fields #[f0, f1, .bool false, .ref TI, .ref TO] }
/-- a zip of two sequences in the midst of its walk -/
structure Mid (b1 b2 : Bool) (z TI TO i1 i2 l1 l2 : Addr) (xs ys : Array Value) (k : Nat) (h : Heap) : Prop where
  zat : ∃ f0 f1, ZAt h z TI TO f0 f1 ∧ (f0 = .none ∨ ∃ a, f0 = rawInt a)
  ti : IsPair h TI (.ref i1) (.ref i2)
  to : ∃ a b, IsPair h TO a b
  it1 : ItOn b1 h i1 l1 k
  it2 : ItOn b2 h i2 l2 k
  sq1 : SqOn b1 h l1 xs
  sq2 : SqOn b2 h l2 ys
section
variable {prog : Program} {w : World} {A : Around} {E : Value → Shared → Prop} {s : Shared} {b1 b2 : Bool} {z TI TO i1 i2 l1 l2 : Addr} {xs ys : Array Value} {k : Nat}
theorem alive {a : Addr} {Q : Option Obj → Shared → Prop} (h : Q (s.heap.get? a) s) : wpAny (model prog w) A (loadIfAlive a) Q E s := fun _ _ _ => h
theorem free_spec {f0 f1 : Value} (hz : ZAt s.heap z TI TO f0 f1) (hf : f0 = .none ∨ ∃ a, f0 = rawInt a) :
    wpAny (model prog w) A (Builtin.SmallTypes.ownedTupleIsFree (.ref z)) (fun _ s' => ∃ h' g1, s' = { s with heap := h' } ∧ ZAt h' z TI TO f0 g1 ∧ Heap.SameBut z s.heap h') E s := by
  unfold Builtin.SmallTypes.ownedTupleIsFree
  have done : ∃ h' g1, s = { s with heap := h' } ∧ ZAt h' z TI TO f0 g1 ∧ Heap.SameBut z s.heap h' := ⟨s.heap, f1, rfl, hz, ⟨rfl, fun _ _ => rfl⟩⟩
  rcases hf with e | ⟨n, e⟩
  · subst e
    exact wpAny_bind (wpAny_field hz rfl (x := .none) rfl (wpAny_pure done))
  · subst e
    refine wpAny_bind (wpAny_field hz rfl (x := rawInt n) rfl ?_)
    show wpAny _ _ (loadIfAlive n.toNat >>= _) _ _ _
    refine wpAny_bind (alive ?_)
    cases s.heap.get? n.toNat with
    | none => exact wpAny_pure done
    | some o =>
      show wpAny _ _ (field (.ref z) 1 >>= _) _ _ _
      refine wpAny_bind (wpAny_field hz rfl (x := f1) rfl ?_)
      cases hc : f1 != Value.bool true with
      | true =>
        rw [if_pos rfl]
        refine wpAny_bind (wpAny_setField_rec hz (by simp) fun h' hz' hs' => wpAny_pure ?_)
        exact ⟨h', .bool true, rfl, hz', hs'⟩
      | false => exact wpAny_pure done
theorem zip_item {x y : Value} {Q : Value → Shared → Prop} (D : ZipApart z TI TO i1 i2 l1 l2) (m : Mid b1 b2 z TI TO i1 i2 l1 l2 xs ys k s.heap) (hx : xs[k]? = some x) (hy : ys[k]? = some y)
    (q : ∀ h', Mid b1 b2 z TI TO i1 i2 l1 l2 xs ys (k + 1) h' → IsPair h' s.heap.objs.size x y → (∀ c o, c ≠ z → c ≠ TO → c ≠ i1 → c ≠ i2 → s.heap.get? c = some o → h'.get? c = some o) → Q (.ref s.heap.objs.size) { s with heap := h' }) :
    wpAny (model prog w) A (Builtin.«zip.__next__» ⟨[.ref z], []⟩) (fun fin s' => ∃ v, fin = .done (.ret v) ∧ Q v s') E s := by
  obtain ⟨⟨f0, f1, hz, hf⟩, hTI, ⟨a, b, hTO⟩, h1, h2, hs1, hs2⟩ := m
  show wpAny _ _ (field (.ref z) 2 >>= _) _ _ _
  refine wpAny_bind (wpAny_field hz rfl (x := .bool false) rfl ?_)
  show wpAny _ _ (field (.ref z) 3 >>= _) _ _ _
  refine wpAny_bind (wpAny_field hz rfl (x := .ref TI) rfl ?_)
  refine wpAny_bind (wpAny_seqItems hTI rfl ?_)
  show wpAny _ _ (Builtin.SmallTypes.ownedTupleIsFree (.ref z) >>= _) _ _ _
  refine wpAny_bind ?_
  refine wpAny_mono (free_spec hz hf) (fun bb s' hs => ?_) fun _ _ e => e
  obtain ⟨h0, g1, rfl, hz0, sb0⟩ := hs
  have hTI0 : IsPair h0 TI (.ref i1) (.ref i2) := sb0.extBut _ _ D.TIz hTI
  have hTO0 : IsPair h0 TO a b := sb0.extBut _ _ D.TOz hTO
  have h10 : ItOn b1 h0 i1 l1 k := h1.stay fun o e => sb0.extBut _ _ D.i1z e
  have h20 : ItOn b2 h0 i2 l2 k := h2.stay fun o e => sb0.extBut _ _ D.i2z e
  have hs10 : SqOn b1 h0 l1 xs := hs1.stay fun o e => sb0.extBut _ _ D.l1z e
  have hs20 : SqOn b2 h0 l2 ys := hs2.stay fun o e => sb0.extBut _ _ D.l2z e
  cases bb with
  | true =>
    simp only [if_true]
    refine wpAny_bind (wpAny_rule ?_)
    refine wpAny_bind (wpAny_field hz0 rfl (x := .ref TO) rfl ?_)
    refine wpAny_bind (wpAny_setField_rec hz0 (by simp) fun p1 hz1 sb1 => ?_)
    replace hz1 : ZAt p1 z TI TO .ellipsis g1 := hz1
    refine wpAny_bind ?_
    simp only [List.zipIdx_cons, List.zipIdx_nil, List.forIn_cons, List.forIn_nil]
    -- the first one
    refine wpAny_bind (wpAny_bind (wpAny_onRaise ?_))
    show wpAny _ _ (Builtin.SmallTypes.nextOf (.ref i1) >>= _) _ _ _
    refine wpAny_bind (draw_item (h10.stay fun o e => sb1.extBut _ _ D.i1z e) (hs10.stay fun o e => sb1.extBut _ _ D.l1z e) hx fun p2 u1 sb2 => wpAny_pure ?_)
    have t2 : IsPair p2 TO a b := sb2.extBut _ _ D.TOi1 (sb1.extBut _ _ D.TOz hTO0)
    refine wpAny_bind (wpAny_seqItems t2 rfl ?_)
    refine wpAny_bind (wpAny_updateSeq_pair t2 fun p3 t3 sb3 => ?_)
    replace t3 : IsPair p3 TO x b := t3
    refine wpAny_bind (wpAny_letGo (wpAny_pure ?_))
    -- the second one
    refine wpAny_bind (wpAny_bind (wpAny_onRaise ?_))
    show wpAny _ _ (Builtin.SmallTypes.nextOf (.ref i2) >>= _) _ _ _
    have up3 : ∀ c o, c ≠ z → c ≠ i1 → c ≠ TO → h0.get? c = some o → p3.get? c = some o := fun c o c1 c2 c3 e => sb3.extBut _ _ c3 (sb2.extBut _ _ c2 (sb1.extBut _ _ c1 e))
    refine wpAny_bind (draw_item (h20.stay fun o e => up3 _ _ D.i2z D.i12.symm D.TOi2.symm e) (hs20.stay fun o e => up3 _ _ D.l2z D.l2i1 D.l2TO e) hy fun p4 u2 sb4 => wpAny_pure ?_)
    have t4 : IsPair p4 TO x b := sb4.extBut _ _ D.TOi2 t3
    refine wpAny_bind (wpAny_seqItems t4 rfl ?_)
    refine wpAny_bind (wpAny_updateSeq_pair t4 fun p5 t5 sb5 => ?_)
    replace t5 : IsPair p5 TO x y := t5
    refine wpAny_bind (wpAny_letGo (wpAny_pure (wpAny_pure ?_)))
    -- the tuple that is handed out
    refine wpAny_bind (wpAny_seqItems t5 rfl ?_)
    refine wpAny_bind (wpAny_newTuple ?_)
    have up5 : ∀ c o, c ≠ z → c ≠ TO → c ≠ i1 → c ≠ i2 → h0.get? c = some o → p5.get? c = some o := fun c o c1 c2 c3 c4 e => sb5.extBut _ _ c2 (sb4.extBut _ _ c4 (up3 c o c1 c3 c2 e))
    have hz5 : ZAt p5 z TI TO .ellipsis g1 := sb5.extBut _ _ D.TOz.symm (sb4.extBut _ _ D.i2z.symm (sb3.extBut _ _ D.TOz.symm (sb2.extBut _ _ D.i1z.symm hz1)))
    have size5 : p5.objs.size = s.heap.objs.size := by rw [sb5.1, sb4.1, sb3.1, sb2.1, sb1.1, sb0.1]
    show wpAny _ _ (Builtin.SmallTypes.ownedTupleHandOut (.ref z) (.ref p5.objs.size) >>= _) _ _ _
    refine wpAny_bind ?_
    unfold Builtin.SmallTypes.ownedTupleHandOut
    have hz6 : ZAt (p5.push { cls := .type "tuple", data := .seq #[x, y] }) z TI TO .ellipsis g1 := Heap.get?_push_of_some _ hz5
    refine wpAny_bind (wpAny_setField_rec hz6 (by simp) fun p7 hz7 sb7 => ?_)
    replace hz7 : ZAt p7 z TI TO (rawInt p5.objs.size) g1 := hz7
    refine wpAny_setField_rec hz7 (by simp) fun p8 hz8 sb8 => ?_
    replace hz8 : ZAt p8 z TI TO (rawInt p5.objs.size) (.bool false) := hz8
    have up8 : ∀ c o, c ≠ z → p5.get? c = some o → p8.get? c = some o := fun c o c1 e => sb8.extBut _ _ c1 (sb7.extBut _ _ c1 (Heap.get?_push_of_some _ e))
    have zl : z < p5.objs.size := Heap.lt_size hz5
    have tt : IsPair p8 p5.objs.size x y := sb8.extBut _ _ (Nat.ne_of_gt zl) (sb7.extBut _ _ (Nat.ne_of_gt zl) (Heap.get?_push_size _ rfl))
    have v1 : ItOn b1 p8 i1 l1 (k + 1) := ((u1.stay fun o e => sb3.extBut _ _ D.TOi1.symm e).stay fun o e => sb5.extBut _ _ D.TOi1.symm (sb4.extBut _ _ D.i12 e)).stay fun o e => up8 _ _ D.i1z e
    have v2 : ItOn b2 p8 i2 l2 (k + 1) := (u2.stay fun o e => sb5.extBut _ _ D.TOi2.symm e).stay fun o e => up8 _ _ D.i2z e
    have kept : ∀ c o, c ≠ z → c ≠ TO → c ≠ i1 → c ≠ i2 → s.heap.get? c = some o → p8.get? c = some o := fun c o c1 c2 c3 c4 e => up8 c o c1 (up5 c o c1 c2 c3 c4 (sb0.extBut _ _ c1 e))
    refine wpAny_pure ⟨_, rfl, ?_⟩
    show Q (.ref p5.objs.size) _
    rw [size5] at tt ⊢
    exact q p8 ⟨⟨_, _, hz8, .inr ⟨_, rfl⟩⟩, kept _ _ D.TIz D.TITO D.TIi1 D.TIi2 hTI, ⟨_, _, up8 _ _ D.TOz t5⟩, v1, v2, hs1.stay fun o e => kept _ _ D.l1z D.l1TO D.l1i1 D.l1i2 e, hs2.stay fun o e => kept _ _ D.l2z D.l2TO D.l2i1 D.l2i2 e⟩ tt kept
  | false =>
    rw [if_neg Bool.false_ne_true]
    refine wpAny_bind ?_
    rw [List.forIn_toArray]
    simp only [List.forIn_cons, List.forIn_nil]
    refine wpAny_bind (wpAny_bind (wpAny_holding ?_))
    show wpAny _ _ (Builtin.SmallTypes.nextOf (.ref i1) >>= _) _ _ _
    refine wpAny_bind (draw_item h10 hs10 hx fun p2 u1 sb2 => wpAny_pure (wpAny_pure ?_))
    refine wpAny_bind (wpAny_bind (wpAny_holding ?_))
    show wpAny _ _ (Builtin.SmallTypes.nextOf (.ref i2) >>= _) _ _ _
    refine wpAny_bind (draw_item (h20.stay fun o e => sb2.extBut _ _ D.i12.symm e) (hs20.stay fun o e => sb2.extBut _ _ D.l2i1 e) hy fun p4 u2 sb4 => wpAny_pure (wpAny_pure (wpAny_pure ?_)))
    refine wpAny_bind (wpAny_newTuple ?_ (by show 2 ≤ sizeLine; decide))
    have size4 : p4.objs.size = s.heap.objs.size := by rw [sb4.1, sb2.1, sb0.1]
    have up : ∀ c o, c ≠ i1 → c ≠ i2 → h0.get? c = some o → (p4.push { cls := .type "tuple", data := .seq #[x, y] }).get? c = some o := fun c o c1 c2 e => Heap.get?_push_of_some _ (sb4.extBut _ _ c2 (sb2.extBut _ _ c1 e))
    have kept : ∀ c o, c ≠ z → c ≠ TO → c ≠ i1 → c ≠ i2 → s.heap.get? c = some o → (p4.push { cls := .type "tuple", data := .seq #[x, y] }).get? c = some o := fun c o c1 c2 c3 c4 e => up c o c3 c4 (sb0.extBut _ _ c1 e)
    have tt : IsPair (p4.push { cls := .type "tuple", data := .seq #[x, y] }) p4.objs.size x y := Heap.get?_push_size _ rfl
    refine wpAny_pure ⟨_, rfl, ?_⟩
    show Q (.ref p4.objs.size) _
    rw [size4] at tt ⊢
    exact q _ ⟨⟨_, _, up _ _ D.i1z.symm D.i2z.symm hz0, hf⟩, kept _ _ D.TIz D.TITO D.TIi1 D.TIi2 hTI, ⟨_, _, up _ _ D.TOi1 D.TOi2 hTO0⟩, (u1.stay fun o e => sb4.extBut _ _ D.i12 e).stay fun o e => Heap.get?_push_of_some _ e, u2.stay fun o e => Heap.get?_push_of_some _ e, hs1.stay fun o e => kept _ _ D.l1z D.l1TO D.l1i1 D.l1i2 e, hs2.stay fun o e => kept _ _ D.l2z D.l2TO D.l2i1 D.l2i2 e⟩ tt kept
theorem zip_end {Q : Fin → Shared → Prop} (hh : A.handled = none) (D : ZipApart z TI TO i1 i2 l1 l2) (m : Mid b1 b2 z TI TO i1 i2 l1 l2 xs ys k s.heap) (he : xs[k]? = none ∨ ys[k]? = none)
    (q : ∀ h' e, (∀ c o, c ≠ z → c ≠ TO → c ≠ i1 → c ≠ i2 → s.heap.get? c = some o → h'.get? c = some o) → (∃ o, h'.get? e = some o ∧ o.cls = .type "StopIteration") → E (.ref e) { s with heap := h' }) :
    wpAny (model prog w) A (Builtin.«zip.__next__» ⟨[.ref z], []⟩) Q E s := by
  obtain ⟨⟨f0, f1, hz, hf⟩, hTI, ⟨a, b, hTO⟩, h1, h2, hs1, hs2⟩ := m
  show wpAny _ _ (field (.ref z) 2 >>= _) _ _ _
  refine wpAny_bind (wpAny_field hz rfl (x := .bool false) rfl ?_)
  show wpAny _ _ (field (.ref z) 3 >>= _) _ _ _
  refine wpAny_bind (wpAny_field hz rfl (x := .ref TI) rfl ?_)
  refine wpAny_bind (wpAny_seqItems hTI rfl ?_)
  show wpAny _ _ (Builtin.SmallTypes.ownedTupleIsFree (.ref z) >>= _) _ _ _
  refine wpAny_bind ?_
  refine wpAny_mono (free_spec hz hf) (fun bb s' hs => ?_) fun _ _ e => e
  obtain ⟨h0, g1, rfl, hz0, sb0⟩ := hs
  have hTO0 : IsPair h0 TO a b := sb0.extBut _ _ D.TOz hTO
  have h10 : ItOn b1 h0 i1 l1 k := h1.stay fun o e => sb0.extBut _ _ D.i1z e
  have h20 : ItOn b2 h0 i2 l2 k := h2.stay fun o e => sb0.extBut _ _ D.i2z e
  have hs10 : SqOn b1 h0 l1 xs := hs1.stay fun o e => sb0.extBut _ _ D.l1z e
  have hs20 : SqOn b2 h0 l2 ys := hs2.stay fun o e => sb0.extBut _ _ D.l2z e
  cases bb with
  | true =>
    simp only [if_true]
    refine wpAny_bind (wpAny_rule ?_)
    refine wpAny_bind (wpAny_field hz0 rfl (x := .ref TO) rfl ?_)
    refine wpAny_bind (wpAny_setField_rec hz0 (by simp) fun p1 hz1 sb1 => ?_)
    replace hz1 : ZAt p1 z TI TO .ellipsis g1 := hz1
    refine wpAny_bind ?_
    simp only [List.zipIdx_cons, List.zipIdx_nil, List.forIn_cons, List.forIn_nil]
    refine wpAny_bind (wpAny_bind (wpAny_onRaise ?_))
    show wpAny _ _ (Builtin.SmallTypes.nextOf (.ref i1) >>= _) _ _ _
    have g10 := h10.stay fun o e => sb1.extBut _ _ D.i1z e
    have gs10 := hs10.stay fun o e => sb1.extBut _ _ D.l1z e
    cases hx : xs[k]? with
    | none =>
      refine wpAny_bind (draw_end hh g10 gs10 hx fun p2 e sb2 hse => ?_)
      obtain ⟨oe, hoe, hce⟩ := hse
      have hz2 : ZAt p2 z TI TO .ellipsis g1 := sb2 _ _ D.i1z.symm hz1
      have hez : e ≠ z := fun y => by subst y; rw [hz2] at hoe; cases hoe; simp at hce
      exact wpAny_setField_rec hz2 (by simp) fun p3 _ sb3 => q p3 e (fun c o c1 _ c3 _ y => sb3.extBut _ _ c1 (sb2 _ _ c3 (sb1.extBut _ _ c1 (sb0.extBut _ _ c1 y)))) ⟨oe, sb3.extBut _ _ hez hoe, hce⟩
    | some x =>
      have hy : ys[k]? = none := by
        rcases he with he | he
        · rw [hx] at he; cases he
        · exact he
      refine wpAny_bind (draw_item g10 gs10 hx fun p2 u1 sb2 => wpAny_pure ?_)
      have t2 : IsPair p2 TO a b := sb2.extBut _ _ D.TOi1 (sb1.extBut _ _ D.TOz hTO0)
      refine wpAny_bind (wpAny_seqItems t2 rfl ?_)
      refine wpAny_bind (wpAny_updateSeq_pair t2 fun p3 t3 sb3 => ?_)
      refine wpAny_bind (wpAny_letGo (wpAny_pure ?_))
      refine wpAny_bind (wpAny_bind (wpAny_onRaise ?_))
      show wpAny _ _ (Builtin.SmallTypes.nextOf (.ref i2) >>= _) _ _ _
      have up3 : ∀ c o, c ≠ z → c ≠ i1 → c ≠ TO → h0.get? c = some o → p3.get? c = some o := fun c o c1 c2 c3 e => sb3.extBut _ _ c3 (sb2.extBut _ _ c2 (sb1.extBut _ _ c1 e))
      refine wpAny_bind (draw_end hh (h20.stay fun o e => up3 _ _ D.i2z D.i12.symm D.TOi2.symm e) (hs20.stay fun o e => up3 _ _ D.l2z D.l2i1 D.l2TO e) hy fun p4 e sb4 hse => ?_)
      obtain ⟨oe, hoe, hce⟩ := hse
      have hz4 : ZAt p4 z TI TO .ellipsis g1 := sb4 _ _ D.i2z.symm (sb3.extBut _ _ D.TOz.symm (sb2.extBut _ _ D.i1z.symm hz1))
      have hez : e ≠ z := fun y => by subst y; rw [hz4] at hoe; cases hoe; simp at hce
      exact wpAny_setField_rec hz4 (by simp) fun p5 _ sb5 => q p5 e (fun c o c1 c2 c3 c4 y => sb5.extBut _ _ c1 (sb4 _ _ c4 (up3 c o c1 c3 c2 (sb0.extBut _ _ c1 y)))) ⟨oe, sb5.extBut _ _ hez hoe, hce⟩
  | false =>
    rw [if_neg Bool.false_ne_true]
    refine wpAny_bind ?_
    rw [List.forIn_toArray]
    simp only [List.forIn_cons, List.forIn_nil]
    refine wpAny_bind (wpAny_bind (wpAny_holding ?_))
    show wpAny _ _ (Builtin.SmallTypes.nextOf (.ref i1) >>= _) _ _ _
    cases hx : xs[k]? with
    | none => exact wpAny_bind (draw_end hh h10 hs10 hx fun p2 e sb2 hse => q p2 e (fun c o c1 _ c3 _ y => sb2 _ _ c3 (sb0.extBut _ _ c1 y)) hse)
    | some x =>
      have hy : ys[k]? = none := by
        rcases he with he | he
        · rw [hx] at he; cases he
        · exact he
      refine wpAny_bind (draw_item h10 hs10 hx fun p2 u1 sb2 => wpAny_pure (wpAny_pure ?_))
      refine wpAny_bind (wpAny_bind (wpAny_holding ?_))
      show wpAny _ _ (Builtin.SmallTypes.nextOf (.ref i2) >>= _) _ _ _
      exact wpAny_bind (draw_end hh (h20.stay fun o e => sb2.extBut _ _ D.i12.symm e) (hs20.stay fun o e => sb2.extBut _ _ D.l2i1 e) hy fun p4 e sb4 hse => q p4 e (fun c o c1 _ c3 c4 y => sb4 _ _ c4 (sb2.extBut _ _ c3 (sb0.extBut _ _ c1 y))) hse)
theorem next_item {x y : Value} {Q : Option Value → Shared → Prop} (D : ZipApart z TI TO i1 i2 l1 l2) (m : Mid b1 b2 z TI TO i1 i2 l1 l2 xs ys k s.heap) (hx : xs[k]? = some x) (hy : ys[k]? = some y)
    (q : ∀ h', Mid b1 b2 z TI TO i1 i2 l1 l2 xs ys (k + 1) h' → IsPair h' s.heap.objs.size x y → (∀ c o, c ≠ z → c ≠ TO → c ≠ i1 → c ≠ i2 → s.heap.get? c = some o → h'.get? c = some o) → Q (some (.ref s.heap.objs.size)) { s with heap := h' }) :
    wpAny (model prog w) A (pyNext (.ref z)) Q E s := by
  obtain ⟨f0, f1, hz, _⟩ := m.zat
  have hT : s.TypeIs (.ref z) "zip" := ⟨_, hz, rfl⟩
  unfold pyNext
  exact wpAny_bind (wpAny_attempt (wpAny_callSpecial?_slot (name := Str.ofString "__next__") hT F.slot_zip_next (wpAny_call_entry F.slot_zip_next hT F.entry_zip_next (zip_item D m hx hy fun h' a1 a2 a3 => wpAny_pure (q h' a1 a2 a3)) (F.args_zip_next_1 _))))
theorem next_end {Q : Option Value → Shared → Prop} (hh : A.handled = none) (D : ZipApart z TI TO i1 i2 l1 l2) (m : Mid b1 b2 z TI TO i1 i2 l1 l2 xs ys k s.heap) (he : xs[k]? = none ∨ ys[k]? = none)
    (q : ∀ h', (∀ c o, c ≠ z → c ≠ TO → c ≠ i1 → c ≠ i2 → s.heap.get? c = some o → h'.get? c = some o) → Q none { s with heap := h' }) : wpAny (model prog w) A (pyNext (.ref z)) Q E s := by
  obtain ⟨f0, f1, hz, _⟩ := m.zat
  have hT : s.TypeIs (.ref z) "zip" := ⟨_, hz, rfl⟩
  unfold pyNext
  refine wpAny_bind (wpAny_attempt (wpAny_callSpecial?_slot (name := Str.ofString "__next__") hT F.slot_zip_next (wpAny_call_entry F.slot_zip_next hT F.entry_zip_next (zip_end hh D m he fun h' e hk hse => ?_) (F.args_zip_next_1 _))))
  obtain ⟨o, ho, hc⟩ := hse
  refine wpAny_bind (wpAny_isInstance (T := "StopIteration") (b := true) ⟨o, ho, hc⟩ isSubtype_stop ?_)
  exact wpAny_pure (q _ hk)
end
end ZS

set_option Elab.async false
set_option linter.all false
set_option maxRecDepth 100000
set_option maxHeartbeats 2000000
namespace ZS
open PySem
open PySem.Sem (wp)
theorem nolen_zip : typeLookup (.type "zip") "__len__" = pure none := by rw [typeLookup_type, builtinLookup_eq_fast]; kernel_rfl
theorem nohint_zip : typeLookup (.type "zip") "__length_hint__" = pure none := by rw [typeLookup_type, builtinLookup_eq_fast]; kernel_rfl
theorem Mid.stay {b1 b2 : Bool} {z TI TO i1 i2 l1 l2 : Addr} {xs ys : Array Value} {k : Nat} {h h' : Heap} (m : Mid b1 b2 z TI TO i1 i2 l1 l2 xs ys k h) (e : ∀ c ∈ [z, TI, TO, i1, i2, l1, l2], ∀ o, h.get? c = some o → h'.get? c = some o) : Mid b1 b2 z TI TO i1 i2 l1 l2 xs ys k h' := by
  obtain ⟨⟨f0, f1, hz, hf⟩, hTI, ⟨a, b, hTO⟩, h1, h2, hs1, hs2⟩ := m
  exact ⟨⟨f0, f1, e z (by simp) _ hz, hf⟩, e TI (by simp) _ hTI, ⟨a, b, e TO (by simp) _ hTO⟩, h1.stay fun o q => e i1 (by simp) o q, h2.stay fun o q => e i2 (by simp) o q, hs1.stay fun o q => e l1 (by simp) o q, hs2.stay fun o q => e l2 (by simp) o q⟩
/-- the pairs made so far -/
def Got (n0 : Nat) (z TO i1 i2 S : Addr) (xs ys : Array Value) (h : Heap) (as : List Addr) : Prop := as.Nodup ∧ ∀ (j : Nat) (T : Addr), as[j]? = some T → n0 ≤ T ∧ ∃ (x y : Value), xs[j]? = some x ∧ ys[j]? = some y ∧ IsPair h T x y ∧ T ≠ z ∧ T ≠ TO ∧ T ≠ i1 ∧ T ≠ i2 ∧ T ≠ S
theorem Got.stay {n0 : Nat} {z TO i1 i2 S : Addr} {xs ys : Array Value} {h h' : Heap} {as : List Addr} (g : Got n0 z TO i1 i2 S xs ys h as) (k : ∀ c o, c ≠ S → c ≠ z → c ≠ TO → c ≠ i1 → c ≠ i2 → h.get? c = some o → h'.get? c = some o) : Got n0 z TO i1 i2 S xs ys h' as :=
  ⟨g.1, fun j T e => by
    obtain ⟨e0, x, y, e2, e3, e4, n1, n2, n3, n4, n5⟩ := g.2 j T e
    exact ⟨e0, x, y, e2, e3, k T _ n5 n1 n2 n3 n4 e4, n1, n2, n3, n4, n5⟩⟩
section
variable {prog : Program} {w : World} {A : Around} {b1 b2 : Bool} {z TI TO i1 i2 l1 l2 : Addr} {xs ys : Array Value}
theorem loop_zip {n0 : Nat} {R : Result → Shared → Prop} (hh : A.handled = none) (D : ZipApart z TI TO i1 i2 l1 l2) (hn : min xs.size ys.size ≤ sizeLine) (S : Addr) (hS : S ∉ [z, TI, TO, i1, i2, l1, l2]) (res : Value) :
    ∀ (r k : Nat) (s : Shared) (as : List Addr) (c : Nat), min xs.size ys.size - k = r → k ≤ min xs.size ys.size → n0 ≤ s.heap.objs.size → Mid b1 b2 z TI TO i1 i2 l1 l2 xs ys k s.heap → s.heap.get? S = some { cls := .type "list", data := .seq (as.map Value.ref).toArray c } → as.length = k → Got n0 z TO i1 i2 S xs ys s.heap as →
    (∀ h' as' c', (∀ c o, c ≠ S → c ≠ z → c ≠ TO → c ≠ i1 → c ≠ i2 → s.heap.get? c = some o → h'.get? c = some o) → h'.get? S = some { cls := .type "list", data := .seq (as'.map Value.ref).toArray c' } → as'.length = min xs.size ys.size → Got n0 z TO i1 i2 S xs ys h' as' → R (.ok (.ret res)) { s with heap := h' }) →
    codeAny (model prog w) A (.builtin "list.extend.loop" ⟨[.ref S, .ref z, res], []⟩) R s := by
  simp only [List.mem_cons, List.not_mem_nil, or_false, not_or] at hS
  obtain ⟨Sz, STI, STO, Si1, Si2, Sl1, Sl2⟩ := hS
  have hh1 : A.in1.handled = none := hh
  intro r
  induction r with
  | zero =>
    intro k s as c hk hle hn0 m hacc hlen got hR
    have hend : xs[k]? = none ∨ ys[k]? = none := by
      have : xs.size ≤ k ∨ ys.size ≤ k := by omega
      rcases this with h | h
      · exact .inl (Array.getElem?_eq_none h)
      · exact .inr (Array.getElem?_eq_none h)
    refine codeAny_builtin F.entry_extend_loop ?_
    rw [Around.under_plainId F.plain_extend_loop _]
    show wpAny _ A.in1 (pyNext (.ref z) >>= _) _ _ s
    refine wpAny_bind (next_end hh1 D m hend fun h' hk' => wpAny_pure ?_)
    exact hR h' as c (fun c o _ c1 c2 c3 c4 e => hk' c o c1 c2 c3 c4 e) (hk' S _ Sz STO Si1 Si2 hacc) (by omega) (got.stay fun c o _ c1 c2 c3 c4 e => hk' c o c1 c2 c3 c4 e)
  | succ r ih =>
    intro k s as c hk hle hn0 m hacc hlen got hR
    have h1 : k < xs.size := by omega
    have h2 : k < ys.size := by omega
    refine codeAny_builtin F.entry_extend_loop ?_
    rw [Around.under_plainId F.plain_extend_loop _]
    show wpAny _ A.in1 (pyNext (.ref z) >>= _) _ _ s
    refine wpAny_bind (next_item D m (Array.getElem?_eq_getElem h1) (Array.getElem?_eq_getElem h2) fun h' m' tt hk' => ?_)
    have hS' : h'.get? S = some { cls := .type "list", data := .seq (as.map Value.ref).toArray c } := hk' S _ Sz STO Si1 Si2 hacc
    show wpAny _ A.in1 (updateSeq S (·.push _) >>= _) _ _ _
    refine wpAny_bind ?_
    have szS : S < s.heap.objs.size := Heap.lt_size hacc
    obtain ⟨f0, f1, hz0, _⟩ := m.zat
    obtain ⟨a0, b0, hto⟩ := m.to
    obtain ⟨o1, ho1⟩ := m.it1.has
    obtain ⟨o2, ho2⟩ := m.it2.has
    have szT : s.heap.objs.size < h'.objs.size := Heap.lt_size tt
    refine wpAny_updateSeq hS' rfl (wpAny_pure ⟨plainId_quiet F.plain_extend_loop _, ih (k + 1) _ (as ++ [s.heap.objs.size]) _ (by omega) (by omega) ?_ (m'.stay fun c hc o e => ?_) ((Heap.get?_update_self _ hS' rfl).trans (by simp [Obj.mapSeq]; rfl)) (by rw [List.length_append]; simp; omega) ⟨?_, fun j T hv => ?_⟩ fun h'' as' c' kept hS'' hlen' got' => ?_⟩) (by rw [List.size_toArray, List.length_map]; omega) (by show ((as.map Value.ref).toArray.push _).size ≤ sizeLine + 1; rw [Array.size_push, List.size_toArray, List.length_map]; omega)
    · have : (h'.update S (Obj.mapSeq (·.push (Value.ref s.heap.objs.size)))).objs.size = h'.objs.size := by simp [Heap.update]
      show n0 ≤ (h'.update S (Obj.mapSeq (·.push (Value.ref s.heap.objs.size)))).objs.size
      omega
    · refine (Heap.get?_update_other _ _ ?_).trans e
      intro hq
      subst hq
      simp only [List.mem_cons, List.not_mem_nil, or_false] at hc
      rcases hc with q | q | q | q | q | q | q
      · exact Sz q
      · exact STI q
      · exact STO q
      · exact Si1 q
      · exact Si2 q
      · exact Sl1 q
      · exact Sl2 q
    · refine List.nodup_append.mpr ⟨got.1, by simp, fun a ha b hb => ?_⟩
      obtain ⟨j, hj⟩ := List.getElem?_of_mem ha
      obtain ⟨_, x, y, _, _, e4, _⟩ := got.2 j a hj
      rw [List.mem_singleton.mp hb]
      exact Nat.ne_of_lt (Heap.lt_size e4)
    · by_cases hj : j < as.length
      · rw [List.getElem?_append_left hj] at hv
        obtain ⟨e0, x, y, e2, e3, e4, n1, n2, n3, n4, n5⟩ := got.2 j T hv
        exact ⟨e0, x, y, e2, e3, (Heap.get?_update_other _ _ (Ne.symm n5)).trans (hk' T _ n1 n2 n3 n4 e4), n1, n2, n3, n4, n5⟩
      · rw [List.getElem?_append_right (by omega)] at hv
        have : j = as.length := by
          have := (List.getElem?_eq_some_iff.mp hv).1
          simp at this
          omega
        subst this
        simp at hv
        subst hv
        rw [hlen]
        exact ⟨hn0, _, _, Array.getElem?_eq_getElem h1, Array.getElem?_eq_getElem h2, (Heap.get?_update_other _ _ (Nat.ne_of_lt szS)).trans tt, Nat.ne_of_gt (Heap.lt_size hz0), Nat.ne_of_gt (Heap.lt_size hto), Nat.ne_of_gt (Heap.lt_size ho1), Nat.ne_of_gt (Heap.lt_size ho2), Nat.ne_of_gt szS⟩
    · exact hR h'' as' c' (fun c o c0 c1 c2 c3 c4 e => kept c o c0 c1 c2 c3 c4 ((Heap.get?_update_other _ _ (Ne.symm c0)).trans (hk' c o c1 c2 c3 c4 e))) hS'' hlen' got'
end
end ZS

set_option Elab.async false
set_option linter.all false
set_option maxRecDepth 100000
set_option maxHeartbeats 2000000
namespace ZS
open PySem
open PySem.Sem (wp)
section
variable {prog : Program} {w : World} {A : Around} {E : Value → Shared → Prop} {s : Shared} {b1 b2 : Bool} {z TI TO i1 i2 l1 l2 : Addr} {xs ys : Array Value}
theorem collect_zip {n0 : Nat} {Q : List Value → Shared → Prop} (hh : A.handled = none) (D : ZipApart z TI TO i1 i2 l1 l2) (hn : min xs.size ys.size ≤ sizeLine) (hz : IsZip s.heap z TI TO .none) (m : Mid b1 b2 z TI TO i1 i2 l1 l2 xs ys 0 s.heap) (hn0 : n0 ≤ s.heap.objs.size)
    (hQ : ∀ h' as, (∀ c o, c ≠ z → c ≠ TO → c ≠ i1 → c ≠ i2 → s.heap.get? c = some o → h'.get? c = some o) → as.length = min xs.size ys.size → Got n0 z TO i1 i2 s.heap.objs.size xs ys h' as → Q (as.map Value.ref) { s with heap := h' }) :
    wpAny (model prog w) A (collect (.ref z)) Q E s := by
  have hh1 : A.in1.handled = none := hh
  have hT : s.TypeIs (.ref z) "zip" := ⟨_, hz, rfl⟩
  have lt : ∀ c ∈ [z, TI, TO, i1, i2, l1, l2], c < s.heap.objs.size := by
    intro c hc
    obtain ⟨⟨f0, f1, hz, _⟩, hTI, ⟨a, b, hTO⟩, h1, h2, hs1, hs2⟩ := m
    obtain ⟨o1, q1⟩ := h1.has
    obtain ⟨o2, q2⟩ := h2.has
    obtain ⟨o3, q3⟩ := hs1.has
    obtain ⟨o4, q4⟩ := hs2.has
    simp only [List.mem_cons, List.not_mem_nil, or_false] at hc
    rcases hc with q | q | q | q | q | q | q <;> subst q
    · exact Heap.lt_size hz
    · exact Heap.lt_size hTI
    · exact Heap.lt_size hTO
    · exact Heap.lt_size q1
    · exact Heap.lt_size q2
    · exact Heap.lt_size q3
    · exact Heap.lt_size q4
  have hSf : s.heap.objs.size ∉ [z, TI, TO, i1, i2, l1, l2] := fun q => Nat.lt_irrefl _ (lt _ q)
  have hSz : s.heap.objs.size ≠ z := fun e => hSf (by rw [e]; simp)
  unfold collect
  refine wpAny_bind (wpAny_runValue (codeAny_builtin F.entry_proto_collect ?_))
  rw [Around.under_plainId F.plain_proto_collect _]
  show wpAny _ A.in1 (newList [] >>= fun l => again (.builtin "list.__iadd__" ⟨[l, .ref z], []⟩)) _ _ s
  refine wpAny_bind (wpAny_newObj_type ?_)
  refine wpAny_pure ⟨plainId_quiet F.plain_list_iadd _, codeAny_builtin F.entry_list_iadd ?_⟩
  rw [Around.under_plainId F.plain_list_iadd _]
  generalize hp : s.heap.push { cls := .type "list", data := .seq ([] : List Value).toArray } = h1
  have k1 : ∀ c o, s.heap.get? c = some o → h1.get? c = some o := fun c o e => by rw [← hp]; exact Heap.get?_push_of_some _ e
  have hS1 : h1.get? s.heap.objs.size = some { cls := .type "list", data := .seq ([] : List Value).toArray } := by rw [← hp]; exact Heap.get?_push_size _ rfl
  have sz1 : h1.objs.size = s.heap.objs.size + 1 := by rw [← hp]; exact Heap.size_push ..
  have hz1 : IsZip h1 z TI TO .none := k1 _ _ hz
  have hT1 : ({ s with heap := h1 } : Shared).TypeIs (.ref z) "zip" := ⟨_, hz1, rfl⟩
  show wpAny _ A.in1 (Builtin.List.listExtendWith (.ref s.heap.objs.size) (.ref z) (.ref s.heap.objs.size)) _ _ _
  unfold Builtin.List.listExtendWith
  refine wpAny_bind (wpAny_typeOf hT1 ?_)
  have h1' : Builtin.List.listSameRef (.ref s.heap.objs.size) (.ref z) = false := by simp [Builtin.List.listSameRef, hSz]
  have h2 : (Value.type "zip" == Value.type "list") = false := by decide
  have h3 : (Value.type "zip" == Value.type "tuple") = false := by decide
  simp only [h1', h2, h3, Bool.or_false, Bool.false_eq_true, if_false]
  refine wpAny_bind (wpAny_pyIter_zip hz1 ?_)
  refine wpAny_bind (wpAny_holding ?_)
  unfold Builtin.List.listLengthHint
  refine wpAny_bind (wpAny_specialOf hT1 nolen_zip ?_)
  show wpAny _ A.in1 (specialOf (Value.ref z) (Str.ofString "__length_hint__") >>= _) _ _ _
  refine wpAny_bind (wpAny_specialOf hT1 nohint_zip ?_)
  refine wpAny_pure ?_
  show wpAny _ A.in1 (rule "list.extend.makes-room" >>= fun _ => Builtin.List.listTouch (.ref s.heap.objs.size) >>= fun _ =>
    again (.builtin "list.extend.loop" ⟨[.ref s.heap.objs.size, .ref z, .ref s.heap.objs.size], []⟩)) _ _ _
  refine wpAny_bind (wpAny_rule ?_)
  refine wpAny_bind ?_
  show wpAny _ A.in1 (updateSeq s.heap.objs.size (·.push .none) >>= fun _ => updateSeq s.heap.objs.size (·.pop)) _ _ _
  refine wpAny_bind (wpAny_updateSeq hS1 rfl ?_)
  have hS2 := Heap.get?_update_self (Obj.mapSeq (·.push Value.none)) hS1 rfl
  refine wpAny_updateSeq hS2 rfl ?_
  have hS3 := Heap.get?_update_self (Obj.mapSeq (·.pop)) hS2 rfl
  have oth : ∀ b o, b ≠ s.heap.objs.size → h1.get? b = some o →
      ((h1.update s.heap.objs.size (Obj.mapSeq (·.push Value.none))).update s.heap.objs.size (Obj.mapSeq (·.pop))).get? b = some o :=
    fun b o hb e => (Heap.get?_update_other _ _ (Ne.symm hb)).trans ((Heap.get?_update_other _ _ (Ne.symm hb)).trans e)
  have szo : ((h1.update s.heap.objs.size (Obj.mapSeq (·.push Value.none))).update s.heap.objs.size (Obj.mapSeq (·.pop))).objs.size = h1.objs.size := by simp [Heap.update]
  generalize ((h1.update s.heap.objs.size (Obj.mapSeq (·.push Value.none))).update s.heap.objs.size (Obj.mapSeq (·.pop))) = h4 at hS3 oth szo ⊢
  refine wpAny_pure ⟨plainId_quiet F.plain_extend_loop _, loop_zip (n0 := n0) hh D hn _ hSf _ _ 0 _ [] _ rfl (Nat.zero_le _) ?_ (m.stay fun c hc o e => oth c o (Nat.ne_of_lt (lt c hc)) (k1 c o e)) hS3 rfl ⟨List.nodup_nil, fun j T e => by cases e⟩ fun h' as' c' kept hS' hlen got => ?_⟩
  · show n0 ≤ h4.objs.size
    omega
  show wpAny _ A (load s.heap.objs.size >>= _) _ _ _
  refine wpAny_bind (wpAny_load hS' ?_)
  refine wpAny_pure ?_
  exact hQ h' as' (fun c o c1 c2 c3 c4 e => kept c o (Nat.ne_of_lt (Heap.lt_size e)) c1 c2 c3 c4 (oth c o (Nat.ne_of_lt (Heap.lt_size e)) (k1 c o e))) hlen got
end
/-- the iterator over a list (true) or a tuple (false) -/
abbrev itO (b : Bool) (l : Addr) : Obj := { cls := .type (if b then "list_iterator" else "tuple_iterator"), data := .fields #[.ref l, .int 0 0] }
section
variable {prog : Program} {w : World} {A : Around} {E : Value → Shared → Prop} {s : Shared}
theorem pyIter_sq {b : Bool} {l : Addr} {xs : Array Value} {Q : Value → Shared → Prop} (h : SqOn b s.heap l xs) (hQ : Q (.ref s.heap.objs.size) { s with heap := s.heap.push (itO b l) }) : wpAny (model prog w) A (pyIter (.ref l)) Q E s := by
  cases b
  · exact wpAny_pyIter_tuple h hQ
  · exact wpAny_pyIter_list h hQ
theorem itO_on {b : Bool} {h : Heap} {it l : Addr} (e : h.get? it = some (itO b l)) : ItOn b h it l 0 := by
  cases b
  · exact ⟨_, e, rfl, rfl⟩
  · exact ⟨_, e, rfl, rfl⟩
end
abbrev zH1 (b1 : Bool) (h : Heap) (l1 : Addr) : Heap := h.push (itO b1 l1)
abbrev zH2 (b1 b2 : Bool) (h : Heap) (l1 l2 : Addr) : Heap := (zH1 b1 h l1).push (itO b2 l2)
abbrev zH3 (b1 b2 : Bool) (h : Heap) (l1 l2 : Addr) : Heap := (zH2 b1 b2 h l1 l2).push { cls := .type "tuple", data := .seq #[.ref h.objs.size, .ref (zH1 b1 h l1).objs.size] }
abbrev zH4 (b1 b2 : Bool) (h : Heap) (l1 l2 : Addr) : Heap := (zH3 b1 b2 h l1 l2).push { cls := .type "tuple", data := .seq #[.none, .none] }
abbrev zH5 (b1 b2 : Bool) (h : Heap) (l1 l2 : Addr) : Heap := (zH4 b1 b2 h l1 l2).push { cls := .type "zip", data := .fields #[.none, .bool false, .bool false, .ref (zH2 b1 b2 h l1 l2).objs.size, .ref (zH3 b1 b2 h l1 l2).objs.size] }
theorem meets_new (b1 b2 : Bool) (l1 l2 : Addr) (xs ys : Array Value) :
    Meets (Builtin.«zip.__new__» ⟨[.type "zip", .ref l1, .ref l2], []⟩) (fun _ R s => SqOn b1 s.heap l1 xs ∧ SqOn b2 s.heap l2 ys ∧
      R (.ok (.ret (.ref (zH4 b1 b2 s.heap l1 l2).objs.size))) { s with heap := zH5 b1 b2 s.heap l1 l2 }) :=
  .of_wp fun prog w A R s h => by
    obtain ⟨hp, g, d, tk, os⟩ := s
    obtain ⟨q1, q2, h⟩ := h
    have hsub := sub_zip
    have Q1 : SqOn b1 (Shared.heap ⟨hp, g, d, tk, os⟩) l1 xs := q1
    have Q2 : SqOn b2 (Shared.heap ⟨hp.push (itO b1 l1), g, d, tk, os⟩) l2 ys := SqOn.stay q2 fun o e => Heap.get?_push_of_some _ e
    wp_walk using pyIter_sq Q1, pyIter_sq Q2
    exact ⟨_, rfl, h⟩
section
variable {prog : Program} {w : World} {A : Around} {E : Value → Shared → Prop} {s : Shared} {b1 b2 : Bool} {l1 l2 : Addr} {xs ys : Array Value}
theorem call_zip {Q : Value → Shared → Prop} (q1 : SqOn b1 s.heap l1 xs) (q2 : SqOn b2 s.heap l2 ys)
    (h : ∀ h', IsZip h' (s.heap.objs.size + 4) (s.heap.objs.size + 2) (s.heap.objs.size + 3) .none → Mid b1 b2 (s.heap.objs.size + 4) (s.heap.objs.size + 2) (s.heap.objs.size + 3) s.heap.objs.size (s.heap.objs.size + 1) l1 l2 xs ys 0 h' → h'.objs.size = s.heap.objs.size + 5 →
      (∀ c o, s.heap.get? c = some o → h'.get? c = some o) → Q (.ref (s.heap.objs.size + 4)) { s with heap := h' }) :
    wpAny (model prog w) A (call (.type "zip") [.ref l1, .ref l2]) Q E s := by
  refine callType_new F.called_zip (by decide) (F.typeCall_zip_2 _ _) (F.newCall_zip_2 _ _) (fun obj => F.args_object_init_3 obj _ _) F.entry_zip_new
    (meets_new b1 b2 l1 l2 xs ys) ⟨q1, q2, ?_⟩
  have z1 : (zH1 b1 s.heap l1).objs.size = s.heap.objs.size + 1 := Heap.size_push ..
  have z2 : (zH2 b1 b2 s.heap l1 l2).objs.size = s.heap.objs.size + 2 := by rw [Heap.size_push, z1]
  have z3 : (zH3 b1 b2 s.heap l1 l2).objs.size = s.heap.objs.size + 3 := by rw [Heap.size_push, z2]
  have z4 : (zH4 b1 b2 s.heap l1 l2).objs.size = s.heap.objs.size + 4 := by rw [Heap.size_push, z3]
  have z5 : (zH5 b1 b2 s.heap l1 l2).objs.size = s.heap.objs.size + 5 := by rw [Heap.size_push, z4]
  have g5 : (zH5 b1 b2 s.heap l1 l2).get? (zH4 b1 b2 s.heap l1 l2).objs.size = some _ := Heap.get?_push_size _ rfl
  have g4 : (zH5 b1 b2 s.heap l1 l2).get? (zH3 b1 b2 s.heap l1 l2).objs.size = some _ := Heap.get?_push_of_some _ (Heap.get?_push_size _ rfl)
  have g3 : (zH5 b1 b2 s.heap l1 l2).get? (zH2 b1 b2 s.heap l1 l2).objs.size = some _ := Heap.get?_push_of_some _ (Heap.get?_push_of_some _ (Heap.get?_push_size _ rfl))
  have g2 : (zH5 b1 b2 s.heap l1 l2).get? (zH1 b1 s.heap l1).objs.size = some _ := Heap.get?_push_of_some _ (Heap.get?_push_of_some _ (Heap.get?_push_of_some _ (Heap.get?_push_size _ rfl)))
  have g1 : (zH5 b1 b2 s.heap l1 l2).get? s.heap.objs.size = some _ := Heap.get?_push_of_some _ (Heap.get?_push_of_some _ (Heap.get?_push_of_some _ (Heap.get?_push_of_some _ (Heap.get?_push_size _ rfl))))
  have up : ∀ c o, s.heap.get? c = some o → (zH5 b1 b2 s.heap l1 l2).get? c = some o := fun c o x =>
    Heap.get?_push_of_some _ (Heap.get?_push_of_some _ (Heap.get?_push_of_some _ (Heap.get?_push_of_some _ (Heap.get?_push_of_some _ x))))
  show _ ∧ _
  rw [z2, z3, z4] at g5
  rw [z1, z2] at g3
  rw [z3] at g4
  rw [z1] at g2
  rw [z4]
  exact ⟨⟨_, g5, rfl⟩, h _ g5 ⟨⟨_, _, g5, .inl rfl⟩, g3, ⟨_, _, g4⟩, itO_on g1, itO_on g2, q1.stay fun o e => up _ _ e, q2.stay fun o e => up _ _ e⟩ z5 up⟩
end
end ZS

set_option Elab.async false
set_option linter.all false
set_option maxRecDepth 100000
set_option maxHeartbeats 2000000
namespace DL
open PySem PySem.Spec PyProof.Rows L2
/-- pairs tracked at their addresses -/
def putP : Hp → List Addr → List V → List V → Hp
  | H, a :: as, x :: xs, y :: ys => putP (upd H a (.tup [x, y])) as xs ys
  | H, _, _, _ => H
theorem putP_off {b : Addr} : ∀ (as : List Addr) (xs ys : List V) (H : Hp), b ∉ as → putP H as xs ys b = H b
  | [], _, _, _, _ => rfl
  | _ :: _, [], _, _, _ => rfl
  | _ :: _, _ :: _, [], _, _ => rfl
  | a :: as, x :: xs, y :: ys, H, h => by
    show putP (upd H a (.tup [x, y])) as xs ys b = H b
    rw [putP_off as xs ys _ (fun z => h (List.mem_cons_of_mem _ z)), upd_ne (fun z => h (by rw [z]; exact List.mem_cons_self))]
theorem putP_at {b : Addr} : ∀ (as : List Addr) (xs ys : List V) (H : Hp), as.Nodup → as.length = min xs.length ys.length → b ∈ as → ∃ (j : Nat) (x y : V), as[j]? = some b ∧ xs[j]? = some x ∧ ys[j]? = some y ∧ putP H as xs ys b = some (.tup [x, y])
  | [], _, _, _, _, _, h => by cases h
  | _ :: _, [], _, _, _, e, _ => by simp at e
  | _ :: _, _ :: _, [], _, _, e, _ => by simp at e
  | a :: as, x :: xs, y :: ys, H, hn, e, h => by
    have hn' := List.nodup_cons.mp hn
    by_cases q : b = a
    · subst q
      refine ⟨0, x, y, rfl, rfl, rfl, ?_⟩
      show putP (upd H b (.tup [x, y])) as xs ys b = _
      rw [putP_off as xs ys _ hn'.1, upd_same]
    · have hm : b ∈ as := (List.mem_cons.mp h).resolve_left q
      obtain ⟨j, u, v, e1, e2, e3, e4⟩ := putP_at as xs ys (upd H a (.tup [x, y])) hn'.2 (by simp only [List.length_cons] at e; omega) hm
      exact ⟨j + 1, u, v, by simpa using e1, by simpa using e2, by simpa using e3, e4⟩
theorem frz_pairs : ∀ (as : List Addr) (xs ys : List V) (ds es : List D) (F H : Hp), Le F H → as.Nodup → (∀ t ∈ as, H t = none) → RpAll F xs ds → RpAll F ys es → as.length = min xs.length ys.length →
    ∃ F', Gr F H F' (putP H as xs ys) ∧ RpAll F' (as.map V.ref) (zipD ds es)
  | [], xs, ys, ds, es, F, H, l, _, _, r1, r2, e => by
    have h0 : (zipD ds es).length = 0 := by rw [zipD_len, ← r1.length, ← r2.length]; simpa using e.symm
    rw [List.length_eq_zero_iff.mp h0]
    exact ⟨F, Gr.refl l, .nil⟩
  | _ :: _, [], _, _, _, _, _, _, _, _, _, _, e => by simp at e
  | _ :: _, _ :: _, [], _, _, _, _, _, _, _, _, _, e => by simp at e
  | a :: as, x :: xs, y :: ys, ds, es, F, H, l, hn, hf, r1, r2, e => by
    have hn' := List.nodup_cons.mp hn
    cases r1 with
    | cons p1 r1 =>
      cases r2 with
      | cons p2 r2 =>
        obtain ⟨F1, g1, q1⟩ := frz_pair l (hf a (by simp)) p1 p2
        obtain ⟨F2, g2, q2⟩ := frz_pairs as xs ys _ _ F1 (upd H a (.tup [x, y])) g1.s hn'.2 (fun t ht => by
          rw [upd_ne (fun z => hn'.1 (by rw [← z]; exact ht))]
          exact hf t (by simp [ht])) (r1.mono g1.f) (r2.mono g1.f) (by simp only [List.length_cons] at e; omega)
        exact ⟨F2, g1.trans g2, .cons (q1.mono g2.f) q2⟩
section
variable {X : Cx} {pins : List (Addr × Obj)} {σ : L2.St} {H : Hp} {s : Shared}
theorem lay_pairs {h' : Heap} {as : List Addr} {xs ys : List V} {us ws : List Value} (I : Inv X pins σ H s) (r1 : Vals xs us) (r2 : Vals ys ws) (nd : as.Nodup) (hl : as.length = min xs.length ys.length)
    (hk : ∀ b o, s.heap.get? b = some o → h'.get? b = some o) (hn : ∀ t ∈ as, s.heap.objs.size ≤ t)
    (hat : ∀ (j : Nat) (T : Addr), as[j]? = some T → ∃ u w, us[j]? = some u ∧ ws[j]? = some w ∧ IsPair h' T u w) :
    Inv X pins σ (putP H as xs ys) { s with heap := h' } := by
  have new : ∀ t ∈ as, H t = none := fun t ht => I.hok.fresh (hn t ht)
  have kp : ∀ b u, H b = some u → putP H as xs ys b = some u := fun b u e => by
    rw [putP_off as xs ys H (fun z => by rw [new b z] at e; cases e)]
    exact e
  have low : ∀ b o, s.heap.get? b = some o → b ∉ as := fun b o e z => absurd (Heap.lt_size e) (Nat.not_lt.mpr (hn b z))
  refine I.un (t' := s.toks) ⟨fun b o q _ _ _ => hk b o q, fun b o q _ _ _ => ⟨o.slots, hk b o q⟩, fun b o q n _ => ?_, fun b o q _ => ⟨o, hk b o q⟩, fun b xs q => kp b _ q, fun b o u q => kp b _ q, fun b ps q => ⟨#[], by rw [kp b _ q]; simp⟩⟩ (fun b u q => ?_)
  · rw [putP_off as xs ys H (low b o q)]
    exact n
  · by_cases hb : b ∈ as
    · obtain ⟨j, x, y, e1, e2, e3, e4⟩ := putP_at as xs ys H nd hl hb
      rw [e4] at q
      cases q
      obtain ⟨u, w, f1, f2, f3⟩ := hat j b e1
      obtain ⟨u', g1, g2⟩ := LiI.paired_get r1 e2
      obtain ⟨w', g3, g4⟩ := LiI.paired_get r2 e3
      rw [f1] at g1
      rw [f2] at g3
      cases g1
      cases g3
      exact ⟨by show 2 ≤ sizeLine; decide, [u, w], .cons g2 (.cons g4 .nil), ⟨_, f3, rfl, _, rfl⟩⟩
    · rw [putP_off as xs ys H hb] at q
      exact (I.hok b u q).stay (fun d v _ y => hk d v y) (fun d y => kp d _ y) fun d xs y => kp d _ y
theorem sq_get {a : Addr} {vs : List V} (I : Inv X pins σ H s) (h : SqL X.K H a vs ∨ SqT X.K H a vs) : ∃ b its, Vals vs its ∧ ZS.SqOn b s.heap a its.toArray ∧ vs.length ≤ sizeLine := by
  rcases h with h | h
  · obtain ⟨its, r, p, z⟩ := I.list h
    exact ⟨true, its, r, p.isList, z⟩
  · obtain ⟨its, r, p, z⟩ := I.tuple h
    exact ⟨false, its, r, p, z⟩
end
section
variable {X : Cx} {e e1 e2 : Expr} {es : List Expr} {p pos p2 : Pos} {f g fs : Rho → Option (List D)}
@[simp] def kZip2 (f g : Rho → Option (List D)) (ρ : Rho) : Option (List D) := (f ρ).bind fun xs => (g ρ).bind fun ys => some (zipD xs ys)
theorem DA.starZip (hg : Gl X "zip") (hm : X.mg "zip" = none) (h1 : DQ X e1 f) (h2 : DQ X e2 g) (t : DA X es fs) (hc : X.calm = true := by rfl)
    (hs : starEach (.Starred (.Call (.Name "zip" p) [e1, e2] [] pos) p2 :: es) X.env = (true, eval (.Call (.Name "zip" p) [e1, e2] [] pos) X.env) :: starEach es X.env := by rfl)
    (hs1 : starEach [e1, e2] X.env = (false, eval e1 X.env) :: starEach [e2] X.env := by rfl) (hs2 : starEach [e2] X.env = (false, eval e2 X.env) :: starEach [] X.env := by rfl) (hpl : (backTo pos (starEach [e2] X.env)).any (·.1) = false := by rfl) :
    DA X (.Starred (.Call (.Name "zip" p) [e1, e2] [] pos) p2 :: es) (kStar (kZip2 f g) fs) := by
  refine ⟨fun pos' pins s σ H Q I ⟨F, ρ, r, E, ef, q⟩ => ?_⟩
  obtain ⟨zs, ez, ef⟩ := bind_some ef
  obtain ⟨rs, er, ef⟩ := bind_some ef
  cases ef
  obtain ⟨xs, e1', ez⟩ := bind_some ez
  obtain ⟨ys, e2', ez⟩ := bind_some ez
  cases ez
  have ha := pa_cons h1 (pa_cons h2 pa_nil hs2) hs1
  refine PySem.W.items_star ?_ hs
  refine Call_ (ld_blt I hg hm PyProof.Rows.boot_zip (PyProof.Rows.callWith_type1 (thn (ha.run pos pins s σ H (fun vs H1 => ∃ a b xs1 ys1 F1, vs = [.ref a, .ref b] ∧ Gr F H F1 H1 ∧ (SqL X.K H1 a xs1 ∨ SqT X.K H1 a xs1) ∧ (SqL X.K H1 b ys1 ∨ SqT X.K H1 b ys1) ∧ RpAll F1 xs1 xs ∧ RpAll F1 ys1 ys) I ?_) fun us s1 ⟨vs, H1, I1, rv, a, b, xs1, ys1, F1, ev, g1, q1, q2, r1, r2⟩ => ?_) hs1 hpl))
  · refine ⟨F, ρ, xs, E, e1', fun a vs F1 H1 g1 h1 r1 => ?_⟩
    refine ⟨F1, ρ, ys, E.gr g1, e2', fun b us F2 H2 g2 h2 r2 => ?_⟩
    refine ⟨a, b, vs, us, F2, rfl, g1.trans g2, ?_, h2.sq, r1.mono g2.f, r2⟩
    rcases h1 with h1 | h1
    · exact .inl (SqL.of (g2.h _ _ h1))
    · exact .inr (SqT.of (g2.h _ _ h1))
  subst ev
  obtain ⟨b1, us1, v1, s1', z1⟩ := sq_get I1 q1
  obtain ⟨b2, us2, v2, s2', z2⟩ := sq_get I1 q2
  have lA : xs1.length = us1.length := Paired.length v1
  have lB : ys1.length = us2.length := Paired.length v2
  cases rv with
  | cons ra rv =>
    cases rv with
    | cons rb rv =>
      cases rv
      cases ra
      cases rb
      have D := PySem.W.ktu_apart s1.heap.objs.size a b (by obtain ⟨o, ho⟩ := s1'.has; exact Heap.lt_size ho) (by obtain ⟨o, ho⟩ := s2'.has; exact Heap.lt_size ho)
      refine ZS.call_zip s1' s2' fun h' hz m hsz hk => ?_
      have hT : ({ s1 with heap := h' } : Shared).TypeIs (.ref (s1.heap.objs.size + 4)) "zip" := ⟨_, hz, rfl⟩
      unfold PySem.W.StarOf notIterableAtAll
      refine wpAny_bind (wpAny_specialOf hT PySem.F.slot_zip_iter.lookup (wpAny_pure ⟨rfl, ?_⟩))
      refine ZS.collect_zip (n0 := s1.heap.objs.size) (I1.ok.hd hc) D (by rw [List.size_toArray, List.size_toArray]; omega) hz m (by show s1.heap.objs.size ≤ h'.objs.size; omega) fun h'' as kept hlen got => ?_
      have hk2 : ∀ c o, s1.heap.get? c = some o → h''.get? c = some o := fun c o e => by
        have q := Heap.lt_size e
        have up : ∀ n : Nat, c < s1.heap.objs.size + n := fun n => Nat.lt_of_lt_of_le q (Nat.le_add_right _ _)
        exact kept c o (Nat.ne_of_lt (up 4)) (Nat.ne_of_lt (up 3)) (Nat.ne_of_lt (up 0)) (Nat.ne_of_lt (up 1)) (hk c o e)
      have hlen' : as.length = min xs1.length ys1.length := by rw [hlen, List.size_toArray, List.size_toArray]; omega
      have hnew : ∀ t ∈ as, s1.heap.objs.size ≤ t := fun t ht => by
        obtain ⟨j, hj⟩ := List.getElem?_of_mem ht
        exact (got.2 j t hj).1
      have I2 := lay_pairs (h' := h'') I1 v1 v2 got.1 hlen' hk2 hnew fun j T e => by
        obtain ⟨_, x, y, e1, e2, e3, _⟩ := got.2 j T e
        exact ⟨x, y, by simpa using e1, by simpa using e2, e3⟩
      obtain ⟨F2, g2, r3⟩ := frz_pairs as xs1 ys1 xs ys F1 H1 g1.s got.1 (fun t ht => I1.hok.fresh (hnew t ht)) r1 r2 hlen'
      exact thn (t.run pos' pins _ σ _ _ I2 ⟨F2, ρ, rs, E.gr (g1.trans g2), er, fun vs F3 H3 g3 r4 => q _ F3 H3 ((g1.trans g2).trans g3) ((r3.mono g3.f).append r4)⟩) fun ws s3 ⟨vs, H3, I3, r5, q3⟩ => ⟨as.map V.ref ++ vs, H3, I3, (LiI.vals_refs as).append r5, q3⟩
end
end DL

set_option Elab.async false
set_option linter.all false
set_option maxRecDepth 100000
set_option maxHeartbeats 2000000
namespace DL
open PySem PySem.Spec L2
abbrev iL (xs : List Int) : D := .list (xs.map PyData.int)
theorem bind_ok {α β : Type} {x : Option α} {a : α} (h : x = some a) (g : α → Option β) : x.bind g = g a := by rw [h]; rfl
theorem compGo_map {A : Type} (f : A → D) (g : D → Rho → Option Rho) (tt : Rho → Option Bool) (te : Rho → Option D) (ρ0 : Rho) (p : A → Bool) (y : A → D) : ∀ (L : List A),
    (∀ a ∈ L, ∃ ρ1, g (f a) ρ0 = some ρ1 ∧ tt ρ1 = some (p a) ∧ (p a = true → te ρ1 = some (y a))) → compGo g tt te ρ0 (L.map f) = some ((L.filter p).map y)
  | [], _ => rfl
  | a :: L, h => by
    obtain ⟨ρ1, h1, h2, h3⟩ := h a List.mem_cons_self
    have ih := compGo_map f g tt te ρ0 p y L fun b hb => h b (List.mem_cons_of_mem _ hb)
    show (g (f a) ρ0).bind _ = _
    rw [h1, Option.bind_some, h2, Option.bind_some]
    cases hp : p a with
    | true => rw [if_pos rfl, h3 hp, Option.bind_some, ih, Option.bind_some, List.filter_cons_of_pos hp]; rfl
    | false => rw [if_neg Bool.false_ne_true, ih, List.filter_cons_of_neg (by rw [hp]; exact Bool.false_ne_true)]
/-- all items, no test -/
theorem compGo_all {A : Type} (f : A → D) (g : D → Rho → Option Rho) (te : Rho → Option D) (ρ0 : Rho) (y : A → D) (L : List A) (h : ∀ a ∈ L, ∃ ρ1, g (f a) ρ0 = some ρ1 ∧ te ρ1 = some (y a)) : compGo g kYes te ρ0 (L.map f) = some (L.map y) := by
  have := compGo_map f g kYes te ρ0 (fun _ => true) y L fun a ha => let ⟨ρ1, h1, h2⟩ := h a ha; ⟨ρ1, h1, rfl, fun _ => h2⟩
  rw [this, List.filter_eq_self.mpr fun _ _ => rfl]
theorem compGo_data (g : D → Rho → Option Rho) (te : Rho → Option D) (ρ0 : Rho) (y : D → D) (L : List D) (h : ∀ a ∈ L, ∃ ρ1, g a ρ0 = some ρ1 ∧ te ρ1 = some (y a)) : compGo g kYes te ρ0 L = some (L.map y) := by
  have := compGo_all (fun d : D => d) g te ρ0 y L h
  rw [List.map_id'] at this
  exact this
theorem rangeD_one (lo : Int) (n : Nat) : rangeD lo 1 n = ((List.range n).map fun i : Nat => lo + (i : Int)).map PyData.int := by
  unfold rangeD
  rw [List.map_map]
  exact List.map_congr_left fun i _ => by simp
theorem rangeD_zero (n : Nat) : rangeD 0 1 n = (List.range n).map fun i : Nat => PyData.int (i : Int) := by
  unfold rangeD
  exact List.map_congr_left fun i _ => by simp
theorem forGo_nil (g : D → Rho → Option Rho) (b : Rho → Option Fl) (ρ : Rho) : forGo g b [] ρ = some (.nx ρ) := rfl
/-- a loop without break, continue and return, by its states -/
theorem forGo_st {A S : Type} (f : A → D) (g : D → Rho → Option Rho) (b : Rho → Option Fl) (E : S → Rho → Prop) (step : S → A → S) : ∀ (L : List A) (s : S) (ρ : Rho), E s ρ →
    (∀ a ∈ L, ∀ (s : S) (ρ : Rho), E s ρ → ∃ ρ1 ρ2, g (f a) ρ = some ρ1 ∧ b ρ1 = some (.nx ρ2) ∧ E (step s a) ρ2) → ∃ ρ', forGo g b (L.map f) ρ = some (.nx ρ') ∧ E (L.foldl step s) ρ'
  | [], s, ρ, e, _ => ⟨ρ, rfl, e⟩
  | a :: L, s, ρ, e, h => by
    obtain ⟨ρ1, ρ2, h1, h2, h3⟩ := h a List.mem_cons_self s ρ e
    obtain ⟨ρ', h4, h5⟩ := forGo_st f g b E step L _ ρ2 h3 fun c hc => h c (List.mem_cons_of_mem _ hc)
    refine ⟨ρ', ?_, h5⟩
    show (g (f a) ρ).bind _ = _
    rw [h1, Option.bind_some, h2, Option.bind_some]
    exact h4
theorem atI_nat {α : Type} (xs : List α) (i : Nat) (h : i < xs.length) : atI xs (i : Int) = some (xs[i]) := by
  unfold atI ixN
  rw [if_pos (by omega), if_pos (by omega)]
  simp [h]
@[simp] theorem atI_zero {α : Type} (x : α) (xs : List α) : atI (x :: xs) 0 = some x := by simp [atI, ixN]
@[simp] theorem atI_one {α : Type} (x y : α) (xs : List α) : atI (x :: y :: xs) 1 = some y := by
  have := atI_nat (x :: y :: xs) 1 (by simp)
  simpa using this
@[simp] theorem atI_two {α : Type} (x y z : α) (xs : List α) : atI (x :: y :: z :: xs) 2 = some z := by
  have := atI_nat (x :: y :: z :: xs) 2 (by simp)
  simpa using this
@[simp] theorem atI_three {α : Type} (x y z w : α) (xs : List α) : atI (x :: y :: z :: w :: xs) 3 = some w := by
  have := atI_nat (x :: y :: z :: w :: xs) 3 (by simp)
  simpa using this
@[simp] theorem intsOf_m (xs : List Int) : intsOf (xs.map PyData.int) = some xs := intsOf_map xs
@[simp] theorem boolsOf_m (xs : List Bool) : boolsOf (xs.map PyData.bool) = some xs := boolsOf_map xs
@[simp] theorem wipeE_nil (ρ : Rho) : wipeE ρ [] = ρ := rfl
@[simp] theorem wipeE_cons (ρ : Rho) (v : Nat) (vs : List Nat) : wipeE ρ (v :: vs) = (wipeE ρ vs).set v .un := rfl
end DL
namespace DL
open PySem PySem.Spec L2
theorem atI_map_nat {A : Type} (f : A → D) (xs : List A) (k : Nat) (h : k < xs.length) : atI (xs.map f) (k : Int) = some (f xs[k]) := by
  rw [atI_nat _ _ (by simpa using h)]
  simp
theorem atI_iL (xs : List Int) (k : Nat) (h : k < xs.length) : atI (xs.map PyData.int) (k : Int) = some (.int (xs.getD k 0)) := by
  rw [atI_map_nat _ _ _ h, List.getD_eq_getElem?_getD, List.getElem?_eq_getElem h]
  rfl
theorem okMul_of {i j : Int} (h : i.natAbs ≤ 1000000000000) : okMul i j = true := by
  unfold okMul
  rw [Bool.or_eq_true, decide_eq_true_iff]
  exact .inl (by omega)
theorem okMul_of' {i j : Int} (h : j.natAbs ≤ 1000000000000) : okMul i j = true := by
  unfold okMul
  rw [Bool.or_eq_true, decide_eq_true_iff, decide_eq_true_iff]
  exact .inr (by omega)
/-- numbers of at most B -/
def Bd (B : Nat) (xs : List Int) : Prop := ∀ x ∈ xs, x.natAbs ≤ B
theorem Bd.mono {B C : Nat} {xs : List Int} (h : Bd B xs) (l : B ≤ C) : Bd C xs := fun x hx => Nat.le_trans (h x hx) l
theorem Bd.get {B : Nat} {xs : List Int} (h : Bd B xs) (k : Nat) : (xs.getD k 0).natAbs ≤ B := by
  rw [List.getD_eq_getElem?_getD]
  cases e : xs[k]? with
  | none => simp
  | some x => exact h x (List.mem_of_getElem? e)
theorem Bd.get? {B : Nat} {xs : List Int} (h : Bd B xs) {k : Nat} {x : Int} (e : xs[k]? = some x) : x.natAbs ≤ B := h x (List.mem_of_getElem? e)
/-- places of two lists, as pairs -/
theorem range_zip (f : Int → Int → D) : ∀ (xs ys : List Int), xs.length ≤ ys.length → (List.range xs.length).map (fun k => f (xs.getD k 0) (ys.getD k 0)) = List.zipWith f xs ys
  | [], _, _ => rfl
  | x :: xs, [], h => by simp at h
  | x :: xs, y :: ys, h => by
    have ih := range_zip f xs ys (by simpa using h)
    rw [List.length_cons, List.range_succ_eq_map, List.map_cons, List.map_map]
    show f x y :: _ = f x y :: _
    rw [← ih]
    rfl
theorem range_one {A : Type} (d : A) (f : A → D) : ∀ (xs : List A), (List.range xs.length).map (fun k => f (xs.getD k d)) = xs.map f
  | [] => rfl
  | x :: xs => by
    have ih := range_one d f xs
    rw [List.length_cons, List.range_succ_eq_map, List.map_cons, List.map_map, List.map_cons, ← ih]
    rfl
theorem fit_of {ys : List D} (h : ys.length ≤ 1000000) : fit ys = some (.ow ys) := by
  unfold fit
  rw [if_pos (Nat.le_trans h (by decide))]
def dot (xs ys : List Int) : Int := (List.zipWith (· * ·) xs ys).sum
theorem zipWith_int (xs ys : List Int) : List.zipWith (fun a b => PyData.int (a * b)) xs ys = (List.zipWith (· * ·) xs ys).map PyData.int := by
  rw [List.map_zipWith]
end DL
namespace DL
open PySem PySem.Spec L2
/-- walked with conditions on the items alone, the state coming back to a fixed one -/
theorem forGo_same (g : D → Rho → Option Rho) (b : Rho → Option Fl) (E : Rho → Prop) : ∀ (L : List D) (ρ : Rho), E ρ → (∀ a ∈ L, ∀ ρ, E ρ → ∃ ρ1 ρ2, g a ρ = some ρ1 ∧ b ρ1 = some (.nx ρ2) ∧ E ρ2) → ∃ ρ', forGo g b L ρ = some (.nx ρ') ∧ E ρ'
  | [], ρ, e, _ => ⟨ρ, rfl, e⟩
  | a :: L, ρ, e, h => by
    obtain ⟨ρ1, ρ2, h1, h2, h3⟩ := h a List.mem_cons_self ρ e
    obtain ⟨ρ', h4, h5⟩ := forGo_same g b E L ρ2 h3 fun c hc => h c (List.mem_cons_of_mem _ hc)
    refine ⟨ρ', ?_, h5⟩
    show (g a ρ).bind _ = _
    rw [h1, Option.bind_some, h2, Option.bind_some]
    exact h4
theorem enumD_map {A : Type} (f : A → D) : ∀ (xs : List A) (k : Nat), enumD k (xs.map f) = (xs.zipIdx k).map fun p => .tuple [.int (p.2 : Int), f p.1]
  | [], _ => rfl
  | x :: xs, k => by rw [List.map_cons, List.zipIdx_cons, List.map_cons, ← enumD_map f xs (k + 1)]; rfl
theorem zipD_map {A B : Type} (f : A → D) (h : B → D) : ∀ (xs : List A) (ys : List B), zipD (xs.map f) (ys.map h) = (xs.zip ys).map fun p => .tuple [f p.1, h p.2]
  | [], _ => by cases ‹List B› <;> rfl
  | _ :: _, [] => rfl
  | x :: xs, y :: ys => by rw [List.map_cons, List.map_cons, List.zip_cons_cons, List.map_cons, ← zipD_map f h xs ys]; rfl
theorem zipIdx_lt {A : Type} {xs : List A} {p : A × Nat} (h : p ∈ xs.zipIdx) : p.2 < xs.length ∧ xs[p.2]? = some p.1 := by
  obtain ⟨x, i⟩ := p
  have := List.mem_zipIdx_iff_getElem?.mp h
  exact ⟨(List.getElem?_eq_some_iff.mp this).1, this⟩
def prodT (ts : List Int) : Int := ts.foldl (fun a t => a * (t + 1)) 1
@[simp] theorem data_fr (d : D) : (Rv.fr d).data = d := rfl
@[simp] theorem gEq_int (i j : Int) : gEq (.int i) (.int j) = some (.bool (i == j)) := by
  unfold gEq
  rw [if_pos ⟨rfl, rfl⟩]
  rfl
@[simp] theorem gNe_int (i j : Int) : gNe (.int i) (.int j) = some (.bool (!(i == j))) := by
  unfold gNe
  rw [if_pos ⟨rfl, rfl⟩]
  rfl
@[simp] theorem boolsOf_const {A : Type} (f : A → Bool) (xs : List A) : boolsOf (xs.map fun a => PyData.bool (f a)) = some (xs.map f) := by
  have := boolsOf_map (xs.map f)
  rw [List.map_map] at this
  exact this
@[simp] theorem intsOf_fn {A : Type} (f : A → Int) (xs : List A) : intsOf (xs.map fun a => PyData.int (f a)) = some (xs.map f) := by
  have := intsOf_map (xs.map f)
  rw [List.map_map] at this
  exact this
@[simp] theorem gAll_m {A : Type} (f : A → Bool) (xs : List A) : gAll (xs.map fun a => PyData.bool (f a)) = some (.fr (.bool (xs.all f))) := by
  unfold gAll
  rw [boolsOf_const]
  simp [List.all_map]
@[simp] theorem gAny_m {A : Type} (f : A → Bool) (xs : List A) : gAny (xs.map fun a => PyData.bool (f a)) = some (.fr (.bool (xs.any f))) := by
  unfold gAny
  rw [boolsOf_const]
  simp [List.any_map]
@[simp] theorem gSum_m {A : Type} (f : A → Int) (xs : List A) : gSum (xs.map fun a => PyData.int (f a)) = some (.fr (.int (xs.map f).sum)) := by
  unfold gSum
  rw [intsOf_fn]
  rfl
@[simp] theorem line_v : line = 16777216 := rfl
end DL

set_option Elab.async false
set_option linter.all false
set_option maxRecDepth 100000
set_option maxHeartbeats 2000000
namespace DL
open PySem PySem.Spec L2
/-- what can be shown, in at most n signs, at most k deep -/
structure RB (n k : Nat) (d : D) : Prop where
  sh : d.showable = true
  nd : d.hasDict = false
  dp : d.depth ≤ k
  ln : d.shown.length ≤ n
theorem RB.mono {n k n' k' : Nat} {d : D} (h : RB n k d) (h1 : n ≤ n') (h2 : k ≤ k') : RB n' k' d := ⟨h.sh, h.nd, Nat.le_trans h.dp h2, Nat.le_trans h.ln h1⟩
theorem gRepr_ok {n k : Nat} {d : D} (h : RB n k d) (h1 : n ≤ 16777216) (h2 : k ≤ 60) : gRepr [d] = some (.fr (.str d.shown)) := by
  show (if _ then _ else _) = _
  rw [if_pos ⟨h.sh, h.nd, Nat.le_trans h.dp h2, Nat.le_trans h.ln h1⟩]
theorem RB.none : RB 4 0 .none := ⟨rfl, rfl, Nat.le_refl _, by decide +kernel⟩
theorem RB.int {i : Int} (h : i.natAbs ≤ 1000000000000) : RB 60 0 (.int i) := by
  have h2 : i.natAbs < 10 ^ 13 := by omega
  refine ⟨?_, rfl, Nat.le_refl _, ?_⟩
  · show decide (i.natAbs.log2 < 1920) = true
    rw [decide_eq_true_iff]
    have : i.natAbs.log2 ≤ i.natAbs := Nat.log2_le_self _
    by_cases z : i.natAbs = 0
    · rw [z]; decide
    · have := (Nat.log2_lt z (k := 1920)).mpr (Nat.lt_of_lt_of_le h2 (by decide))
      exact this
  · have e := int_text_length_le10 (k := 13) (by decide) h2
    show (Str.ofString (toString i)).length ≤ 60
    rw [ofString_length]
    omega
theorem piled_le {n : Nat} : ∀ (ts : List Str), (∀ t ∈ ts, t.length ≤ n) → piled ts ≤ ts.length * (n + 2)
  | [], _ => Nat.zero_le _
  | t :: ts, h => by
    have ih := piled_le ts fun x hx => h x (List.mem_cons_of_mem _ hx)
    have := h t List.mem_cons_self
    show t.length + 2 + piled ts ≤ (ts.length + 1) * (n + 2)
    rw [Nat.add_mul]
    omega
theorem listText_le (ts : List Str) : (listText ts).length ≤ 4 + piled ts := by
  cases ts with
  | nil => decide +kernel
  | cons t r =>
    have h := textFrom_length_pos r 1 (("[" : Str) ++ (if (0 : Nat) > 0 then ", " else "" : String) ++ t) (Nat.succ_pos 0)
    show (textFrom 0 "[" (t :: r) ++ "]").length ≤ _
    rw [strLen_append]
    show (textFrom 1 _ r).length + _ ≤ _
    have e1 : ((("[" : Str) ++ (if (0 : Nat) > 0 then ", " else "" : String) ++ t)).length = 1 + t.length := by
      rw [strLen_append, strLen_append]
      rfl
    rw [e1] at h
    have e2 : (("]" : String) : Str).length = 1 := rfl
    have e3 : piled (t :: r) = t.length + 2 + piled r := rfl
    rw [e2, e3]
    simp only [gt_iff_lt, Nat.lt_irrefl, if_false] at h ⊢
    omega
theorem tupleText_le (ts : List Str) : (tupleText ts).length ≤ 4 + piled ts := by
  unfold tupleText
  rw [strLen_append, strLen_append]
  have e1 : (("(" : String) : Str).length = 1 := rfl
  have e2 : ((if ts.length == 1 then ",)" else ")" : String) : Str).length ≤ 2 := by split <;> decide +kernel
  by_cases z : ts = []
  · subst z
    have : (Str.join ", " []).length = 0 := by decide +kernel
    rw [this, e1]
    omega
  · have := join_length_add ts z
    rw [e1]
    omega
theorem all_rb {n k : Nat} : ∀ (ds : List D), (∀ d ∈ ds, RB n k d) → PyData.showableAll ds = true ∧ PyData.hasDictAll ds = false ∧ PyData.depthAll ds ≤ k ∧ (PyData.shownAll ds).length = ds.length ∧ ∀ t ∈ PyData.shownAll ds, t.length ≤ n
  | [], _ => ⟨rfl, rfl, Nat.zero_le _, rfl, fun t h => (nomatch h)⟩
  | d :: ds, h => by
    obtain ⟨a1, a2, a3, a4, a5⟩ := all_rb ds fun x hx => h x (List.mem_cons_of_mem _ hx)
    have b := h d List.mem_cons_self
    refine ⟨?_, ?_, ?_, ?_, fun t ht => ?_⟩
    · rw [PyData.showableAll, b.sh, a1]; rfl
    · rw [PyData.hasDictAll, b.nd, a2]; rfl
    · rw [PyData.depthAll]; have := b.dp; omega
    · rw [PyData.shownAll, List.length_cons, a4, List.length_cons]
    · rw [PyData.shownAll] at ht
      rcases List.mem_cons.mp ht with e | ht
      · rw [e]; exact b.ln
      · exact a5 t ht
theorem RB.list {n k m : Nat} {ds : List D} (h : ∀ d ∈ ds, RB n k d) (hm : ds.length ≤ m) : RB (4 + m * (n + 2)) (k + 1) (.list ds) := by
  obtain ⟨a1, a2, a3, a4, a5⟩ := all_rb ds h
  refine ⟨by rw [PyData.showable]; exact a1, by rw [PyData.hasDict]; exact a2, by rw [PyData.depth]; omega, ?_⟩
  rw [PyData.shown]
  have b1 := listText_le (PyData.shownAll ds)
  have b2 := piled_le (PyData.shownAll ds) a5
  have b3 := Nat.mul_le_mul_right (n + 2) hm
  rw [a4] at b2
  omega
theorem RB.tuple {n k m : Nat} {ds : List D} (h : ∀ d ∈ ds, RB n k d) (hm : ds.length ≤ m) : RB (4 + m * (n + 2)) (k + 1) (.tuple ds) := by
  obtain ⟨a1, a2, a3, a4, a5⟩ := all_rb ds h
  refine ⟨by rw [PyData.showable]; exact a1, by rw [PyData.hasDict]; exact a2, by rw [PyData.depth]; omega, ?_⟩
  rw [PyData.shown]
  have b1 := tupleText_le (PyData.shownAll ds)
  have b2 := piled_le (PyData.shownAll ds) a5
  have b3 := Nat.mul_le_mul_right (n + 2) hm
  rw [a4] at b2
  omega
end DL

set_option Elab.async false
set_option linter.all false
set_option maxRecDepth 100000
set_option maxHeartbeats 2000000
namespace K80
open PySem PySem.Spec L2 DL
def wN : Nat := 1000000
noncomputable section
-- skipped []
def b_are_numbers : Rho → Option Fl :=
  (zRet (kFr (vAnd (kBin gEqA (kData (kCall gLen (kQ (gVar 0)))) (gVar 1)) (kData (kCall gAll (kRL (kComp (List.map (fun x => x.2) ([("number", 2)] : List (Str × Nat))) (kQ (gVar 0)) (sName 2) kYes (kChain gLe gLe (kUn gNeg (kC (.int 20))) (gVar 2) (kC (.int 20))))))))))
def d_are_numbers : List D → Option Res := dFn 2 3 b_are_numbers
def b_tuples_within : Rho → Option Fl :=
  (zSeq (zSet 1 (kC (.int 1)))
  (zSeq (zFor (kQ (gVar 0)) (sName 2) (zSet 1 (kBin gMul (gVar 1) (kBin gAdd (gVar 2) (kC (.int 1))))))
  (zRet (kFr (gVar 1)))))
def d_tuples_within : List D → Option Res := dFn 1 3 b_tuples_within
def b_check_task : Rho → Option Fl :=
  (zSeq (zAsg (gVar 0) (sTup 4 (sCons (sName 1) (sCons (sName 2) (sCons (sName 3) (sCons (sName 4) sNil))))))
  (zSeq (zSet 5 (kData (kCall gLen (kQ (gVar 1)))))
  (zSeq (zIf (kNot (kB (kChain gLe gLe (kC (.int 1)) (gVar 5) (kC (.int 6))))) zNone zNext)
  (zSeq (zFor (kEnum (kL (gVar 1))) (sTup 2 (sCons (sName 6) (sCons (sName 7) sNil))) (zIf (kNot (kB (kChain gLe gLe (kUn gNeg (kC (.int 20))) (gVar 7) (kC (.int 20))))) zNone zNext))
  (zSeq (zFor (kEnum (kL (gVar 2))) (sTup 2 (sCons (sName 8) (sCons (sName 9) sNil))) (zIf (kOr (kB (kBin gEqA (gVar 8) (kC (.int 6)))) (kNot (kB (kData (kCallD d_are_numbers (kCons (gVar 9) (kCons (gVar 5) kNil))))))) zNone zNext))
  (zSeq (zIf (kB (kBin gNeA (kData (kCall gLen (kQ (gVar 3)))) (kData (kCall gLen (kQ (gVar 2)))))) zNone zNext)
  (zSeq (zFor (kEnum (kL (gVar 3))) (sTup 2 (sCons (sName 8) (sCons (sName 10) sNil))) (zIf (kNot (kB (kChain gLe gLe (kUn gNeg (kC (.int 200))) (gVar 10) (kC (.int 200))))) zNone zNext))
  (zSeq (zIf (kB (kBin gNeA (kData (kCall gLen (kQ (gVar 4)))) (gVar 5))) zNone zNext)
  (zSeq (zFor (kEnum (kL (gVar 4))) (sTup 2 (sCons (sName 6) (sCons (sName 11) sNil))) (zIf (kNot (kB (kChain gLe gLe (kC (.int 0)) (gVar 11) (kC (.int 12))))) zNone zNext))
  (zIf (kB (kBin gGt (kData (kCallD d_tuples_within (kCons (gVar 4) kNil))) (kC (.int 20000)))) zNone zNext))))))))))
def d_check_task : List D → Option Res := dFn 1 12 b_check_task
def b_start_of : Rho → Option Fl :=
  (zSeq (zAsg (gVar 0) (sTup 4 (sCons (sName 1) (sCons (sName 2) (sCons (sName 3) (sCons (sName 4) sNil))))))
  (zRet (kTp (kListRg1 (kCons (kData (kCall gLen (kQ (gVar 1)))) kNil)) (kCons (kTup (kCons (kData (kCall gList (kQ (gVar 1)))) (kCons (kData (kComp (List.map (fun x => x.2) ([("row", 5)] : List (Str × Nat))) (kQ (gVar 2)) (sName 5) kYes (kData (kCall gList (kQ (gVar 5)))))) (kCons (kData (kCall gList (kQ (gVar 3)))) (kCons (kData (kCall gList (kQ (gVar 4)))) kNil))))) (kCons (kData (kLst kNil)) kNil)))))
def d_start_of : List D → Option Res := dFn 1 6 b_start_of
def b_start : Rho → Option Fl :=
  (zSeq (zDrop (kCallD d_check_task (kCons (gVar 0) kNil)))
  (zRet (kCallD d_start_of (kCons (gVar 0) kNil))))
def d_start : List D → Option Res := dFn 1 1 b_start
def b_least_sum : Rho → Option Fl :=
  (zRet (kCall gSum (kRL (kComp (List.map (fun x => x.2) ([("number", 2), ("top", 3)] : List (Str × Nat))) (kZipD (kIx (kQ (kIx (kQ (gVar 0)) (kC (.int 1)))) (gVar 1)) (kIx (kQ (gVar 0)) (kC (.int 3)))) (sTup 2 (sCons (sName 2) (sCons (sName 3) sNil))) (kB (kBin gLt (gVar 2) (kC (.int 0)))) (kBin gMul (gVar 2) (gVar 3))))))
def d_least_sum : List D → Option Res := dFn 2 4 b_least_sum
def b_greatest_sum : Rho → Option Fl :=
  (zRet (kCall gSum (kRL (kComp (List.map (fun x => x.2) ([("number", 2), ("top", 3)] : List (Str × Nat))) (kZipD (kIx (kQ (kIx (kQ (gVar 0)) (kC (.int 1)))) (gVar 1)) (kIx (kQ (gVar 0)) (kC (.int 3)))) (sTup 2 (sCons (sName 2) (sCons (sName 3) sNil))) (kB (kBin gGt (gVar 2) (kC (.int 0)))) (kBin gMul (gVar 2) (gVar 3))))))
def d_greatest_sum : List D → Option Res := dFn 2 4 b_greatest_sum
def b_without_row : Rho → Option Fl :=
  (zSeq (zAsg (gVar 0) (sTup 3 (sCons (sName 2) (sCons (sName 3) (sCons (sName 4) sNil)))))
  (zSeq (zAsg (gVar 3) (sTup 4 (sCons (sName 5) (sCons (sName 6) (sCons (sName 7) (sCons (sName 8) sNil))))))
  (zSeq (zIf (kB (kBin gGt (kData (kCallD d_greatest_sum (kCons (gVar 3) (kCons (gVar 1) kNil)))) (kIx (kQ (gVar 7)) (gVar 1)))) (zRet (kFr (kC .none))) zNext)
  (zSeq (zSet 9 (kData (kComp (List.map (fun x => x.2) ([("j", 11), ("row", 12)] : List (Str × Nat))) (kEnum (kL (gVar 6))) (sTup 2 (sCons (sName 11) (sCons (sName 12) sNil))) (kB (kBin gNeA (gVar 11) (gVar 1))) (kData (kCall gList (kQ (gVar 12)))))))
  (zSeq (zSet 10 (kData (kComp (List.map (fun x => x.2) ([("j", 11), ("limit", 13)] : List (Str × Nat))) (kEnum (kL (gVar 7))) (sTup 2 (sCons (sName 11) (sCons (sName 13) sNil))) (kB (kBin gNeA (gVar 11) (gVar 1))) (gVar 13))))
  (zRet (kTp (kCall gList (kQ (gVar 2))) (kCons (kTup (kCons (kData (kCall gList (kQ (gVar 5)))) (kCons (gVar 9) (kCons (gVar 10) (kCons (kData (kCall gList (kQ (gVar 8)))) kNil))))) (kCons (kData (kCall gList (kQ (gVar 4)))) kNil)))))))))
def d_without_row : List D → Option Res := dFn 2 14 b_without_row
def b_lowered : Rho → Option Fl :=
  (zSeq (zAsg (gVar 0) (sTup 3 (sCons (sName 3) (sCons (sName 4) (sCons (sName 5) sNil)))))
  (zSeq (zAsg (gVar 4) (sTup 4 (sCons (sName 6) (sCons (sName 7) (sCons (sName 8) (sCons (sName 9) sNil))))))
  (zSeq (zSet 10 (kIx (kQ (kIx (kQ (gVar 7)) (gVar 2))) (gVar 1)))
  (zSeq (zSet 11 (kBin gSub (kIx (kQ (gVar 8)) (gVar 2)) (kData (kCallD d_least_sum (kCons (gVar 4) (kCons (gVar 2) kNil))))))
  (zSeq (zIf (kOr (kB (kBin gLe (gVar 10) (kC (.int 0)))) (kOr (kB (kBin gLt (gVar 11) (kC (.int 0)))) (kB (kBin gGe (kBin gDiv (gVar 11) (gVar 10)) (kIx (kQ (gVar 9)) (gVar 1)))))) (zRet (kFr (kC .none))) zNext)
  (zSeq (zSet 12 (kData (kComp (List.map (fun x => x.2) ([("j", 13), ("top", 14)] : List (Str × Nat))) (kEnum (kL (gVar 9))) (sTup 2 (sCons (sName 13) (sCons (sName 14) sNil))) kYes (kIf (kB (kBin gEqA (gVar 13) (gVar 1))) (kBin gDiv (gVar 11) (gVar 10)) (gVar 14)))))
  (zRet (kTp (kCall gList (kQ (gVar 3))) (kCons (kTup (kCons (kData (kCall gList (kQ (gVar 6)))) (kCons (kData (kComp (List.map (fun x => x.2) ([("row", 15)] : List (Str × Nat))) (kQ (gVar 7)) (sName 15) kYes (kData (kCall gList (kQ (gVar 15)))))) (kCons (kData (kCall gList (kQ (gVar 8)))) (kCons (gVar 12) kNil))))) (kCons (kData (kCall gList (kQ (gVar 5)))) kNil))))))))))
def d_lowered : List D → Option Res := dFn 3 16 b_lowered
def b_may_fix : Rho → Option Fl :=
  (zSeq (zAsg (gVar 0) (sTup 4 (sCons (sName 3) (sCons (sName 4) (sCons (sName 5) (sCons (sName 6) sNil))))))
  (zSeq (zIf (kAnd (kB (kBin gEqA (gVar 2) (kIx (kQ (gVar 6)) (gVar 1)))) (kOr (kB (kBin gEqA (gVar 2) (kC (.int 0)))) (kAnd (kB (kBin gGe (kIx (kQ (gVar 3)) (gVar 1)) (kC (.int 0)))) (kNot (kB (kData (kCall gAny (kRL (kComp (List.map (fun x => x.2) ([("row", 7)] : List (Str × Nat))) (kQ (gVar 4)) (sName 7) kYes (kBin gGt (kIx (kQ (gVar 7)) (gVar 1)) (kC (.int 0)))))))))))) (zRet (kFr (kC (.bool true)))) zNext)
  (zRet (kFr (vAnd (kBin gEqA (gVar 2) (kC (.int 0))) (vAnd (kBin gLe (kIx (kQ (gVar 3)) (gVar 1)) (kC (.int 0))) (vNot (kData (kCall gAny (kRL (kComp (List.map (fun x => x.2) ([("row", 7)] : List (Str × Nat))) (kQ (gVar 4)) (sName 7) kYes (kBin gLt (kIx (kQ (gVar 7)) (gVar 1)) (kC (.int 0))))))))))))))
def d_may_fix : List D → Option Res := dFn 3 8 b_may_fix
def b_without_name : Rho → Option Fl :=
  (zSeq (zAsg (gVar 0) (sTup 3 (sCons (sName 3) (sCons (sName 4) (sCons (sName 5) sNil)))))
  (zSeq (zAsg (gVar 4) (sTup 4 (sCons (sName 6) (sCons (sName 7) (sCons (sName 8) (sCons (sName 9) sNil))))))
  (zSeq (zIf (kOr (kB (kBin gLt (kData (kCall gLen (kQ (gVar 3)))) (kC (.int 2)))) (kNot (kB (kData (kCallD d_may_fix (kCons (gVar 4) (kCons (gVar 1) (kCons (gVar 2) kNil)))))))) (zRet (kFr (kC .none))) zNext)
  (zSeq (zSet 10 (kData (kComp (List.map (fun x => x.2) ([("row", 13)] : List (Str × Nat))) (kQ (gVar 7)) (sName 13) kYes (kBin gAdd (kData (kSlA (gVar 13) kO0 (kO1 (gVar 1)))) (kData (kSlA (gVar 13) (kO1 (kBin gAdd (gVar 1) (kC (.int 1)))) kO0))))))
  (zSeq (zSet 11 (kData (kComp (List.map (fun x => x.2) ([("row", 13), ("limit", 14)] : List (Str × Nat))) (kZipD (gVar 7) (gVar 8)) (sTup 2 (sCons (sName 13) (sCons (sName 14) sNil))) kYes (kBin gSub (gVar 14) (kBin gMul (kIx (kQ (gVar 13)) (gVar 1)) (gVar 2))))))
  (zSeq (zSet 12 (kTup (kCons (kBin gAdd (kData (kSlA (gVar 6) kO0 (kO1 (gVar 1)))) (kData (kSlA (gVar 6) (kO1 (kBin gAdd (gVar 1) (kC (.int 1)))) kO0))) (kCons (gVar 10) (kCons (gVar 11) (kCons (kBin gAdd (kData (kSlA (gVar 9) kO0 (kO1 (gVar 1)))) (kData (kSlA (gVar 9) (kO1 (kBin gAdd (gVar 1) (kC (.int 1)))) kO0))) kNil))))))
  (zRet (kFr (kTup (kCons (kBin gAdd (kData (kSlA (gVar 3) kO0 (kO1 (gVar 1)))) (kData (kSlA (gVar 3) (kO1 (kBin gAdd (gVar 1) (kC (.int 1)))) kO0))) (kCons (gVar 12) (kCons (kData (kCall gSorted (kRL (kLst (kStar (kQ (gVar 5)) (kCons (kTup (kCons (kIx (kQ (gVar 3)) (gVar 1)) (kCons (gVar 2) kNil))) kNil)))))) kNil))))))))))))
def d_without_name : List D → Option Res := dFn 3 15 b_without_name
def b_task_copy : Rho → Option Fl :=
  (zSeq (zAsg (gVar 0) (sTup 4 (sCons (sName 1) (sCons (sName 2) (sCons (sName 3) (sCons (sName 4) sNil))))))
  (zRet (kTp (kCall gList (kQ (gVar 1))) (kCons (kData (kComp (List.map (fun x => x.2) ([("row", 5)] : List (Str × Nat))) (kQ (gVar 2)) (sName 5) kYes (kData (kCall gList (kQ (gVar 5)))))) (kCons (kData (kCall gList (kQ (gVar 3)))) (kCons (kData (kCall gList (kQ (gVar 4)))) kNil))))))
def d_task_copy : List D → Option Res := dFn 1 6 b_task_copy
def b_behind : Rho → Option Fl :=
  (zSeq (zAsg (gVar 0) (sTup 3 (sCons (sName 2) (sCons (sName 3) (sCons (sName 4) sNil)))))
  (zSeq (zSet 5 (kData (kCall gLen (kQ (kIx (kQ (gVar 3)) (kC (.int 1)))))))
  (zSeq (zSet 6 (kData (kSlA (gVar 1) (kO1 (kC (.int 1))) kO0)))
  (zSeq (zIf (kAnd (kB (kBin gInA (kIx (kQ (gVar 1)) (kC (.int 0))) (kTup (kCons (kC (.str "row")) (kCons (kC (.str "none")) kNil))))) (kAnd (kB (kBin gEqA (kData (kCall gLen (kQ (gVar 6)))) (kC (.int 1)))) (kB (kChain gLe gLt (kC (.int 0)) (kIx (kQ (gVar 6)) (kC (.int 0))) (gVar 5))))) (zSeq (zIf (kB (kBin gEqA (kIx (kQ (gVar 1)) (kC (.int 0))) (kC (.str "row")))) (zRet (kCallD d_without_row (kCons (gVar 0) (kCons (kIx (kQ (gVar 6)) (kC (.int 0))) kNil)))) zNext)
  (zSeq (zIf (kB (kBin gGt (kData (kCallD d_least_sum (kCons (gVar 3) (kCons (kIx (kQ (gVar 6)) (kC (.int 0))) kNil)))) (kIx (kQ (kIx (kQ (gVar 3)) (kC (.int 2)))) (kIx (kQ (gVar 6)) (kC (.int 0)))))) (zRet (kTp (kCall gList (kQ (gVar 2))) (kCons (kData (kCallD d_task_copy (kCons (gVar 3) kNil))) (kCons (kData (kCall gList (kQ (gVar 4)))) kNil)))) zNext)
  (zRet (kFr (kC .none))))) zNext)
  (zSeq (zIf (kAnd (kB (kBin gEqA (kData (kCall gLen (kQ (gVar 6)))) (kC (.int 2)))) (kB (kChain gLe gLt (kC (.int 0)) (kIx (kQ (gVar 6)) (kC (.int 0))) (kData (kCall gLen (kQ (gVar 2))))))) (zSeq (zIf (kAnd (kB (kBin gEqA (kIx (kQ (gVar 1)) (kC (.int 0))) (kC (.str "top")))) (kB (kChain gLe gLt (kC (.int 0)) (kIx (kQ (gVar 6)) (kC (.int 1))) (gVar 5)))) (zRet (kCallD d_lowered (kCons (gVar 0) (kCons (kIx (kQ (gVar 6)) (kC (.int 0))) (kCons (kIx (kQ (gVar 6)) (kC (.int 1))) kNil))))) zNext)
  (zIf (kB (kBin gEqA (kIx (kQ (gVar 1)) (kC (.int 0))) (kC (.str "fix")))) (zRet (kCallD d_without_name (kCons (gVar 0) (kCons (kIx (kQ (gVar 6)) (kC (.int 0))) (kCons (kIx (kQ (gVar 6)) (kC (.int 1))) kNil))))) zNext)) zNext)
  (zRet (kFr (kC .none))))))))
def d_behind : List D → Option Res := dFn 2 7 b_behind
def b_steps_at : Rho → Option Fl :=
  (zSeq (zAsg (gVar 0) (sTup 3 (sCons (sName 1) (sCons (sName 2) (sCons (sName 3) sNil)))))
  (zSeq (zSetRg 4 (kData (kCall gLen (kQ (kIx (kQ (gVar 2)) (kC (.int 1)))))))
  (zSeq (zSetR 5 (kCat (kRL (kComp (List.map (fun x => x.2) ([("i", 8)] : List (Str × Nat))) (gRg 4) (sName 8) kYes (kTup (kCons (kC (.str "none")) (kCons (gVar 8) kNil))))) (kRL (kComp (List.map (fun x => x.2) ([("i", 8)] : List (Str × Nat))) (gRg 4) (sName 8) kYes (kTup (kCons (kC (.str "row")) (kCons (gVar 8) kNil)))))))
  (zSeq (zSetR 5 (kCat (gLst 5) (kRL (kComp2 (List.map (fun x => x.2) ([("k", 6), ("i", 8)] : List (Str × Nat))) (kRange1 (kCons (kData (kCall gLen (kQ (gVar 1)))) kNil)) (sName 6) kYes (gRg 4) [8] (sName 8) kYes (kTup (kCons (kC (.str "top")) (kCons (gVar 6) (kCons (gVar 8) kNil))))))))
  (zSeq (zFor (kEnum (kL (kIx (kQ (gVar 2)) (kC (.int 3))))) (sTup 2 (sCons (sName 6) (sCons (sName 7) sNil))) (zExt 5 (kRL (kLst (kCons (kTup (kCons (kC (.str "fix")) (kCons (gVar 6) (kCons (gVar 7) kNil)))) (kCons (kTup (kCons (kC (.str "fix")) (kCons (gVar 6) (kCons (kC (.int 0)) kNil)))) kNil))))))
  (zRet (kSlot 5)))))))
def d_steps_at : List D → Option Res := dFn 1 9 b_steps_at
def b_first_step : Rho → Option Fl :=
  (zSeq (zFor (kQ (kData (kCallD d_steps_at (kCons (gVar 0) kNil)))) (sName 1) (zIf (kB (kBin gIsNot (kData (kCallD d_behind (kCons (gVar 0) (kCons (gVar 1) kNil)))) (kC .none))) (zRet (kFr (gVar 1))) zNext))
  (zRet (kFr (kC .none))))
def d_first_step : List D → Option Res := dFn 1 2 b_first_step
def b_worn_of : Rho → Option Fl :=
  (zSeq (zSet 1 (kData (kCallD d_start_of (kCons (gVar 0) kNil))))
  (zSeq (zSetR 2 (kLst kNil))
  (zSeq (zSet 3 (kData (kCallD d_first_step (kCons (gVar 1) kNil))))
  (zSeq (zWhile wN (kB (kBin gIsNot (gVar 3) (kC .none))) (zSeq (zApp 2 (gVar 3))
  (zSeq (zSet 1 (kData (kCallD d_behind (kCons (gVar 1) (kCons (gVar 3) kNil)))))
  (zSet 3 (kIf (kB (kBin gEqA (kIx (kQ (gVar 3)) (kC (.int 0))) (kC (.str "none")))) (kC .none) (kData (kCallD d_first_step (kCons (gVar 1) kNil))))))))
  (zRetT 2 (kCons (gVar 1) kNil))))))
def d_worn_of : List D → Option Res := dFn 1 4 b_worn_of
def b_worn : Rho → Option Fl :=
  (zSeq (zDrop (kCallD d_check_task (kCons (gVar 0) kNil)))
  (zRet (kCallD d_worn_of (kCons (gVar 0) kNil))))
def d_worn : List D → Option Res := dFn 1 1 b_worn
def b_whole_plan : Rho → Option Fl :=
  (zSeq (zSet 2 (kData (kCall gSorted (kRL (kLst (kStar (kZip2 (kQ (kIx (kQ (gVar 0)) (kC (.int 0)))) (kQ (gVar 1))) (kStar (kQ (kIx (kQ (gVar 0)) (kC (.int 2)))) kNil)))))))
  (zRet (kCall gTuple (kRL (kComp (List.map (fun x => x.2) ([("_", 3), ("value", 4)] : List (Str × Nat))) (kQ (gVar 2)) (sTup 2 (sCons (sName 3) (sCons (sName 4) sNil))) kYes (gVar 4))))))
def d_whole_plan : List D → Option Res := dFn 2 5 b_whole_plan
def b_fixed_gain : Rho → Option Fl :=
  (zSeq (zDrop (kCallD d_check_task (kCons (gVar 0) kNil)))
  (zRet (kCall gSum (kRL (kComp (List.map (fun x => x.2) ([("name", 2), ("value", 3)] : List (Str × Nat))) (kQ (kIx (kQ (gVar 1)) (kC (.int 2)))) (sTup 2 (sCons (sName 2) (sCons (sName 3) sNil))) kYes (kBin gMul (kIx (kQ (kIx (kQ (gVar 0)) (kC (.int 0)))) (gVar 2)) (gVar 3)))))))
def d_fixed_gain : List D → Option Res := dFn 2 4 b_fixed_gain
def b_law_draws (K : PySem.W.Frag) : Rho → Option Fl :=
  (zSeq (zSetR 1 (kLst kNil))
  (zSeq (zFor (kRange1 (kCons (kData (kCall gMin2 (kCons (kC (.int 63)) (kCons (kData (kScLen K 0)) kNil)))) kNil)) (sName 2) (zSeq (zSet 3 (kData (kCall gAbs (kCons (kScIx K 0 (gVar 2)) kNil))))
  (zIf (kB (kBin gGe (gVar 3) (kBin gPow (kC (.int 10)) (kC (.int 18))))) (zFor (kRange1 (kCons (kC (.int 60)) kNil)) (sName 4) (zIf (kB (kBin gGt (gVar 3) (kC (.int 0)))) (zSeq (zApp 1 (kBin gMod (kData (kCall gInt (kCons (gVar 3) kNil))) (kC (.int 65536))))
  (zSet 3 (kBin gDiv (gVar 3) (kC (.int 65536))))) zNext)) (zSeq (zSet 5 (kBin gMod (kData (kCall gInt (kCons (kBin gAdd (kBin gMul (gVar 3) (kC (.int 48271))) (kBin gMul (kBin gAdd (gVar 2) (kC (.int 1))) (kC (.int 69621)))) kNil))) (kC (.int 2147483647))))
  (zSeq (zSet 5 (kBin gMod (kData (kCall gInt (kCons (kBin gAdd (kBin gAdd (kBin gMul (gVar 5) (kC (.int 16807))) (kBin gMul (kC (.int 11)) (gVar 2))) (kC (.int 5))) kNil))) (kC (.int 2147483629))))
  (zSeq (zApp 1 (kBin gMod (kData (kCall gInt (kCons (gVar 5) kNil))) (kC (.int 65536))))
  (zApp 1 (kBin gMod (kData (kCall gInt (kCons (kBin gDiv (gVar 5) (kC (.int 65536))) kNil))) (kC (.int 32768))))))))))
  (zRet (kSlot 1))))
def d_law_draws (K : PySem.W.Frag) : List Int → Option Res := dSc K 6 (b_law_draws K)
def b_law_mix : Rho → Option Fl :=
  (zSeq (zSet 3 (kC (.int 0)))
  (zSeq (zIf (kB (kBin gGt (kData (kCall gLen (kQ (gVar 0)))) (kC (.int 0)))) (zSet 3 (kIx (kQ (gVar 0)) (kBin gMod (kData (kCall gInt (kCons (gVar 1) kNil))) (kData (kCall gLen (kQ (gVar 0))))))) zNext)
  (zSeq (zIf (kB (kBin gLt (gVar 1) (kData (kCall gLen (kQ (gVar 0)))))) (zRet (kFr (kBin gMod (kData (kCall gInt (kCons (gVar 3) kNil))) (gVar 2)))) zNext)
  (zRet (kFr (kBin gMod (kData (kCall gInt (kCons (kBin gDiv (kData (kCall gInt (kCons (kBin gAdd (kBin gMul (gVar 3) (kC (.int 7919))) (kBin gMul (gVar 1) (kC (.int 104729)))) kNil))) (kC (.int 3))) kNil))) (gVar 2)))))))
def d_law_mix : List D → Option Res := dFn 3 4 b_law_mix
def b_law_task : Rho → Option Fl :=
  (zSeq (zSet 4 (kBin gAdd (kC (.int 1)) (kData (kCallD d_law_mix (kCons (gVar 0) (kCons (gVar 1) (kCons (gVar 2) kNil)))))))
  (zSeq (zSetR 5 (kLst kNil))
  (zSeq (zSetR 6 (kLst kNil))
  (zSeq (zFor (kRange1 (kCons (kData (kCallD d_law_mix (kCons (gVar 0) (kCons (kBin gAdd (gVar 1) (kC (.int 1))) (kCons (kC (.int 5)) kNil))))) kNil)) (sName 7) (zSeq (zSet 8 (kIx (kQ (kData (kLst (kCons (kC (.int 3)) (kCons (kC (.int 7)) (kCons (kC (.int 41)) kNil)))))) (kData (kCallD d_law_mix (kCons (gVar 0) (kCons (kBin gAdd (gVar 1) (kC (.int 2))) (kCons (kC (.int 3)) kNil)))))))
  (zSeq (zApp 5 (kData (kComp (List.map (fun x => x.2) ([("k", 11)] : List (Str × Nat))) (kRange1 (kCons (gVar 4) kNil)) (sName 11) kYes (kBin gSub (kData (kCallD d_law_mix (kCons (gVar 0) (kCons (kBin gAdd (kBin gAdd (kBin gAdd (gVar 1) (kC (.int 10))) (kBin gMul (kC (.int 8)) (gVar 7))) (gVar 11)) (kCons (gVar 8) kNil))))) (kBin gDiv (gVar 8) (kC (.int 2)))))))
  (zApp 6 (kBin gSub (kData (kCallD d_law_mix (kCons (gVar 0) (kCons (kBin gAdd (kBin gAdd (gVar 1) (kC (.int 60))) (gVar 7)) (kCons (kIx (kQ (kData (kLst (kCons (kC (.int 8)) (kCons (kC (.int 40)) kNil))))) (kData (kCallD d_law_mix (kCons (gVar 0) (kCons (kBin gAdd (gVar 1) (kC (.int 3))) (kCons (kC (.int 2)) kNil)))))) kNil))))) (kIx (kQ (kData (kLst (kCons (kC (.int 0)) (kCons (kC (.int 0)) (kCons (kC (.int 4)) kNil)))))) (kData (kCallD d_law_mix (kCons (gVar 0) (kCons (kBin gAdd (kBin gAdd (gVar 1) (kC (.int 70))) (gVar 7)) (kCons (kC (.int 3)) kNil)))))))))))
  (zSeq (zSetR 9 (kLst kNil))
  (zSeq (zSet 10 (gVar 3))
  (zSeq (zFor (kRange1 (kCons (gVar 4) kNil)) (sName 11) (zSeq (zSet 12 (kData (kCallD d_law_mix (kCons (gVar 0) (kCons (kBin gAdd (kBin gAdd (gVar 1) (kC (.int 80))) (gVar 11)) (kCons (kIx (kQ (kData (kLst (kCons (kC (.int 3)) (kCons (kC (.int 13)) kNil))))) (kData (kCallD d_law_mix (kCons (gVar 0) (kCons (kBin gAdd (gVar 1) (kC (.int 4))) (kCons (kC (.int 2)) kNil)))))) kNil))))))
  (zSeq (zSet 12 (kData (kCall gMin2 (kCons (gVar 12) (kCons (kBin gSub (gVar 10) (kC (.int 1))) kNil)))))
  (zSeq (zSet 10 (kBin gDiv (gVar 10) (kBin gAdd (gVar 12) (kC (.int 1)))))
  (zApp 9 (gVar 12))))))
  (zSeq (zSet 13 (kData (kComp (List.map (fun x => x.2) ([("k", 11)] : List (Str × Nat))) (kRange1 (kCons (gVar 4) kNil)) (sName 11) kYes (kBin gSub (kData (kCallD d_law_mix (kCons (gVar 0) (kCons (kBin gAdd (kBin gAdd (gVar 1) (kC (.int 90))) (gVar 11)) (kCons (kIx (kQ (kData (kLst (kCons (kC (.int 5)) (kCons (kC (.int 41)) kNil))))) (kData (kCallD d_law_mix (kCons (gVar 0) (kCons (kBin gAdd (gVar 1) (kC (.int 5))) (kCons (kC (.int 2)) kNil)))))) kNil))))) (kIx (kQ (kData (kLst (kCons (kC (.int 1)) (kCons (kC (.int 20)) kNil))))) (kData (kCallD d_law_mix (kCons (gVar 0) (kCons (kBin gAdd (gVar 1) (kC (.int 5))) (kCons (kC (.int 2)) kNil))))))))))
  (zIce 9 (zIce 6 (zIce 5 (zRet (kFr (kTup (kCons (gVar 13) (kCons (gVar 5) (kCons (gVar 6) (kCons (gVar 9) kNil))))))))))))))))))
def d_law_task : List D → Option Res := dFn 4 14 b_law_task
def b_law_sum_by : Rho → Option Fl :=
  (zRet (kCall gSum (kRL (kComp (List.map (fun x => x.2) ([("k", 2)] : List (Str × Nat))) (kRange1 (kCons (kData (kCall gLen (kQ (gVar 0)))) kNil)) (sName 2) kYes (kBin gMul (kIx (kQ (gVar 0)) (gVar 2)) (kIx (kQ (gVar 1)) (gVar 2)))))))
def d_law_sum_by : List D → Option Res := dFn 2 3 b_law_sum_by
def b_law_is_plan : Rho → Option Fl :=
  (zSeq (zAsg (gVar 0) (sTup 4 (sCons (sName 2) (sCons (sName 3) (sCons (sName 4) (sCons (sName 5) sNil))))))
  (zSeq (zIf (kOr (kB (kBin gNeA (kData (kCall gLen (kQ (gVar 1)))) (kData (kCall gLen (kQ (gVar 5)))))) (kB (kBin gGt (kData (kCall gLen (kQ (kData (kComp (List.map (fun x => x.2) ([("k", 6)] : List (Str × Nat))) (kRange1 (kCons (kData (kCall gLen (kQ (gVar 5)))) kNil)) (sName 6) (kNot (kB (kChain gLe gLe (kC (.int 0)) (kIx (kQ (gVar 1)) (gVar 6)) (kIx (kQ (gVar 5)) (gVar 6))))) (gVar 6)))))) (kC (.int 0))))) (zRet (kFr (kC (.bool false)))) zNext)
  (zRet (kFr (kBin gEqA (kData (kCall gLen (kQ (kData (kComp (List.map (fun x => x.2) ([("i", 7)] : List (Str × Nat))) (kRange1 (kCons (kData (kCall gLen (kQ (gVar 3)))) kNil)) (sName 7) (kB (kBin gGt (kData (kCallD d_law_sum_by (kCons (kIx (kQ (gVar 3)) (gVar 7)) (kCons (gVar 1) kNil)))) (kIx (kQ (gVar 4)) (gVar 7)))) (gVar 7)))))) (kC (.int 0)))))))
def d_law_is_plan : List D → Option Res := dFn 2 8 b_law_is_plan
def b_law_plans : Rho → Option Fl :=
  (zSeq (zSet 1 (kData (kLst (kCons (kTup kNil) kNil))))
  (zSeq (zFor (kQ (kIx (kQ (gVar 0)) (kC (.int 3)))) (sName 2) (zSeq (zSet 3 (kData (kLst kNil)))
  (zSeq (zFor (kQ (gVar 1)) (sName 4) (zSet 3 (kBin gAdd (gVar 3) (kData (kComp (List.map (fun x => x.2) ([("number", 5)] : List (Str × Nat))) (kRange1 (kCons (kBin gAdd (gVar 2) (kC (.int 1))) kNil)) (sName 5) kYes (kBin gAdd (gVar 4) (kTup (kCons (gVar 5) kNil))))))))
  (zSet 1 (gVar 3)))))
  (zRet (kComp (List.map (fun x => x.2) ([("told", 4)] : List (Str × Nat))) (kQ (gVar 1)) (sName 4) (kB (kData (kCallD d_law_is_plan (kCons (gVar 0) (kCons (gVar 4) kNil))))) (gVar 4)))))
def d_law_plans : List D → Option Res := dFn 1 6 b_law_plans
def b_law_ends : Rho → Option Fl :=
  (zSeq (zAsg (gVar 0) (sTup 4 (sCons (sName 2) (sCons (sName 3) (sCons (sName 4) (sCons (sName 5) sNil))))))
  (zSeq (zSet 6 (kData (kCall gSum (kRL (kComp (List.map (fun x => x.2) ([("k", 7)] : List (Str × Nat))) (kRange1 (kCons (kData (kCall gLen (kQ (gVar 5)))) kNil)) (sName 7) kYes (kData (kCall gMin2 (kCons (kC (.int 0)) (kCons (kBin gMul (kIx (kQ (kIx (kQ (gVar 3)) (gVar 1))) (gVar 7)) (kIx (kQ (gVar 5)) (gVar 7))) kNil)))))))))
  (zRet (kFr (kTup (kCons (gVar 6) (kCons (kData (kCall gSum (kRL (kComp (List.map (fun x => x.2) ([("k", 7)] : List (Str × Nat))) (kRange1 (kCons (kData (kCall gLen (kQ (gVar 5)))) kNil)) (sName 7) kYes (kData (kCall gMax2 (kCons (kC (.int 0)) (kCons (kBin gMul (kIx (kQ (kIx (kQ (gVar 3)) (gVar 1))) (gVar 7)) (kIx (kQ (gVar 5)) (gVar 7))) kNil)))))))) kNil)))))))
def d_law_ends : List D → Option Res := dFn 2 8 b_law_ends
def b_law_fixes : Rho → Option Fl :=
  (zSeq (zAsg (gVar 0) (sTup 4 (sCons (sName 3) (sCons (sName 4) (sCons (sName 5) (sCons (sName 6) sNil))))))
  (zSeq (zSet 7 (kData (kComp (List.map (fun x => x.2) ([("row", 9)] : List (Str × Nat))) (kQ (gVar 4)) (sName 9) kYes (kIx (kQ (gVar 9)) (gVar 1)))))
  (zSeq (zSet 8 (vAnd (kBin gEqA (gVar 2) (kIx (kQ (gVar 6)) (gVar 1))) (vOr (kBin gEqA (gVar 2) (kC (.int 0))) (vAnd (kBin gGe (kIx (kQ (gVar 3)) (gVar 1)) (kC (.int 0))) (kBin gLe (kData (kCall gMax (kL (kBin gAdd (gVar 7) (kData (kLst (kCons (kC (.int 0)) kNil))))))) (kC (.int 0)))))))
  (zRet (kFr (vOr (gVar 8) (vAnd (kBin gEqA (gVar 2) (kC (.int 0))) (vAnd (kBin gLe (kIx (kQ (gVar 3)) (gVar 1)) (kC (.int 0))) (kBin gGe (kData (kCall gMin (kL (kBin gAdd (gVar 7) (kData (kLst (kCons (kC (.int 0)) kNil))))))) (kC (.int 0)))))))))))
def d_law_fixes : List D → Option Res := dFn 3 10 b_law_fixes
def b_law_behind : Rho → Option Fl :=
  (zSeq (zAsg (gVar 0) (sTup 3 (sCons (sName 2) (sCons (sName 3) (sCons (sName 4) sNil)))))
  (zSeq (zAsg (gVar 3) (sTup 4 (sCons (sName 5) (sCons (sName 6) (sCons (sName 7) (sCons (sName 8) sNil))))))
  (zSeq (zIf (kAnd (kB (kBin gInA (kIx (kQ (gVar 1)) (kC (.int 0))) (kData (kLst (kCons (kC (.str "row")) (kCons (kC (.str "none")) kNil)))))) (kAnd (kB (kBin gEqA (kData (kCall gLen (kQ (gVar 1)))) (kC (.int 2)))) (kB (kChain gLe gLt (kC (.int 0)) (kIx (kQ (gVar 1)) (kC (.int 1))) (kData (kCall gLen (kQ (gVar 6)))))))) (zSeq (zAsg (kData (kCallD d_law_ends (kCons (gVar 3) (kCons (kIx (kQ (gVar 1)) (kC (.int 1))) kNil)))) (sTup 2 (sCons (sName 9) (sCons (sName 10) sNil))))
  (zSeq (zIf (kAnd (kB (kBin gEqA (kIx (kQ (gVar 1)) (kC (.int 0))) (kC (.str "none")))) (kB (kBin gGt (gVar 9) (kIx (kQ (gVar 7)) (kIx (kQ (gVar 1)) (kC (.int 1))))))) (zRet (kFr (gVar 0))) zNext)
  (zIf (kAnd (kB (kBin gEqA (kIx (kQ (gVar 1)) (kC (.int 0))) (kC (.str "row")))) (kB (kBin gLe (gVar 10) (kIx (kQ (gVar 7)) (kIx (kQ (gVar 1)) (kC (.int 1))))))) (zSeq (zSet 11 (kData (kComp (List.map (fun x => x.2) ([("i", 16)] : List (Str × Nat))) (kRange1 (kCons (kData (kCall gLen (kQ (gVar 6)))) kNil)) (sName 16) (kB (kBin gNeA (gVar 16) (kIx (kQ (gVar 1)) (kC (.int 1))))) (gVar 16))))
  (zRet (kFr (kTup (kCons (gVar 2) (kCons (kTup (kCons (gVar 5) (kCons (kData (kComp (List.map (fun x => x.2) ([("i", 16)] : List (Str × Nat))) (kQ (gVar 11)) (sName 16) kYes (kIx (kQ (gVar 6)) (gVar 16)))) (kCons (kData (kComp (List.map (fun x => x.2) ([("i", 16)] : List (Str × Nat))) (kQ (gVar 11)) (sName 16) kYes (kIx (kQ (gVar 7)) (gVar 16)))) (kCons (gVar 8) kNil))))) (kCons (gVar 4) kNil))))))) zNext))) zNext)
  (zSeq (zIf (kAnd (kB (kBin gEqA (kData (kCall gLen (kQ (gVar 1)))) (kC (.int 3)))) (kB (kChain gLe gLt (kC (.int 0)) (kIx (kQ (gVar 1)) (kC (.int 1))) (kData (kCall gLen (kQ (gVar 2))))))) (zSeq (zSet 12 (kIx (kQ (gVar 1)) (kC (.int 1))))
  (zSeq (zIf (kAnd (kB (kBin gEqA (kIx (kQ (gVar 1)) (kC (.int 0))) (kC (.str "top")))) (kAnd (kB (kChain gLe gLt (kC (.int 0)) (kIx (kQ (gVar 1)) (kC (.int 2))) (kData (kCall gLen (kQ (gVar 6)))))) (kB (kBin gGt (kIx (kQ (kIx (kQ (gVar 6)) (kIx (kQ (gVar 1)) (kC (.int 2))))) (gVar 12)) (kC (.int 0)))))) (zSeq (zSet 13 (kBin gSub (kIx (kQ (gVar 7)) (kIx (kQ (gVar 1)) (kC (.int 2)))) (kIx (kQ (kData (kCallD d_law_ends (kCons (gVar 3) (kCons (kIx (kQ (gVar 1)) (kC (.int 2))) kNil))))) (kC (.int 0)))))
  (zIf (kAnd (kB (kBin gLe (kC (.int 0)) (gVar 13))) (kB (kBin gLt (kBin gDiv (gVar 13) (kIx (kQ (kIx (kQ (gVar 6)) (kIx (kQ (gVar 1)) (kC (.int 2))))) (gVar 12))) (kIx (kQ (gVar 8)) (gVar 12))))) (zRet (kFr (kTup (kCons (gVar 2) (kCons (kTup (kCons (gVar 5) (kCons (gVar 6) (kCons (gVar 7) (kCons (kBin gAdd (kBin gAdd (kData (kSlA (gVar 8) kO0 (kO1 (gVar 12)))) (kData (kLst (kCons (kBin gDiv (gVar 13) (kIx (kQ (kIx (kQ (gVar 6)) (kIx (kQ (gVar 1)) (kC (.int 2))))) (gVar 12))) kNil)))) (kData (kSlA (gVar 8) (kO1 (kBin gAdd (gVar 12) (kC (.int 1)))) kO0))) kNil))))) (kCons (gVar 4) kNil)))))) zNext)) zNext)
  (zIf (kAnd (kB (kBin gEqA (kIx (kQ (gVar 1)) (kC (.int 0))) (kC (.str "fix")))) (kAnd (kB (kBin gGt (kData (kCall gLen (kQ (gVar 2)))) (kC (.int 1)))) (kB (kData (kCallD d_law_fixes (kCons (gVar 3) (kCons (gVar 12) (kCons (kIx (kQ (gVar 1)) (kC (.int 2))) kNil)))))))) (zSeq (zSet 11 (kData (kComp (List.map (fun x => x.2) ([("j", 17)] : List (Str × Nat))) (kRange1 (kCons (kData (kCall gLen (kQ (gVar 2)))) kNil)) (sName 17) (kB (kBin gNeA (gVar 17) (gVar 12))) (gVar 17))))
  (zSeq (zSet 14 (kData (kComp (List.map (fun x => x.2) ([("i", 16)] : List (Str × Nat))) (kRange1 (kCons (kData (kCall gLen (kQ (gVar 6)))) kNil)) (sName 16) kYes (kBin gSub (kIx (kQ (gVar 7)) (gVar 16)) (kBin gMul (kIx (kQ (kIx (kQ (gVar 6)) (gVar 16))) (gVar 12)) (kIx (kQ (gVar 1)) (kC (.int 2))))))))
  (zSeq (zSet 15 (kTup (kCons (kData (kComp (List.map (fun x => x.2) ([("j", 17)] : List (Str × Nat))) (kQ (gVar 11)) (sName 17) kYes (kIx (kQ (gVar 5)) (gVar 17)))) (kCons (kData (kComp (List.map (fun x => x.2) ([("row", 18)] : List (Str × Nat))) (kQ (gVar 6)) (sName 18) kYes (kData (kComp (List.map (fun x => x.2) ([("j", 17)] : List (Str × Nat))) (kQ (gVar 11)) (sName 17) kYes (kIx (kQ (gVar 18)) (gVar 17)))))) (kCons (gVar 14) (kCons (kData (kComp (List.map (fun x => x.2) ([("j", 17)] : List (Str × Nat))) (kQ (gVar 11)) (sName 17) kYes (kIx (kQ (gVar 8)) (gVar 17)))) kNil))))))
  (zRet (kTp (kComp (List.map (fun x => x.2) ([("j", 17)] : List (Str × Nat))) (kQ (gVar 11)) (sName 17) kYes (kIx (kQ (gVar 2)) (gVar 17))) (kCons (gVar 15) (kCons (kData (kCall gSorted (kL (kBin gAdd (gVar 4) (kData (kLst (kCons (kTup (kCons (kIx (kQ (gVar 2)) (gVar 12)) (kCons (kIx (kQ (gVar 1)) (kC (.int 2))) kNil))) kNil))))))) kNil))))))) zNext))) zNext)
  (zRet (kFr (kC .none)))))))
def d_law_behind : List D → Option Res := dFn 2 19 b_law_behind
def b_law_tried : Rho → Option Fl :=
  (zSeq (zAsg (gVar 0) (sTup 3 (sCons (sName 1) (sCons (sName 2) (sCons (sName 3) sNil)))))
  (zSeq (zSet 4 (kData (kListRg1 (kCons (kData (kCall gLen (kQ (kIx (kQ (gVar 2)) (kC (.int 1)))))) kNil))))
  (zSeq (zSet 5 (kBin gAdd (kData (kComp (List.map (fun x => x.2) ([("i", 7)] : List (Str × Nat))) (kQ (gVar 4)) (sName 7) kYes (kTup (kCons (kC (.str "none")) (kCons (gVar 7) kNil))))) (kData (kComp (List.map (fun x => x.2) ([("i", 7)] : List (Str × Nat))) (kQ (gVar 4)) (sName 7) kYes (kTup (kCons (kC (.str "row")) (kCons (gVar 7) kNil)))))))
  (zSeq (zFor (kRange1 (kCons (kData (kCall gLen (kQ (gVar 1)))) kNil)) (sName 6) (zSet 5 (kBin gAdd (gVar 5) (kData (kComp (List.map (fun x => x.2) ([("i", 7)] : List (Str × Nat))) (kQ (gVar 4)) (sName 7) kYes (kTup (kCons (kC (.str "top")) (kCons (gVar 6) (kCons (gVar 7) kNil)))))))))
  (zSeq (zFor (kRange1 (kCons (kData (kCall gLen (kQ (gVar 1)))) kNil)) (sName 6) (zSet 5 (kBin gAdd (gVar 5) (kData (kLst (kCons (kTup (kCons (kC (.str "fix")) (kCons (gVar 6) (kCons (kIx (kQ (kIx (kQ (gVar 2)) (kC (.int 3)))) (gVar 6)) kNil)))) (kCons (kTup (kCons (kC (.str "fix")) (kCons (gVar 6) (kCons (kC (.int 0)) kNil)))) kNil)))))))
  (zRet (kFr (gVar 5))))))))
def d_law_tried : List D → Option Res := dFn 1 8 b_law_tried
def b_law_best : Rho → Option Fl :=
  (zSeq (zSet 1 (kData (kComp (List.map (fun x => x.2) ([("plan", 2)] : List (Str × Nat))) (kQ (kData (kCallD d_law_plans (kCons (gVar 0) kNil)))) (sName 2) kYes (kData (kCallD d_law_sum_by (kCons (kIx (kQ (gVar 0)) (kC (.int 0))) (kCons (gVar 2) kNil)))))))
  (zRet (kCall gMax (kL (kBin gAdd (gVar 1) (kData (kLst (kCons (kUn gNeg (kC (.int 100000))) kNil))))))))
def d_law_best : List D → Option Res := dFn 1 3 b_law_best
def b_law_kept : Rho → Option Fl :=
  (zSeq (zIf (kB (kBin gEqA (kIx (kQ (gVar 2)) (kC (.int 0))) (kC (.str "none")))) (zRet (kFr (kBin gEqA (kData (kCallD d_law_plans (kCons (kIx (kQ (gVar 1)) (kC (.int 1))) kNil))) (kData (kLst kNil))))) zNext)
  (zSeq (zSet 4 (kData (kCall gSum (kRL (kComp (List.map (fun x => x.2) ([("name", 8), ("value", 9)] : List (Str × Nat))) (kQ (kIx (kQ (gVar 1)) (kC (.int 2)))) (sTup 2 (sCons (sName 8) (sCons (sName 9) sNil))) kYes (kBin gMul (kIx (kQ (kIx (kQ (gVar 0)) (kC (.int 0)))) (gVar 8)) (gVar 9)))))))
  (zSeq (zSet 5 (kData (kCall gSum (kRL (kComp (List.map (fun x => x.2) ([("name", 8), ("value", 9)] : List (Str × Nat))) (kQ (kIx (kQ (gVar 3)) (kC (.int 2)))) (sTup 2 (sCons (sName 8) (sCons (sName 9) sNil))) kYes (kBin gMul (kIx (kQ (kIx (kQ (gVar 0)) (kC (.int 0)))) (gVar 8)) (gVar 9)))))))
  (zSeq (zSet 6 (kData (kCallD d_law_best (kCons (kIx (kQ (gVar 1)) (kC (.int 1))) kNil))))
  (zSeq (zSet 7 (kData (kCallD d_law_best (kCons (kIx (kQ (gVar 3)) (kC (.int 1))) kNil))))
  (zRet (kFr (vOr (vAnd (kBin gEqA (gVar 6) (kUn gNeg (kC (.int 100000)))) (kBin gEqA (gVar 7) (kUn gNeg (kC (.int 100000))))) (vAnd (kBin gEqA (kBin gAdd (gVar 6) (gVar 4)) (kBin gAdd (gVar 7) (gVar 5))) (kBin gGt (gVar 7) (kUn gNeg (kC (.int 100000)))))))))))))
def d_law_kept : List D → Option Res := dFn 4 10 b_law_kept
def b_law (K : PySem.W.Frag) : Rho → Option Fl :=
  (zSeq (zSet 1 (kData (kCallSc K (d_law_draws K) 0)))
  (zSeq (zSet 2 (kData (kCallD d_law_task (kCons (gVar 1) (kCons (kC (.int 10)) (kCons (kC (.int 5)) (kCons (kC (.int 300)) kNil)))))))
  (zSeq (zSet 3 (kData (kCall gRepr (kCons (gVar 2) kNil))))
  (zSeq (zSet 4 (kTup (kCons (kData (kListRg1 (kCons (kData (kCall gLen (kQ (kIx (kQ (gVar 2)) (kC (.int 0)))))) kNil))) (kCons (gVar 2) (kCons (kData (kLst kNil)) kNil)))))
  (zSeq (zIf (kB (kBin gNeA (kData (kCall gRepr (kCons (kData (kCallD d_start (kCons (gVar 2) kNil))) kNil))) (kData (kCall gRepr (kCons (gVar 4) kNil))))) (zRet (kFr (kC (.bool false)))) zNext)
  (zSeq (zSet 5 (gVar 4))
  (zSeq (zSetR 6 (kLst kNil))
  (zSeq (zSet 7 (kC (.bool true)))
  (zSeq (zWhile wN (kB (gVar 7)) (zSeq (zSet 8 (kData (kComp (List.map (fun x => x.2) ([("step", 20)] : List (Str × Nat))) (kQ (kData (kCallD d_law_tried (kCons (gVar 5) kNil)))) (sName 20) (kB (kBin gIsNot (kData (kCallD d_law_behind (kCons (gVar 5) (kCons (gVar 20) kNil)))) (kC .none))) (gVar 20))))
  (zSeq (zSet 7 (kBin gNeA (gVar 8) (kData (kLst kNil))))
  (zIf (kB (gVar 7)) (zSeq (zSet 9 (kData (kCallD d_law_behind (kCons (gVar 5) (kCons (kIx (kQ (gVar 8)) (kC (.int 0))) kNil)))))
  (zSeq (zIf (kOr (kB (kBin gNeA (kData (kCall gRepr (kCons (kData (kCallD d_behind (kCons (gVar 5) (kCons (kIx (kQ (gVar 8)) (kC (.int 0))) kNil)))) kNil))) (kData (kCall gRepr (kCons (gVar 9) kNil))))) (kNot (kB (kData (kCallD d_law_kept (kCons (gVar 2) (kCons (gVar 5) (kCons (kIx (kQ (gVar 8)) (kC (.int 0))) (kCons (gVar 9) kNil))))))))) (zRet (kFr (kC (.bool false)))) zNext)
  (zSeq (zSet 10 (kBin gAdd (kData (kCallD d_law_tried (kCons (gVar 5) kNil))) (kData (kLst (kCons (kTup (kCons (kC (.str "row")) (kCons (kC (.int 99)) kNil))) (kCons (kTup (kCons (kC (.str "top")) (kCons (kC (.int 0)) (kCons (kC (.int 99)) kNil)))) (kCons (kTup (kCons (kC (.str "top")) (kCons (kUn gNeg (kC (.int 1))) (kCons (kC (.int 0)) kNil)))) (kCons (kTup (kCons (kC (.str "fix")) (kCons (kC (.int 9)) (kCons (kC (.int 0)) kNil)))) (kCons (kTup (kCons (kC (.str "none")) kNil)) (kCons (kTup (kCons (kC (.str "cut")) (kCons (kC (.int 0)) kNil))) (kCons (kTup (kCons (kC (.str "fix")) (kCons (kC (.int 0)) (kCons (kC (.int 13)) kNil)))) kNil)))))))))))
  (zSeq (zFor (kRange1 (kCons (kC (.int 5)) kNil)) (sName 11) (zSeq (zSet 12 (kIx (kQ (gVar 10)) (kData (kCallD d_law_mix (kCons (gVar 1) (kCons (kBin gAdd (kBin gAdd (kC (.int 300)) (kBin gMul (kC (.int 6)) (kData (kCall gLen (gLst 6))))) (gVar 11)) (kCons (kData (kCall gLen (kQ (gVar 10)))) kNil)))))))
  (zIf (kB (kBin gNeA (kData (kCall gRepr (kCons (kData (kCallD d_behind (kCons (gVar 5) (kCons (gVar 12) kNil)))) kNil))) (kData (kCall gRepr (kCons (kData (kCallD d_law_behind (kCons (gVar 5) (kCons (gVar 12) kNil)))) kNil))))) (zRet (kFr (kC (.bool false)))) zNext)))
  (zSeq (zApp 6 (kIx (kQ (gVar 8)) (kC (.int 0))))
  (zSeq (zSet 5 (gVar 9))
  (zSet 7 (kBin gNeA (kIx (kQ (kIx (kQ (gVar 8)) (kC (.int 0)))) (kC (.int 0))) (kC (.str "none")))))))))) zNext))))
  (zIce 6 (zSeq (zIf (kB (kBin gNeA (kData (kCall gRepr (kCons (kData (kCallD d_worn (kCons (gVar 2) kNil))) kNil))) (kData (kCall gRepr (kCons (kTup (kCons (gVar 6) (kCons (gVar 5) kNil))) kNil))))) (zRet (kFr (kC (.bool false)))) zNext)
  (zSeq (zSet 13 (kData (kCall gSum (kRL (kComp (List.map (fun x => x.2) ([("name", 16), ("value", 17)] : List (Str × Nat))) (kQ (kIx (kQ (gVar 5)) (kC (.int 2)))) (sTup 2 (sCons (sName 16) (sCons (sName 17) sNil))) kYes (kBin gMul (kIx (kQ (kIx (kQ (gVar 2)) (kC (.int 0)))) (gVar 16)) (gVar 17)))))))
  (zSeq (zIf (kB (kBin gNeA (kData (kCall gRepr (kCons (kData (kCallD d_fixed_gain (kCons (gVar 2) (kCons (gVar 5) kNil)))) kNil))) (kData (kCall gRepr (kCons (gVar 13) kNil))))) (zRet (kFr (kC (.bool false)))) zNext)
  (zSeq (zFor (kQ (kData (kSlA (kData (kCallD d_law_plans (kCons (kIx (kQ (gVar 5)) (kC (.int 1))) kNil))) kO0 (kO1 (kC (.int 5)))))) (sName 14) (zSeq (zDnew 15)
  (zSeq (zFor (kQ (kIx (kQ (gVar 5)) (kC (.int 2)))) (sTup 2 (sCons (sName 16) (sCons (sName 17) sNil))) (zDput 15 (gVar 17) (gVar 16)))
  (zSeq (zFor (kRange1 (kCons (kData (kCall gLen (kQ (gVar 14)))) kNil)) (sName 18) (zDput 15 (kIx (kQ (gVar 14)) (gVar 18)) (kIx (kQ (kIx (kQ (gVar 5)) (kC (.int 0)))) (gVar 18))))
  (zSeq (zSet 19 (kData (kCall gTuple (kRL (kComp (List.map (fun x => x.2) ([("name", 16)] : List (Str × Nat))) (kRange1 (kCons (kData (kCall gLen (kQ (kIx (kQ (gVar 2)) (kC (.int 0)))))) kNil)) (sName 16) kYes (kDget 15 (gVar 16)))))))
  (zIf (kOr (kB (kBin gNeA (kData (kCall gRepr (kCons (kData (kCallD d_whole_plan (kCons (gVar 5) (kCons (gVar 14) kNil)))) kNil))) (kData (kCall gRepr (kCons (gVar 19) kNil))))) (kOr (kNot (kB (kData (kCallD d_law_is_plan (kCons (gVar 2) (kCons (gVar 19) kNil)))))) (kB (kBin gNeA (kData (kCallD d_law_sum_by (kCons (kIx (kQ (gVar 2)) (kC (.int 0))) (kCons (gVar 19) kNil)))) (kBin gAdd (gVar 13) (kData (kCallD d_law_sum_by (kCons (kIx (kQ (kIx (kQ (gVar 5)) (kC (.int 1)))) (kC (.int 0))) (kCons (gVar 14) kNil))))))))) (zRet (kFr (kC (.bool false)))) zNext))))))
  (zSeq (zTapp (kCallD d_start (kCons (gVar 2) kNil)) (kC (.int 0)))
  (zSeq (zTapp (kCallD d_worn (kCons (gVar 2) kNil)) (kC (.int 0)))
  (zIce 6 (zRet (kFr (vAnd (kBin gEqA (kData (kCall gRepr (kCons (kData (kCallD d_worn (kCons (gVar 2) kNil))) kNil))) (kData (kCall gRepr (kCons (kTup (kCons (gVar 6) (kCons (gVar 5) kNil))) kNil)))) (kBin gEqA (kData (kCall gRepr (kCons (gVar 2) kNil))) (gVar 3))))))))))))))))))))))
def d_law (K : PySem.W.Frag) : List Int → Option Res := dSc K 21 (b_law K)
end
end K80

set_option Elab.async false
set_option linter.all false
set_option maxRecDepth 100000
set_option maxHeartbeats 2000000
namespace K80
open PySem PySem.Spec L2 DL
def top (i : Nat) : Stmt := PySem.Challenge.pw_wholebest_k80_states_and_steps_with_reas.main.body.getD i (.Pass ⟨0, 0, 0, 0⟩)
structure Mg (mg : Str → Option Value) : Prop where
  c_MOST_LIMIT : ∃ t, mg "MOST_LIMIT" = some (.int 200 t)
  c_MOST_NUMBER : ∃ t, mg "MOST_NUMBER" = some (.int 20 t)
  c_MOST_TOP : ∃ t, mg "MOST_TOP" = some (.int 12 t)
  c_MOST_TUPLES : ∃ t, mg "MOST_TUPLES" = some (.int 20000 t)
  c_MOST_UNKNOWNS : ∃ t, mg "MOST_UNKNOWNS" = some (.int 6 t)
  n_abs : mg "abs" = none
  n_all : mg "all" = none
  n_any : mg "any" = none
  n_enumerate : mg "enumerate" = none
  n_int : mg "int" = none
  n_len : mg "len" = none
  n_list : mg "list" = none
  n_max : mg "max" = none
  n_min : mg "min" = none
  n_range : mg "range" = none
  n_repr : mg "repr" = none
  n_sorted : mg "sorted" = none
  n_sum : mg "sum" = none
  n_tuple : mg "tuple" = none
  n_zip : mg "zip" = none
section
variable {P : Program} {w : World} {K : PySem.W.Frag} {mg : Str → Option Value} {base : Heap} {IsX : XIs}
abbrev s_are_numbers : Stmt := top 14
abbrev N_are_numbers : List Str := ["told", "many", "number"]
abbrev p_are_numbers : List Str := ["told", "many"]
theorem sc_are_numbers : FnScope N_are_numbers p_are_numbers (defScope s_are_numbers) := ⟨rfl, rfl, rfl, by decide +kernel, rfl, by decide +kernel, by decide +kernel⟩
theorem ok_are_numbers {f : Addr} {fd : FuncData} (M : Mg mg) (F : FunD K "are_numbers" "are_numbers" (defArgs s_are_numbers) (defBody s_are_numbers) (defScope s_are_numbers) [] [] f fd) : FnOk P w K mg base CX0 1 f fd p_are_numbers (spD IsX d_are_numbers) :=
  fn_ok F sc_are_numbers fun wx cdv A outer s H E hr => by
    have sc := sc_are_numbers
    have hu := room_hu hr
    exact (DSs.one (DS.ret (DE.dr (DE.and (DE.cmp (cEqA hu) od_eqA (DR.de (DR.callBQ cr_len cq_len (by rfl) M.n_len boot_len_ (DE.q (DE.var (pv 0))))) (DE.var (pv 1))) (DE.one (DR.de (DR.callBL (cr_all rfl) cl_all (by rfl) M.n_all boot_all_ (DR.ls (DR.lc rfl sc.nd (DIC.seq (DE.q (DE.var (pv 0)))) (blkOk_by (N := N_are_numbers) (sc := (defScope s_are_numbers)) (own := [("number", 2)]) (by decide +kernel)) (fun _ _ _ _ _ => (gN 2 sc.nd)) (fun _ _ _ _ _ => DTs.nil) (fun _ _ _ _ _ => (DE.chain op_le od_le op_le od_le (eNeg (DE.globE (by rfl) M.c_MOST_NUMBER)) (DE.var (pv 2)) (DE.globE (by rfl) M.c_MOST_NUMBER))))))))))))
abbrev s_tuples_within : Stmt := top 15
abbrev N_tuples_within : List Str := ["tops", "found", "top"]
abbrev p_tuples_within : List Str := ["tops"]
theorem sc_tuples_within : FnScope N_tuples_within p_tuples_within (defScope s_tuples_within) := ⟨rfl, rfl, rfl, by decide +kernel, rfl, by decide +kernel, by decide +kernel⟩
theorem ok_tuples_within {f : Addr} {fd : FuncData} (M : Mg mg) (F : FunD K "tuples_within" "tuples_within" (defArgs s_tuples_within) (defBody s_tuples_within) (defScope s_tuples_within) [] [] f fd) : FnOk P w K mg base CX0 1 f fd p_tuples_within (spD IsX d_tuples_within) :=
  fn_ok F sc_tuples_within fun wx cdv A outer s H E hr => by
    have sc := sc_tuples_within
    exact (DSs.cons (DS.set (i := 1) sc.nd rfl (by first | exact .inl rfl | exact .inr rfl) DE.int) (DSs.cons (DS.for_ PassesOwn.never rfl (DIF.seq (DE.var (pv 0))) (gN 2 sc.nd) (Frz.name 2) (DSs.one (DS.set (i := 1) sc.nd rfl (by first | exact .inl rfl | exact .inr rfl) (eMul (DE.var (pv 1)) (eAdd (DE.var (pv 2)) DE.int))))) (DSs.one (DS.ret (DE.dr (DE.var (pv 1)))))))
abbrev s_check_task : Stmt := top 16
abbrev N_check_task : List Str := ["task", "gains", "rows", "limits", "tops", "many", "k", "gain", "i", "row", "limit", "top"]
abbrev p_check_task : List Str := ["task"]
theorem sc_check_task : FnScope N_check_task p_check_task (defScope s_check_task) := ⟨rfl, rfl, rfl, by decide +kernel, rfl, by decide +kernel, by decide +kernel⟩
theorem ok_check_task {f : Addr} {fd : FuncData} (M : Mg mg) (G_are_numbers : FnD P w K mg base IsX CX0 1 "are_numbers" p_are_numbers d_are_numbers) (G_tuples_within : FnD P w K mg base IsX CX0 1 "tuples_within" p_tuples_within d_tuples_within) (F : FunD K "check_task" "check_task" (defArgs s_check_task) (defBody s_check_task) (defScope s_check_task) [] [] f fd) : FnOk P w K mg base CX0 2 f fd p_check_task (spD IsX d_check_task) :=
  fn_ok F sc_check_task fun wx cdv A outer s H E hr => by
    have sc := sc_check_task
    have hu := room_hu hr
    exact (DSs.cons (DS.asg (DE.var (pv 0)) (DG.tup rfl (DGs.cons (gN 1 sc.nd) (DGs.cons (gN 2 sc.nd) (DGs.cons (gN 3 sc.nd) (DGs.cons (gN 4 sc.nd) DGs.nil))))) (Frz.tup (Frzs.cons (Frz.name 1) (Frzs.cons (Frz.name 2) (Frzs.cons (Frz.name 3) (Frzs.cons (Frz.name 4) Frzs.nil)))))) (DSs.cons (DS.set (i := 5) sc.nd rfl (by first | exact .inl rfl | exact .inr rfl) (DR.de (DR.callBQ cr_len cq_len (by rfl) M.n_len boot_len_ (DE.q (DE.var (pv 1)))))) (DSs.cons (DS.ifS (DT.not (DT.chain op_le od_le op_le od_le DE.int (DE.var (pv 5)) (DE.globE (by rfl) M.c_MOST_UNKNOWNS))) (DSs.one DS.never) DSs.nil) (DSs.cons (DS.for_ PassesOwn.never rfl (DIF.enum (by rfl) M.n_enumerate (DE.var (pv 1))) (DG.tup rfl (DGs.cons (gN 6 sc.nd) (DGs.cons (gN 7 sc.nd) DGs.nil))) (Frz.tup (Frzs.cons (Frz.name 6) (Frzs.cons (Frz.name 7) Frzs.nil))) (DSs.one (DS.ifS (DT.not (DT.chain op_le od_le op_le od_le (eNeg (DE.globE (by rfl) M.c_MOST_NUMBER)) (DE.var (pv 7)) (DE.globE (by rfl) M.c_MOST_NUMBER))) (DSs.one DS.never) DSs.nil))) (DSs.cons (DS.for_ PassesOwn.never rfl (DIF.enum (by rfl) M.n_enumerate (DE.var (pv 2))) (DG.tup rfl (DGs.cons (gN 8 sc.nd) (DGs.cons (gN 9 sc.nd) DGs.nil))) (Frz.tup (Frzs.cons (Frz.name 8) (Frzs.cons (Frz.name 9) Frzs.nil))) (DSs.one (DS.ifS (DW.t (DW.or (DT.cmp (cEqA hu) od_eqA (DE.var (pv 8)) (DE.globE (by rfl) M.c_MOST_UNKNOWNS)) (DW.or1 (DT.not (DT.val (DR.de (DR.call G_are_numbers (hr.mono (by decide)) (by rfl) (DA.cons (DE.var (pv 9)) (DA.cons (DE.var (pv 5)) DA.nil))))))))) (DSs.one DS.never) DSs.nil))) (DSs.cons (DS.ifS (DT.cmp (cNeA hu) od_neA (DR.de (DR.callBQ cr_len cq_len (by rfl) M.n_len boot_len_ (DE.q (DE.var (pv 3))))) (DR.de (DR.callBQ cr_len cq_len (by rfl) M.n_len boot_len_ (DE.q (DE.var (pv 2)))))) (DSs.one DS.never) DSs.nil) (DSs.cons (DS.for_ PassesOwn.never rfl (DIF.enum (by rfl) M.n_enumerate (DE.var (pv 3))) (DG.tup rfl (DGs.cons (gN 8 sc.nd) (DGs.cons (gN 10 sc.nd) DGs.nil))) (Frz.tup (Frzs.cons (Frz.name 8) (Frzs.cons (Frz.name 10) Frzs.nil))) (DSs.one (DS.ifS (DT.not (DT.chain op_le od_le op_le od_le (eNeg (DE.globE (by rfl) M.c_MOST_LIMIT)) (DE.var (pv 10)) (DE.globE (by rfl) M.c_MOST_LIMIT))) (DSs.one DS.never) DSs.nil))) (DSs.cons (DS.ifS (DT.cmp (cNeA hu) od_neA (DR.de (DR.callBQ cr_len cq_len (by rfl) M.n_len boot_len_ (DE.q (DE.var (pv 4))))) (DE.var (pv 5))) (DSs.one DS.never) DSs.nil) (DSs.cons (DS.for_ PassesOwn.never rfl (DIF.enum (by rfl) M.n_enumerate (DE.var (pv 4))) (DG.tup rfl (DGs.cons (gN 6 sc.nd) (DGs.cons (gN 11 sc.nd) DGs.nil))) (Frz.tup (Frzs.cons (Frz.name 6) (Frzs.cons (Frz.name 11) Frzs.nil))) (DSs.one (DS.ifS (DT.not (DT.chain op_le od_le op_le od_le DE.int (DE.var (pv 11)) (DE.globE (by rfl) M.c_MOST_TOP))) (DSs.one DS.never) DSs.nil))) (DSs.one (DS.ifS (DT.cmp op_gt od_gt (DR.de (DR.call G_tuples_within (hr.mono (by decide)) (by rfl) (DA.cons (DE.var (pv 4)) DA.nil))) (DE.globE (by rfl) M.c_MOST_TUPLES)) (DSs.one DS.never) DSs.nil)))))))))))
abbrev s_start_of : Stmt := top 18
abbrev N_start_of : List Str := ["task", "gains", "rows", "limits", "tops", "row"]
abbrev p_start_of : List Str := ["task"]
theorem sc_start_of : FnScope N_start_of p_start_of (defScope s_start_of) := ⟨rfl, rfl, rfl, by decide +kernel, rfl, by decide +kernel, by decide +kernel⟩
theorem ok_start_of {f : Addr} {fd : FuncData} (M : Mg mg) (F : FunD K "start_of" "start_of" (defArgs s_start_of) (defBody s_start_of) (defScope s_start_of) [] [] f fd) : FnOk P w K mg base CX0 1 f fd p_start_of (spD IsX d_start_of) :=
  fn_ok F sc_start_of fun wx cdv A outer s H E hr => by
    have sc := sc_start_of
    exact (DSs.cons (DS.asg (DE.var (pv 0)) (DG.tup rfl (DGs.cons (gN 1 sc.nd) (DGs.cons (gN 2 sc.nd) (DGs.cons (gN 3 sc.nd) (DGs.cons (gN 4 sc.nd) DGs.nil))))) (Frz.tup (Frzs.cons (Frz.name 1) (Frzs.cons (Frz.name 2) (Frzs.cons (Frz.name 3) (Frzs.cons (Frz.name 4) Frzs.nil)))))) (DSs.one (DS.ret (DR.tp (DR.listRg1 (by rfl) M.n_list (by rfl) M.n_range (DR.de (DR.callBQ cr_len cq_len (by rfl) M.n_len boot_len_ (DE.q (DE.var (pv 1)))))) (DA.cons (DE.tup (DA.cons (DR.de (DR.callTyQ cr_list cq_list (by rfl) M.n_list boot_list_ (DE.q (DE.var (pv 1))))) (DA.cons (DR.de (DR.lc rfl sc.nd (DIC.seq (DE.q (DE.var (pv 2)))) (blkOk_by (N := N_start_of) (sc := (defScope s_start_of)) (own := [("row", 5)]) (by decide +kernel)) (fun _ _ _ _ _ => (gN 5 sc.nd)) (fun _ _ _ _ _ => DTs.nil) (fun _ _ _ _ _ => (DR.de (DR.callTyQ cr_list cq_list (by rfl) M.n_list boot_list_ (DE.q (DE.var (pv 5)))))))) (DA.cons (DR.de (DR.callTyQ cr_list cq_list (by rfl) M.n_list boot_list_ (DE.q (DE.var (pv 3))))) (DA.cons (DR.de (DR.callTyQ cr_list cq_list (by rfl) M.n_list boot_list_ (DE.q (DE.var (pv 4))))) DA.nil))))) (DA.cons (DR.de (DR.lst DA.nil)) DA.nil))))))
abbrev s_start : Stmt := top 19
abbrev N_start : List Str := ["task"]
abbrev p_start : List Str := ["task"]
theorem sc_start : FnScope N_start p_start (defScope s_start) := ⟨rfl, rfl, rfl, by decide +kernel, rfl, by decide +kernel, by decide +kernel⟩
theorem ok_start {f : Addr} {fd : FuncData} (M : Mg mg) (G_check_task : FnD P w K mg base IsX CX0 2 "check_task" p_check_task d_check_task) (G_start_of : FnD P w K mg base IsX CX0 1 "start_of" p_start_of d_start_of) (F : FunD K "start" "start" (defArgs s_start) (defBody s_start) (defScope s_start) [] [] f fd) : FnOk P w K mg base CX0 3 f fd p_start (spD IsX d_start) :=
  fn_ok F sc_start fun wx cdv A outer s H E hr => by
    have sc := sc_start
    exact (DSs.cons (DS.drop (DR.call G_check_task (hr.mono (by decide)) (by rfl) (DA.cons (DE.var (pv 0)) DA.nil))) (DSs.one (DS.ret (DR.call G_start_of (hr.mono (by decide)) (by rfl) (DA.cons (DE.var (pv 0)) DA.nil)))))
abbrev s_least_sum : Stmt := top 20
abbrev N_least_sum : List Str := ["task", "i", "number", "top"]
abbrev p_least_sum : List Str := ["task", "i"]
theorem sc_least_sum : FnScope N_least_sum p_least_sum (defScope s_least_sum) := ⟨rfl, rfl, rfl, by decide +kernel, rfl, by decide +kernel, by decide +kernel⟩
theorem ok_least_sum {f : Addr} {fd : FuncData} (M : Mg mg) (F : FunD K "least_sum" "least_sum" (defArgs s_least_sum) (defBody s_least_sum) (defScope s_least_sum) [] [] f fd) : FnOk P w K mg base CX0 1 f fd p_least_sum (spD IsX d_least_sum) :=
  fn_ok F sc_least_sum fun wx cdv A outer s H E hr => by
    have sc := sc_least_sum
    exact (DSs.one (DS.ret (DR.callBL (cr_sum rfl) cl_sum (by rfl) M.n_sum boot_sum_ (DR.ls (DR.lc rfl sc.nd (DIF.c (DIF.zip (by rfl) M.n_zip (DE.ix (DE.q (DE.ix (DE.q (DE.var (pv 0))) DE.int)) (DE.var (pv 1))) (DE.ix (DE.q (DE.var (pv 0))) DE.int))) (blkOk_by (N := N_least_sum) (sc := (defScope s_least_sum)) (own := [("number", 2), ("top", 3)]) (by decide +kernel)) (fun _ _ _ _ _ => (DG.tup rfl (DGs.cons (gN 2 sc.nd) (DGs.cons (gN 3 sc.nd) DGs.nil)))) (fun _ _ _ _ _ => (DTs.one (DT.cmp op_lt od_lt (DE.var (pv 2)) DE.int))) (fun _ _ _ _ _ => (eMul (DE.var (pv 2)) (DE.var (pv 3)))))))))
abbrev s_greatest_sum : Stmt := top 21
abbrev N_greatest_sum : List Str := ["task", "i", "number", "top"]
abbrev p_greatest_sum : List Str := ["task", "i"]
theorem sc_greatest_sum : FnScope N_greatest_sum p_greatest_sum (defScope s_greatest_sum) := ⟨rfl, rfl, rfl, by decide +kernel, rfl, by decide +kernel, by decide +kernel⟩
theorem ok_greatest_sum {f : Addr} {fd : FuncData} (M : Mg mg) (F : FunD K "greatest_sum" "greatest_sum" (defArgs s_greatest_sum) (defBody s_greatest_sum) (defScope s_greatest_sum) [] [] f fd) : FnOk P w K mg base CX0 1 f fd p_greatest_sum (spD IsX d_greatest_sum) :=
  fn_ok F sc_greatest_sum fun wx cdv A outer s H E hr => by
    have sc := sc_greatest_sum
    exact (DSs.one (DS.ret (DR.callBL (cr_sum rfl) cl_sum (by rfl) M.n_sum boot_sum_ (DR.ls (DR.lc rfl sc.nd (DIF.c (DIF.zip (by rfl) M.n_zip (DE.ix (DE.q (DE.ix (DE.q (DE.var (pv 0))) DE.int)) (DE.var (pv 1))) (DE.ix (DE.q (DE.var (pv 0))) DE.int))) (blkOk_by (N := N_greatest_sum) (sc := (defScope s_greatest_sum)) (own := [("number", 2), ("top", 3)]) (by decide +kernel)) (fun _ _ _ _ _ => (DG.tup rfl (DGs.cons (gN 2 sc.nd) (DGs.cons (gN 3 sc.nd) DGs.nil)))) (fun _ _ _ _ _ => (DTs.one (DT.cmp op_gt od_gt (DE.var (pv 2)) DE.int))) (fun _ _ _ _ _ => (eMul (DE.var (pv 2)) (DE.var (pv 3)))))))))
abbrev s_without_row : Stmt := top 22
abbrev N_without_row : List Str := ["state", "i", "names", "task", "fixed", "gains", "rows", "limits", "tops", "left", "less", "j", "row", "limit"]
abbrev p_without_row : List Str := ["state", "i"]
theorem sc_without_row : FnScope N_without_row p_without_row (defScope s_without_row) := ⟨rfl, rfl, rfl, by decide +kernel, rfl, by decide +kernel, by decide +kernel⟩
theorem ok_without_row {f : Addr} {fd : FuncData} (M : Mg mg) (G_greatest_sum : FnD P w K mg base IsX CX0 1 "greatest_sum" p_greatest_sum d_greatest_sum) (F : FunD K "without_row" "without_row" (defArgs s_without_row) (defBody s_without_row) (defScope s_without_row) [] [] f fd) : FnOk P w K mg base CX0 2 f fd p_without_row (spD IsX d_without_row) :=
  fn_ok F sc_without_row fun wx cdv A outer s H E hr => by
    have sc := sc_without_row
    have hu := room_hu hr
    exact (DSs.cons (DS.asg (DE.var (pv 0)) (DG.tup rfl (DGs.cons (gN 2 sc.nd) (DGs.cons (gN 3 sc.nd) (DGs.cons (gN 4 sc.nd) DGs.nil)))) (Frz.tup (Frzs.cons (Frz.name 2) (Frzs.cons (Frz.name 3) (Frzs.cons (Frz.name 4) Frzs.nil))))) (DSs.cons (DS.asg (DE.var (pv 3)) (DG.tup rfl (DGs.cons (gN 5 sc.nd) (DGs.cons (gN 6 sc.nd) (DGs.cons (gN 7 sc.nd) (DGs.cons (gN 8 sc.nd) DGs.nil))))) (Frz.tup (Frzs.cons (Frz.name 5) (Frzs.cons (Frz.name 6) (Frzs.cons (Frz.name 7) (Frzs.cons (Frz.name 8) Frzs.nil)))))) (DSs.cons (DS.ifS (DT.cmp op_gt od_gt (DR.de (DR.call G_greatest_sum (hr.mono (by decide)) (by rfl) (DA.cons (DE.var (pv 3)) (DA.cons (DE.var (pv 1)) DA.nil)))) (DE.ix (DE.q (DE.var (pv 7))) (DE.var (pv 1)))) (DSs.one (DS.ret (DE.dr DE.non))) DSs.nil) (DSs.cons (DS.setLcE (i := 9) rfl sc.nd rfl rfl (sw_true rfl rfl rfl (by decide +kernel)) (DIC.enum (by rfl) M.n_enumerate (DE.ls (DE.var (pv 6)))) (blkOk_by (N := N_without_row) (sc := (defScope s_without_row)) (own := [("j", 11), ("row", 12)]) (by decide +kernel)) (fun _ _ _ _ _ => (DG.tup rfl (DGs.cons (gN 11 sc.nd) (DGs.cons (gN 12 sc.nd) DGs.nil)))) (fun _ _ _ _ _ => (DTs.one (DT.cmp (cNeA hu) od_neA (DE.var (pv 11)) (DE.var (pv 1))))) (fun _ _ _ _ _ => (DR.de (DR.callTyQ cr_list cq_list (by rfl) M.n_list boot_list_ (DE.q (DE.var (pv 12))))))) (DSs.cons (DS.setLcE (i := 10) rfl sc.nd rfl rfl (sw_true rfl rfl rfl (by decide +kernel)) (DIC.enum (by rfl) M.n_enumerate (DE.ls (DE.var (pv 7)))) (blkOk_by (N := N_without_row) (sc := (defScope s_without_row)) (own := [("j", 11), ("limit", 13)]) (by decide +kernel)) (fun _ _ _ _ _ => (DG.tup rfl (DGs.cons (gN 11 sc.nd) (DGs.cons (gN 13 sc.nd) DGs.nil)))) (fun _ _ _ _ _ => (DTs.one (DT.cmp (cNeA hu) od_neA (DE.var (pv 11)) (DE.var (pv 1))))) (fun _ _ _ _ _ => (DE.var (pv 13)))) (DSs.one (DS.ret (DR.tp (DR.callTyQ cr_list cq_list (by rfl) M.n_list boot_list_ (DE.q (DE.var (pv 2)))) (DA.cons (DE.tup (DA.cons (DR.de (DR.callTyQ cr_list cq_list (by rfl) M.n_list boot_list_ (DE.q (DE.var (pv 5))))) (DA.cons (DE.var (pv 9)) (DA.cons (DE.var (pv 10)) (DA.cons (DR.de (DR.callTyQ cr_list cq_list (by rfl) M.n_list boot_list_ (DE.q (DE.var (pv 8))))) DA.nil))))) (DA.cons (DR.de (DR.callTyQ cr_list cq_list (by rfl) M.n_list boot_list_ (DE.q (DE.var (pv 4))))) DA.nil))))))))))
abbrev s_lowered : Stmt := top 23
abbrev N_lowered : List Str := ["state", "k", "i", "names", "task", "fixed", "gains", "rows", "limits", "tops", "number", "room", "now", "j", "top", "row"]
abbrev p_lowered : List Str := ["state", "k", "i"]
theorem sc_lowered : FnScope N_lowered p_lowered (defScope s_lowered) := ⟨rfl, rfl, rfl, by decide +kernel, rfl, by decide +kernel, by decide +kernel⟩
theorem ok_lowered {f : Addr} {fd : FuncData} (M : Mg mg) (G_least_sum : FnD P w K mg base IsX CX0 1 "least_sum" p_least_sum d_least_sum) (F : FunD K "lowered" "lowered" (defArgs s_lowered) (defBody s_lowered) (defScope s_lowered) [] [] f fd) : FnOk P w K mg base CX0 2 f fd p_lowered (spD IsX d_lowered) :=
  fn_ok F sc_lowered fun wx cdv A outer s H E hr => by
    have sc := sc_lowered
    have hu := room_hu hr
    exact (DSs.cons (DS.asg (DE.var (pv 0)) (DG.tup rfl (DGs.cons (gN 3 sc.nd) (DGs.cons (gN 4 sc.nd) (DGs.cons (gN 5 sc.nd) DGs.nil)))) (Frz.tup (Frzs.cons (Frz.name 3) (Frzs.cons (Frz.name 4) (Frzs.cons (Frz.name 5) Frzs.nil))))) (DSs.cons (DS.asg (DE.var (pv 4)) (DG.tup rfl (DGs.cons (gN 6 sc.nd) (DGs.cons (gN 7 sc.nd) (DGs.cons (gN 8 sc.nd) (DGs.cons (gN 9 sc.nd) DGs.nil))))) (Frz.tup (Frzs.cons (Frz.name 6) (Frzs.cons (Frz.name 7) (Frzs.cons (Frz.name 8) (Frzs.cons (Frz.name 9) Frzs.nil)))))) (DSs.cons (DS.set (i := 10) sc.nd rfl (by first | exact .inl rfl | exact .inr rfl) (DE.ix (DE.q (DE.ix (DE.q (DE.var (pv 7))) (DE.var (pv 2)))) (DE.var (pv 1)))) (DSs.cons (DS.set (i := 11) sc.nd rfl (by first | exact .inl rfl | exact .inr rfl) (eSub (DE.ix (DE.q (DE.var (pv 8))) (DE.var (pv 2))) (DR.de (DR.call G_least_sum (hr.mono (by decide)) (by rfl) (DA.cons (DE.var (pv 4)) (DA.cons (DE.var (pv 2)) DA.nil)))))) (DSs.cons (DS.ifS (DW.t (DW.or (DT.cmp op_le od_le (DE.var (pv 10)) DE.int) (DW.or (DT.cmp op_lt od_lt (DE.var (pv 11)) DE.int) (DW.or1 (DT.cmp op_ge od_ge (eDiv (DE.var (pv 11)) (DE.var (pv 10))) (DE.ix (DE.q (DE.var (pv 9))) (DE.var (pv 1)))))))) (DSs.one (DS.ret (DE.dr DE.non))) DSs.nil) (DSs.cons (DS.setLcE (i := 12) rfl sc.nd rfl rfl (sw_true rfl rfl rfl (by decide +kernel)) (DIC.enum (by rfl) M.n_enumerate (DE.ls (DE.var (pv 9)))) (blkOk_by (N := N_lowered) (sc := (defScope s_lowered)) (own := [("j", 13), ("top", 14)]) (by decide +kernel)) (fun _ _ _ _ _ => (DG.tup rfl (DGs.cons (gN 13 sc.nd) (DGs.cons (gN 14 sc.nd) DGs.nil)))) (fun _ _ _ _ _ => DTs.nil) (fun _ _ _ _ _ => (DE.ifE (DT.cmp (cEqA hu) od_eqA (DE.var (pv 13)) (DE.var (pv 1))) (eDiv (DE.var (pv 11)) (DE.var (pv 10))) (DE.var (pv 14))))) (DSs.one (DS.ret (DR.tp (DR.callTyQ cr_list cq_list (by rfl) M.n_list boot_list_ (DE.q (DE.var (pv 3)))) (DA.cons (DE.tup (DA.cons (DR.de (DR.callTyQ cr_list cq_list (by rfl) M.n_list boot_list_ (DE.q (DE.var (pv 6))))) (DA.cons (DR.de (DR.lc rfl sc.nd (DIC.seq (DE.q (DE.var (pv 7)))) (blkOk_by (N := N_lowered) (sc := (defScope s_lowered)) (own := [("row", 15)]) (by decide +kernel)) (fun _ _ _ _ _ => (gN 15 sc.nd)) (fun _ _ _ _ _ => DTs.nil) (fun _ _ _ _ _ => (DR.de (DR.callTyQ cr_list cq_list (by rfl) M.n_list boot_list_ (DE.q (DE.var (pv 15)))))))) (DA.cons (DR.de (DR.callTyQ cr_list cq_list (by rfl) M.n_list boot_list_ (DE.q (DE.var (pv 8))))) (DA.cons (DE.var (pv 12)) DA.nil))))) (DA.cons (DR.de (DR.callTyQ cr_list cq_list (by rfl) M.n_list boot_list_ (DE.q (DE.var (pv 5))))) DA.nil)))))))))))
abbrev s_may_fix : Stmt := top 24
abbrev N_may_fix : List Str := ["task", "k", "v", "gains", "rows", "_", "tops", "row"]
abbrev p_may_fix : List Str := ["task", "k", "v"]
theorem sc_may_fix : FnScope N_may_fix p_may_fix (defScope s_may_fix) := ⟨rfl, rfl, rfl, by decide +kernel, rfl, by decide +kernel, by decide +kernel⟩
theorem ok_may_fix {f : Addr} {fd : FuncData} (M : Mg mg) (F : FunD K "may_fix" "may_fix" (defArgs s_may_fix) (defBody s_may_fix) (defScope s_may_fix) [] [] f fd) : FnOk P w K mg base CX0 1 f fd p_may_fix (spD IsX d_may_fix) :=
  fn_ok F sc_may_fix fun wx cdv A outer s H E hr => by
    have sc := sc_may_fix
    have hu := room_hu hr
    exact (DSs.cons (DS.asg (DE.var (pv 0)) (DG.tup rfl (DGs.cons (gN 3 sc.nd) (DGs.cons (gN 4 sc.nd) (DGs.cons (gN 5 sc.nd) (DGs.cons (gN 6 sc.nd) DGs.nil))))) (Frz.tup (Frzs.cons (Frz.name 3) (Frzs.cons (Frz.name 4) (Frzs.cons (Frz.name 5) (Frzs.cons (Frz.name 6) Frzs.nil)))))) (DSs.cons (DS.ifS (DW.t (DW.and (DT.cmp (cEqA hu) od_eqA (DE.var (pv 2)) (DE.ix (DE.q (DE.var (pv 6))) (DE.var (pv 1)))) (DW.and1 (DW.t (DW.or (DT.cmp (cEqA hu) od_eqA (DE.var (pv 2)) DE.int) (DW.or1 (DW.t (DW.and (DT.cmp op_ge od_ge (DE.ix (DE.q (DE.var (pv 3))) (DE.var (pv 1))) DE.int) (DW.and1 (DT.not (DT.val (DR.de (DR.callBL (cr_any rfl) cl_any (by rfl) M.n_any boot_any_ (DR.ls (DR.lc rfl sc.nd (DIC.seq (DE.q (DE.var (pv 4)))) (blkOk_by (N := N_may_fix) (sc := (defScope s_may_fix)) (own := [("row", 7)]) (by decide +kernel)) (fun _ _ _ _ _ => (gN 7 sc.nd)) (fun _ _ _ _ _ => DTs.nil) (fun _ _ _ _ _ => (DE.cmp op_gt od_gt (DE.ix (DE.q (DE.var (pv 7))) (DE.var (pv 1))) DE.int))))))))))))))))) (DSs.one (DS.ret (DE.dr DE.bl))) DSs.nil) (DSs.one (DS.ret (DE.dr (DE.and (DE.cmp (cEqA hu) od_eqA (DE.var (pv 2)) DE.int) (DE.and (DE.cmp op_le od_le (DE.ix (DE.q (DE.var (pv 3))) (DE.var (pv 1))) DE.int) (DE.one (DE.not (DR.de (DR.callBL (cr_any rfl) cl_any (by rfl) M.n_any boot_any_ (DR.ls (DR.lc rfl sc.nd (DIC.seq (DE.q (DE.var (pv 4)))) (blkOk_by (N := N_may_fix) (sc := (defScope s_may_fix)) (own := [("row", 7)]) (by decide +kernel)) (fun _ _ _ _ _ => (gN 7 sc.nd)) (fun _ _ _ _ _ => DTs.nil) (fun _ _ _ _ _ => (DE.cmp op_lt od_lt (DE.ix (DE.q (DE.var (pv 7))) (DE.var (pv 1))) DE.int)))))))))))))))
abbrev s_without_name : Stmt := top 25
abbrev N_without_name : List Str := ["state", "k", "v", "names", "task", "fixed", "gains", "rows", "limits", "tops", "left", "less", "now", "row", "limit"]
abbrev p_without_name : List Str := ["state", "k", "v"]
theorem sc_without_name : FnScope N_without_name p_without_name (defScope s_without_name) := ⟨rfl, rfl, rfl, by decide +kernel, rfl, by decide +kernel, by decide +kernel⟩
theorem ok_without_name {f : Addr} {fd : FuncData} (M : Mg mg) (G_may_fix : FnD P w K mg base IsX CX0 1 "may_fix" p_may_fix d_may_fix) (F : FunD K "without_name" "without_name" (defArgs s_without_name) (defBody s_without_name) (defScope s_without_name) [] [] f fd) : FnOk P w K mg base CX0 2 f fd p_without_name (spD IsX d_without_name) :=
  fn_ok F sc_without_name fun wx cdv A outer s H E hr => by
    have sc := sc_without_name
    have hu := room_hu hr
    exact (DSs.cons (DS.asg (DE.var (pv 0)) (DG.tup rfl (DGs.cons (gN 3 sc.nd) (DGs.cons (gN 4 sc.nd) (DGs.cons (gN 5 sc.nd) DGs.nil)))) (Frz.tup (Frzs.cons (Frz.name 3) (Frzs.cons (Frz.name 4) (Frzs.cons (Frz.name 5) Frzs.nil))))) (DSs.cons (DS.asg (DE.var (pv 4)) (DG.tup rfl (DGs.cons (gN 6 sc.nd) (DGs.cons (gN 7 sc.nd) (DGs.cons (gN 8 sc.nd) (DGs.cons (gN 9 sc.nd) DGs.nil))))) (Frz.tup (Frzs.cons (Frz.name 6) (Frzs.cons (Frz.name 7) (Frzs.cons (Frz.name 8) (Frzs.cons (Frz.name 9) Frzs.nil)))))) (DSs.cons (DS.ifS (DW.t (DW.or (DT.cmp op_lt od_lt (DR.de (DR.callBQ cr_len cq_len (by rfl) M.n_len boot_len_ (DE.q (DE.var (pv 3))))) DE.int) (DW.or1 (DT.not (DT.val (DR.de (DR.call G_may_fix (hr.mono (by decide)) (by rfl) (DA.cons (DE.var (pv 4)) (DA.cons (DE.var (pv 1)) (DA.cons (DE.var (pv 2)) DA.nil)))))))))) (DSs.one (DS.ret (DE.dr DE.non))) DSs.nil) (DSs.cons (DS.setLcE (i := 10) rfl sc.nd rfl rfl (sw_true rfl rfl rfl (by decide +kernel)) (DIC.seq (DE.q (DE.var (pv 7)))) (blkOk_by (N := N_without_name) (sc := (defScope s_without_name)) (own := [("row", 13)]) (by decide +kernel)) (fun _ _ _ _ _ => (gN 13 sc.nd)) (fun _ _ _ _ _ => DTs.nil) (fun _ _ _ _ _ => (eAdd (DR.de (DR.slA (DE.var (pv 13)) DO.none (DO.one (DE.var (pv 1))))) (DR.de (DR.slA (DE.var (pv 13)) (DO.one (eAdd (DE.var (pv 1)) DE.int)) DO.none))))) (DSs.cons (DS.setLcE (i := 11) rfl sc.nd rfl rfl (sw_true rfl rfl rfl (by decide +kernel)) (DIF.c (DIF.zip (by rfl) M.n_zip (DE.var (pv 7)) (DE.var (pv 8)))) (blkOk_by (N := N_without_name) (sc := (defScope s_without_name)) (own := [("row", 13), ("limit", 14)]) (by decide +kernel)) (fun _ _ _ _ _ => (DG.tup rfl (DGs.cons (gN 13 sc.nd) (DGs.cons (gN 14 sc.nd) DGs.nil)))) (fun _ _ _ _ _ => DTs.nil) (fun _ _ _ _ _ => (eSub (DE.var (pv 14)) (eMul (DE.ix (DE.q (DE.var (pv 13))) (DE.var (pv 1))) (DE.var (pv 2)))))) (DSs.cons (DS.set (i := 12) sc.nd rfl (by first | exact .inl rfl | exact .inr rfl) (DE.tup (DA.cons (eAdd (DR.de (DR.slA (DE.var (pv 6)) DO.none (DO.one (DE.var (pv 1))))) (DR.de (DR.slA (DE.var (pv 6)) (DO.one (eAdd (DE.var (pv 1)) DE.int)) DO.none))) (DA.cons (DE.var (pv 10)) (DA.cons (DE.var (pv 11)) (DA.cons (eAdd (DR.de (DR.slA (DE.var (pv 9)) DO.none (DO.one (DE.var (pv 1))))) (DR.de (DR.slA (DE.var (pv 9)) (DO.one (eAdd (DE.var (pv 1)) DE.int)) DO.none))) DA.nil)))))) (DSs.one (DS.ret (DE.dr (DE.tup (DA.cons (eAdd (DR.de (DR.slA (DE.var (pv 3)) DO.none (DO.one (DE.var (pv 1))))) (DR.de (DR.slA (DE.var (pv 3)) (DO.one (eAdd (DE.var (pv 1)) DE.int)) DO.none))) (DA.cons (DE.var (pv 12)) (DA.cons (DR.de (DR.callBL (cr_sortedD hu) cl_sorted (by rfl) M.n_sorted boot_sorted_ (DR.ls (DR.lst (DA.star (DE.q (DE.var (pv 5))) (DA.cons (DE.tup (DA.cons (DE.ix (DE.q (DE.var (pv 3))) (DE.var (pv 1))) (DA.cons (DE.var (pv 2)) DA.nil))) DA.nil)))))) DA.nil)))))))))))))
abbrev s_task_copy : Stmt := top 27
abbrev N_task_copy : List Str := ["task", "gains", "rows", "limits", "tops", "row"]
abbrev p_task_copy : List Str := ["task"]
theorem sc_task_copy : FnScope N_task_copy p_task_copy (defScope s_task_copy) := ⟨rfl, rfl, rfl, by decide +kernel, rfl, by decide +kernel, by decide +kernel⟩
theorem ok_task_copy {f : Addr} {fd : FuncData} (M : Mg mg) (F : FunD K "task_copy" "task_copy" (defArgs s_task_copy) (defBody s_task_copy) (defScope s_task_copy) [] [] f fd) : FnOk P w K mg base CX0 1 f fd p_task_copy (spD IsX d_task_copy) :=
  fn_ok F sc_task_copy fun wx cdv A outer s H E hr => by
    have sc := sc_task_copy
    exact (DSs.cons (DS.asg (DE.var (pv 0)) (DG.tup rfl (DGs.cons (gN 1 sc.nd) (DGs.cons (gN 2 sc.nd) (DGs.cons (gN 3 sc.nd) (DGs.cons (gN 4 sc.nd) DGs.nil))))) (Frz.tup (Frzs.cons (Frz.name 1) (Frzs.cons (Frz.name 2) (Frzs.cons (Frz.name 3) (Frzs.cons (Frz.name 4) Frzs.nil)))))) (DSs.one (DS.ret (DR.tp (DR.callTyQ cr_list cq_list (by rfl) M.n_list boot_list_ (DE.q (DE.var (pv 1)))) (DA.cons (DR.de (DR.lc rfl sc.nd (DIC.seq (DE.q (DE.var (pv 2)))) (blkOk_by (N := N_task_copy) (sc := (defScope s_task_copy)) (own := [("row", 5)]) (by decide +kernel)) (fun _ _ _ _ _ => (gN 5 sc.nd)) (fun _ _ _ _ _ => DTs.nil) (fun _ _ _ _ _ => (DR.de (DR.callTyQ cr_list cq_list (by rfl) M.n_list boot_list_ (DE.q (DE.var (pv 5)))))))) (DA.cons (DR.de (DR.callTyQ cr_list cq_list (by rfl) M.n_list boot_list_ (DE.q (DE.var (pv 3))))) (DA.cons (DR.de (DR.callTyQ cr_list cq_list (by rfl) M.n_list boot_list_ (DE.q (DE.var (pv 4))))) DA.nil)))))))
abbrev s_behind : Stmt := top 26
abbrev N_behind : List Str := ["state", "step", "names", "task", "fixed", "lines", "places"]
abbrev p_behind : List Str := ["state", "step"]
theorem sc_behind : FnScope N_behind p_behind (defScope s_behind) := ⟨rfl, rfl, rfl, by decide +kernel, rfl, by decide +kernel, by decide +kernel⟩
theorem ok_behind {f : Addr} {fd : FuncData} (M : Mg mg) (G_least_sum : FnD P w K mg base IsX CX0 1 "least_sum" p_least_sum d_least_sum) (G_lowered : FnD P w K mg base IsX CX0 2 "lowered" p_lowered d_lowered) (G_task_copy : FnD P w K mg base IsX CX0 1 "task_copy" p_task_copy d_task_copy) (G_without_name : FnD P w K mg base IsX CX0 2 "without_name" p_without_name d_without_name) (G_without_row : FnD P w K mg base IsX CX0 2 "without_row" p_without_row d_without_row) (F : FunD K "behind" "behind" (defArgs s_behind) (defBody s_behind) (defScope s_behind) [] [] f fd) : FnOk P w K mg base CX0 3 f fd p_behind (spD IsX d_behind) :=
  fn_ok F sc_behind fun wx cdv A outer s H E hr => by
    have sc := sc_behind
    have hu := room_hu hr
    exact (DSs.cons (DS.asg (DE.var (pv 0)) (DG.tup rfl (DGs.cons (gN 2 sc.nd) (DGs.cons (gN 3 sc.nd) (DGs.cons (gN 4 sc.nd) DGs.nil)))) (Frz.tup (Frzs.cons (Frz.name 2) (Frzs.cons (Frz.name 3) (Frzs.cons (Frz.name 4) Frzs.nil))))) (DSs.cons (DS.set (i := 5) sc.nd rfl (by first | exact .inl rfl | exact .inr rfl) (DR.de (DR.callBQ cr_len cq_len (by rfl) M.n_len boot_len_ (DE.q (DE.ix (DE.q (DE.var (pv 3))) DE.int))))) (DSs.cons (DS.set (i := 6) sc.nd rfl (by first | exact .inl rfl | exact .inr rfl) (DR.de (DR.slA (DE.var (pv 1)) (DO.one DE.int) DO.none))) (DSs.cons (DS.ifS (DW.t (DW.and (DT.cmp (cIn hu) od_inA (DE.ix (DE.q (DE.var (pv 1))) DE.int) (DE.tup (DA.cons DE.str (DA.cons DE.str DA.nil)))) (DW.and (DT.cmp (cEqA hu) od_eqA (DR.de (DR.callBQ cr_len cq_len (by rfl) M.n_len boot_len_ (DE.q (DE.var (pv 6))))) DE.int) (DW.and1 (DT.chain op_le od_le op_lt od_lt DE.int (DE.ix (DE.q (DE.var (pv 6))) DE.int) (DE.var (pv 5))))))) (DSs.cons (DS.ifS (DT.cmp (cEqA hu) od_eqA (DE.ix (DE.q (DE.var (pv 1))) DE.int) DE.str) (DSs.one (DS.ret (DR.call G_without_row (hr.mono (by decide)) (by rfl) (DA.cons (DE.var (pv 0)) (DA.cons (DE.ix (DE.q (DE.var (pv 6))) DE.int) DA.nil))))) DSs.nil) (DSs.cons (DS.ifS (DT.cmp op_gt od_gt (DR.de (DR.call G_least_sum (hr.mono (by decide)) (by rfl) (DA.cons (DE.var (pv 3)) (DA.cons (DE.ix (DE.q (DE.var (pv 6))) DE.int) DA.nil)))) (DE.ix (DE.q (DE.ix (DE.q (DE.var (pv 3))) DE.int)) (DE.ix (DE.q (DE.var (pv 6))) DE.int))) (DSs.one (DS.ret (DR.tp (DR.callTyQ cr_list cq_list (by rfl) M.n_list boot_list_ (DE.q (DE.var (pv 2)))) (DA.cons (DR.de (DR.call G_task_copy (hr.mono (by decide)) (by rfl) (DA.cons (DE.var (pv 3)) DA.nil))) (DA.cons (DR.de (DR.callTyQ cr_list cq_list (by rfl) M.n_list boot_list_ (DE.q (DE.var (pv 4))))) DA.nil))))) DSs.nil) (DSs.one (DS.ret (DE.dr DE.non))))) DSs.nil) (DSs.cons (DS.ifS (DW.t (DW.and (DT.cmp (cEqA hu) od_eqA (DR.de (DR.callBQ cr_len cq_len (by rfl) M.n_len boot_len_ (DE.q (DE.var (pv 6))))) DE.int) (DW.and1 (DT.chain op_le od_le op_lt od_lt DE.int (DE.ix (DE.q (DE.var (pv 6))) DE.int) (DR.de (DR.callBQ cr_len cq_len (by rfl) M.n_len boot_len_ (DE.q (DE.var (pv 2))))))))) (DSs.cons (DS.ifS (DW.t (DW.and (DT.cmp (cEqA hu) od_eqA (DE.ix (DE.q (DE.var (pv 1))) DE.int) DE.str) (DW.and1 (DT.chain op_le od_le op_lt od_lt DE.int (DE.ix (DE.q (DE.var (pv 6))) DE.int) (DE.var (pv 5)))))) (DSs.one (DS.ret (DR.call G_lowered (hr.mono (by decide)) (by rfl) (DA.cons (DE.var (pv 0)) (DA.cons (DE.ix (DE.q (DE.var (pv 6))) DE.int) (DA.cons (DE.ix (DE.q (DE.var (pv 6))) DE.int) DA.nil)))))) DSs.nil) (DSs.one (DS.ifS (DT.cmp (cEqA hu) od_eqA (DE.ix (DE.q (DE.var (pv 1))) DE.int) DE.str) (DSs.one (DS.ret (DR.call G_without_name (hr.mono (by decide)) (by rfl) (DA.cons (DE.var (pv 0)) (DA.cons (DE.ix (DE.q (DE.var (pv 6))) DE.int) (DA.cons (DE.ix (DE.q (DE.var (pv 6))) DE.int) DA.nil)))))) DSs.nil))) DSs.nil) (DSs.one (DS.ret (DE.dr DE.non))))))))
abbrev s_steps_at : Stmt := top 28
abbrev N_steps_at : List Str := ["state", "names", "task", "_", "lines", "found", "k", "top", "i"]
abbrev p_steps_at : List Str := ["state"]
theorem sc_steps_at : FnScope N_steps_at p_steps_at (defScope s_steps_at) := ⟨rfl, rfl, rfl, by decide +kernel, rfl, by decide +kernel, by decide +kernel⟩
theorem ok_steps_at {f : Addr} {fd : FuncData} (M : Mg mg) (F : FunD K "steps_at" "steps_at" (defArgs s_steps_at) (defBody s_steps_at) (defScope s_steps_at) [] [] f fd) : FnOk P w K mg base CX0 1 f fd p_steps_at (spD IsX d_steps_at) :=
  fn_ok F sc_steps_at fun wx cdv A outer s H E hr => by
    have sc := sc_steps_at
    exact (DSs.cons (DS.asg (DE.var (pv 0)) (DG.tup rfl (DGs.cons (gN 1 sc.nd) (DGs.cons (gN 2 sc.nd) (DGs.cons (gN 3 sc.nd) DGs.nil)))) (Frz.tup (Frzs.cons (Frz.name 1) (Frzs.cons (Frz.name 2) (Frzs.cons (Frz.name 3) Frzs.nil))))) (DSs.cons (DS.setRg (i := 4) sc.nd rfl (by first | exact .inl rfl | exact .inr rfl) (by rfl) M.n_range (DR.de (DR.callBQ cr_len cq_len (by rfl) M.n_len boot_len_ (DE.q (DE.ix (DE.q (DE.var (pv 2))) DE.int))))) (DSs.cons (DS.setR (i := 5) sc.nd rfl (by first | exact .inl rfl | exact .inr rfl) (DR.cat (DR.ls (DR.lc rfl sc.nd (DIF.c (DIF.rg (pv 4))) (blkOk_by (N := N_steps_at) (sc := (defScope s_steps_at)) (own := [("i", 8)]) (by decide +kernel)) (fun _ _ _ _ _ => (gN 8 sc.nd)) (fun _ _ _ _ _ => DTs.nil) (fun _ _ _ _ _ => (DE.tup (DA.cons DE.str (DA.cons (DE.var (pv 8)) DA.nil)))))) (DR.ls (DR.lc rfl sc.nd (DIF.c (DIF.rg (pv 4))) (blkOk_by (N := N_steps_at) (sc := (defScope s_steps_at)) (own := [("i", 8)]) (by decide +kernel)) (fun _ _ _ _ _ => (gN 8 sc.nd)) (fun _ _ _ _ _ => DTs.nil) (fun _ _ _ _ _ => (DE.tup (DA.cons DE.str (DA.cons (DE.var (pv 8)) DA.nil)))))))) (DSs.cons (DS.setR (i := 5) sc.nd rfl (by first | exact .inl rfl | exact .inr rfl) (DR.cat (DLs.var (pv 5)) (DR.ls (DR.lc2 rfl sc.nd (DIF.c (DIF.range1 (by rfl) M.n_range (DA.cons (DR.de (DR.callBQ cr_len cq_len (by rfl) M.n_len boot_len_ (DE.q (DE.var (pv 1))))) DA.nil))) (blkOk_by (N := N_steps_at) (sc := (defScope s_steps_at)) (own := [("k", 6), ("i", 8)]) (by decide +kernel)) (fun _ _ _ _ _ => (gN 6 sc.nd)) (Frz.name 6) (fun _ _ _ _ _ => DTs.nil) (fun _ _ _ _ _ => (DIF.rg (pv 4))) (fun _ _ _ _ _ => (gN 8 sc.nd)) (fun _ _ _ _ _ => DTs.nil) (fun _ _ _ _ _ => (DE.tup (DA.cons DE.str (DA.cons (DE.var (pv 6)) (DA.cons (DE.var (pv 8)) DA.nil))))))))) (DSs.cons (DS.for_ PassesOwn.never rfl (DIF.enum (by rfl) M.n_enumerate (DE.ix (DE.q (DE.var (pv 2))) DE.int)) (DG.tup rfl (DGs.cons (gN 6 sc.nd) (DGs.cons (gN 7 sc.nd) DGs.nil))) (Frz.tup (Frzs.cons (Frz.name 6) (Frzs.cons (Frz.name 7) Frzs.nil))) (DSs.one (DS.ext (pv 5) (DR.ls (DR.lst (DA.cons (DE.tup (DA.cons DE.str (DA.cons (DE.var (pv 6)) (DA.cons (DE.var (pv 7)) DA.nil)))) (DA.cons (DE.tup (DA.cons DE.str (DA.cons (DE.var (pv 6)) (DA.cons DE.int DA.nil)))) DA.nil))))))) (DSs.one (DS.retV (pv 5))))))))
abbrev s_first_step : Stmt := top 29
abbrev N_first_step : List Str := ["state", "step"]
abbrev p_first_step : List Str := ["state"]
theorem sc_first_step : FnScope N_first_step p_first_step (defScope s_first_step) := ⟨rfl, rfl, rfl, by decide +kernel, rfl, by decide +kernel, by decide +kernel⟩
theorem ok_first_step {f : Addr} {fd : FuncData} (M : Mg mg) (G_behind : FnD P w K mg base IsX CX0 3 "behind" p_behind d_behind) (G_steps_at : FnD P w K mg base IsX CX0 1 "steps_at" p_steps_at d_steps_at) (F : FunD K "first_step" "first_step" (defArgs s_first_step) (defBody s_first_step) (defScope s_first_step) [] [] f fd) : FnOk P w K mg base CX0 4 f fd p_first_step (spD IsX d_first_step) :=
  fn_ok F sc_first_step fun wx cdv A outer s H E hr => by
    have sc := sc_first_step
    exact (DSs.cons (DS.for_ PassesOwn.never rfl (DIF.seq (DR.de (DR.call G_steps_at (hr.mono (by decide)) (by rfl) (DA.cons (DE.var (pv 0)) DA.nil)))) (gN 1 sc.nd) (Frz.name 1) (DSs.one (DS.ifS (DT.cmp op_isNotD od_isNot (DR.de (DR.call G_behind (hr.mono (by decide)) (by rfl) (DA.cons (DE.var (pv 0)) (DA.cons (DE.var (pv 1)) DA.nil)))) DE.non) (DSs.one (DS.ret (DE.dr (DE.var (pv 1))))) DSs.nil))) (DSs.one (DS.ret (DE.dr DE.non))))
abbrev s_worn_of : Stmt := top 30
abbrev N_worn_of : List Str := ["task", "state", "steps", "step"]
abbrev p_worn_of : List Str := ["task"]
theorem sc_worn_of : FnScope N_worn_of p_worn_of (defScope s_worn_of) := ⟨rfl, rfl, rfl, by decide +kernel, rfl, by decide +kernel, by decide +kernel⟩
theorem ok_worn_of {f : Addr} {fd : FuncData} (M : Mg mg) (G_behind : FnD P w K mg base IsX CX0 3 "behind" p_behind d_behind) (G_first_step : FnD P w K mg base IsX CX0 4 "first_step" p_first_step d_first_step) (G_start_of : FnD P w K mg base IsX CX0 1 "start_of" p_start_of d_start_of) (F : FunD K "worn_of" "worn_of" (defArgs s_worn_of) (defBody s_worn_of) (defScope s_worn_of) [] [] f fd) : FnOk P w K mg base CX0 5 f fd p_worn_of (spD IsX d_worn_of) :=
  fn_ok F sc_worn_of fun wx cdv A outer s H E hr => by
    have sc := sc_worn_of
    have hu := room_hu hr
    exact (DSs.cons (DS.set (i := 1) sc.nd rfl (by first | exact .inl rfl | exact .inr rfl) (DR.de (DR.call G_start_of (hr.mono (by decide)) (by rfl) (DA.cons (DE.var (pv 0)) DA.nil)))) (DSs.cons (DS.setR (i := 2) sc.nd rfl (by first | exact .inl rfl | exact .inr rfl) (DR.lst DA.nil)) (DSs.cons (DS.set (i := 3) sc.nd rfl (by first | exact .inl rfl | exact .inr rfl) (DR.de (DR.call G_first_step (hr.mono (by decide)) (by rfl) (DA.cons (DE.var (pv 1)) DA.nil)))) (DSs.cons (DS.while_ (n := wN) PassesOwn.never (DT.cmp op_isNotD od_isNot (DE.var (pv 3)) DE.non) (DSs.cons (DS.app (pv 2) (DE.var (pv 3))) (DSs.cons (DS.set (i := 1) sc.nd rfl (by first | exact .inl rfl | exact .inr rfl) (DR.de (DR.call G_behind (hr.mono (by decide)) (by rfl) (DA.cons (DE.var (pv 1)) (DA.cons (DE.var (pv 3)) DA.nil))))) (DSs.one (DS.set (i := 3) sc.nd rfl (by first | exact .inl rfl | exact .inr rfl) (DE.ifE (DT.cmp (cEqA hu) od_eqA (DE.ix (DE.q (DE.var (pv 3))) DE.int) DE.str) DE.non (DR.de (DR.call G_first_step (hr.mono (by decide)) (by rfl) (DA.cons (DE.var (pv 1)) DA.nil))))))))) (DSs.one (DS.retT (pv 2) (DA.cons (DE.var (pv 1)) DA.nil)))))))
abbrev s_worn : Stmt := top 31
abbrev N_worn : List Str := ["task"]
abbrev p_worn : List Str := ["task"]
theorem sc_worn : FnScope N_worn p_worn (defScope s_worn) := ⟨rfl, rfl, rfl, by decide +kernel, rfl, by decide +kernel, by decide +kernel⟩
theorem ok_worn {f : Addr} {fd : FuncData} (M : Mg mg) (G_check_task : FnD P w K mg base IsX CX0 2 "check_task" p_check_task d_check_task) (G_worn_of : FnD P w K mg base IsX CX0 5 "worn_of" p_worn_of d_worn_of) (F : FunD K "worn" "worn" (defArgs s_worn) (defBody s_worn) (defScope s_worn) [] [] f fd) : FnOk P w K mg base CX0 6 f fd p_worn (spD IsX d_worn) :=
  fn_ok F sc_worn fun wx cdv A outer s H E hr => by
    have sc := sc_worn
    exact (DSs.cons (DS.drop (DR.call G_check_task (hr.mono (by decide)) (by rfl) (DA.cons (DE.var (pv 0)) DA.nil))) (DSs.one (DS.ret (DR.call G_worn_of (hr.mono (by decide)) (by rfl) (DA.cons (DE.var (pv 0)) DA.nil)))))
abbrev s_whole_plan : Stmt := top 32
abbrev N_whole_plan : List Str := ["state", "told", "pairs", "_", "value"]
abbrev p_whole_plan : List Str := ["state", "told"]
theorem sc_whole_plan : FnScope N_whole_plan p_whole_plan (defScope s_whole_plan) := ⟨rfl, rfl, rfl, by decide +kernel, rfl, by decide +kernel, by decide +kernel⟩
theorem ok_whole_plan {f : Addr} {fd : FuncData} (M : Mg mg) (F : FunD K "whole_plan" "whole_plan" (defArgs s_whole_plan) (defBody s_whole_plan) (defScope s_whole_plan) [] [] f fd) : FnOk P w K mg base CX0 1 f fd p_whole_plan (spD IsX d_whole_plan) :=
  fn_ok F sc_whole_plan fun wx cdv A outer s H E hr => by
    have sc := sc_whole_plan
    have hu := room_hu hr
    exact (DSs.cons (DS.set (i := 2) sc.nd rfl (by first | exact .inl rfl | exact .inr rfl) (DR.de (DR.callBL (cr_sortedD hu) cl_sorted (by rfl) M.n_sorted boot_sorted_ (DR.ls (DR.lst (DA.starZip (by rfl) M.n_zip (DE.q (DE.ix (DE.q (DE.var (pv 0))) DE.int)) (DE.q (DE.var (pv 1))) (DA.star (DE.q (DE.ix (DE.q (DE.var (pv 0))) DE.int)) DA.nil))))))) (DSs.one (DS.ret (DR.callTyL cr_tuple cl_tuple (by rfl) M.n_tuple boot_tuple_ (DR.ls (DR.lc rfl sc.nd (DIC.seq (DE.q (DE.var (pv 2)))) (blkOk_by (N := N_whole_plan) (sc := (defScope s_whole_plan)) (own := [("_", 3), ("value", 4)]) (by decide +kernel)) (fun _ _ _ _ _ => (DG.tup rfl (DGs.cons (gN 3 sc.nd) (DGs.cons (gN 4 sc.nd) DGs.nil)))) (fun _ _ _ _ _ => DTs.nil) (fun _ _ _ _ _ => (DE.var (pv 4)))))))))
abbrev s_fixed_gain : Stmt := top 33
abbrev N_fixed_gain : List Str := ["task", "state", "name", "value"]
abbrev p_fixed_gain : List Str := ["task", "state"]
theorem sc_fixed_gain : FnScope N_fixed_gain p_fixed_gain (defScope s_fixed_gain) := ⟨rfl, rfl, rfl, by decide +kernel, rfl, by decide +kernel, by decide +kernel⟩
theorem ok_fixed_gain {f : Addr} {fd : FuncData} (M : Mg mg) (G_check_task : FnD P w K mg base IsX CX0 2 "check_task" p_check_task d_check_task) (F : FunD K "fixed_gain" "fixed_gain" (defArgs s_fixed_gain) (defBody s_fixed_gain) (defScope s_fixed_gain) [] [] f fd) : FnOk P w K mg base CX0 3 f fd p_fixed_gain (spD IsX d_fixed_gain) :=
  fn_ok F sc_fixed_gain fun wx cdv A outer s H E hr => by
    have sc := sc_fixed_gain
    exact (DSs.cons (DS.drop (DR.call G_check_task (hr.mono (by decide)) (by rfl) (DA.cons (DE.var (pv 0)) DA.nil))) (DSs.one (DS.ret (DR.callBL (cr_sum rfl) cl_sum (by rfl) M.n_sum boot_sum_ (DR.ls (DR.lc rfl sc.nd (DIC.seq (DE.q (DE.ix (DE.q (DE.var (pv 1))) DE.int))) (blkOk_by (N := N_fixed_gain) (sc := (defScope s_fixed_gain)) (own := [("name", 2), ("value", 3)]) (by decide +kernel)) (fun _ _ _ _ _ => (DG.tup rfl (DGs.cons (gN 2 sc.nd) (DGs.cons (gN 3 sc.nd) DGs.nil)))) (fun _ _ _ _ _ => DTs.nil) (fun _ _ _ _ _ => (eMul (DE.ix (DE.q (DE.ix (DE.q (DE.var (pv 0))) DE.int)) (DE.var (pv 2))) (DE.var (pv 3))))))))))
abbrev s_law_draws : Stmt := top 35
abbrev N_law_draws : List Str := ["script", "draws", "k", "rest", "turn", "mixed"]
abbrev p_law_draws : List Str := ["script"]
theorem sc_law_draws : FnScope N_law_draws p_law_draws (defScope s_law_draws) := ⟨rfl, rfl, rfl, by decide +kernel, rfl, by decide +kernel, by decide +kernel⟩
theorem ok_law_draws {f : Addr} {fd : FuncData} (M : Mg mg) (F : FunD K "_law_draws" "_law_draws" (defArgs s_law_draws) (defBody s_law_draws) (defScope s_law_draws) [] [] f fd) : FnOk P w K mg base CX0 1 f fd p_law_draws (spS IsX K (d_law_draws K)) :=
  fn_okS F sc_law_draws rfl fun wx cdv A outer s H E hr => by
    have sc := sc_law_draws
    exact (DSs.cons (DS.setR (i := 1) sc.nd rfl (by first | exact .inl rfl | exact .inr rfl) (DR.lst DA.nil)) (DSs.cons (DS.for_ PassesOwn.never rfl (DIF.range1 (by rfl) M.n_range (DA.cons (DR.de (DR.callB (cr_min2D rfl) cd_min2 (by rfl) M.n_min boot_min_ (DA.cons DE.int (DA.cons (DR.de (DR.scLen (by rfl) M.n_len (pv 0))) DA.nil)))) DA.nil)) (gN 2 sc.nd) (Frz.name 2) (DSs.cons (DS.set (i := 3) sc.nd rfl (by first | exact .inl rfl | exact .inr rfl) (DR.de (DR.callB cr_absD cd_abs (by rfl) M.n_abs boot_abs_ (DA.cons (DE.scIx (pv 0) (DE.var (pv 2))) DA.nil)))) (DSs.one (DS.ifS (DT.cmp op_ge od_ge (DE.var (pv 3)) (ePow DE.int DE.int)) (DSs.one (DS.for_ PassesOwn.never rfl (DIF.range1 (by rfl) M.n_range (DA.cons DE.int DA.nil)) (gN 4 sc.nd) (Frz.name 4) (DSs.one (DS.ifS (DT.cmp op_gt od_gt (DE.var (pv 3)) DE.int) (DSs.cons (DS.app (pv 1) (eMod (DR.de (DR.callTy cr_int cd_int (by rfl) M.n_int boot_int_ (DA.cons (DE.var (pv 3)) DA.nil))) DE.int)) (DSs.one (DS.set (i := 3) sc.nd rfl (by first | exact .inl rfl | exact .inr rfl) (eDiv (DE.var (pv 3)) DE.int)))) DSs.nil)))) (DSs.cons (DS.set (i := 5) sc.nd rfl (by first | exact .inl rfl | exact .inr rfl) (eMod (DR.de (DR.callTy cr_int cd_int (by rfl) M.n_int boot_int_ (DA.cons (eAdd (eMul (DE.var (pv 3)) DE.int) (eMul (eAdd (DE.var (pv 2)) DE.int) DE.int)) DA.nil))) DE.int)) (DSs.cons (DS.set (i := 5) sc.nd rfl (by first | exact .inl rfl | exact .inr rfl) (eMod (DR.de (DR.callTy cr_int cd_int (by rfl) M.n_int boot_int_ (DA.cons (eAdd (eAdd (eMul (DE.var (pv 5)) DE.int) (eMul DE.int (DE.var (pv 2)))) DE.int) DA.nil))) DE.int)) (DSs.cons (DS.app (pv 1) (eMod (DR.de (DR.callTy cr_int cd_int (by rfl) M.n_int boot_int_ (DA.cons (DE.var (pv 5)) DA.nil))) DE.int)) (DSs.one (DS.app (pv 1) (eMod (DR.de (DR.callTy cr_int cd_int (by rfl) M.n_int boot_int_ (DA.cons (eDiv (DE.var (pv 5)) DE.int) DA.nil))) DE.int)))))))))) (DSs.one (DS.retV (pv 1)))))
abbrev s_law_mix : Stmt := top 36
abbrev N_law_mix : List Str := ["draws", "k", "many", "value"]
abbrev p_law_mix : List Str := ["draws", "k", "many"]
theorem sc_law_mix : FnScope N_law_mix p_law_mix (defScope s_law_mix) := ⟨rfl, rfl, rfl, by decide +kernel, rfl, by decide +kernel, by decide +kernel⟩
theorem ok_law_mix {f : Addr} {fd : FuncData} (M : Mg mg) (F : FunD K "_law_mix" "_law_mix" (defArgs s_law_mix) (defBody s_law_mix) (defScope s_law_mix) [] [] f fd) : FnOk P w K mg base CX0 1 f fd p_law_mix (spD IsX d_law_mix) :=
  fn_ok F sc_law_mix fun wx cdv A outer s H E hr => by
    have sc := sc_law_mix
    exact (DSs.cons (DS.set (i := 3) sc.nd rfl (by first | exact .inl rfl | exact .inr rfl) DE.int) (DSs.cons (DS.ifS (DT.cmp op_gt od_gt (DR.de (DR.callBQ cr_len cq_len (by rfl) M.n_len boot_len_ (DE.q (DE.var (pv 0))))) DE.int) (DSs.one (DS.set (i := 3) sc.nd rfl (by first | exact .inl rfl | exact .inr rfl) (DE.ix (DE.q (DE.var (pv 0))) (eMod (DR.de (DR.callTy cr_int cd_int (by rfl) M.n_int boot_int_ (DA.cons (DE.var (pv 1)) DA.nil))) (DR.de (DR.callBQ cr_len cq_len (by rfl) M.n_len boot_len_ (DE.q (DE.var (pv 0))))))))) DSs.nil) (DSs.cons (DS.ifS (DT.cmp op_lt od_lt (DE.var (pv 1)) (DR.de (DR.callBQ cr_len cq_len (by rfl) M.n_len boot_len_ (DE.q (DE.var (pv 0)))))) (DSs.one (DS.ret (DE.dr (eMod (DR.de (DR.callTy cr_int cd_int (by rfl) M.n_int boot_int_ (DA.cons (DE.var (pv 3)) DA.nil))) (DE.var (pv 2)))))) DSs.nil) (DSs.one (DS.ret (DE.dr (eMod (DR.de (DR.callTy cr_int cd_int (by rfl) M.n_int boot_int_ (DA.cons (eDiv (DR.de (DR.callTy cr_int cd_int (by rfl) M.n_int boot_int_ (DA.cons (eAdd (eMul (DE.var (pv 3)) DE.int) (eMul (DE.var (pv 1)) DE.int)) DA.nil))) DE.int) DA.nil))) (DE.var (pv 2)))))))))
abbrev s_law_task : Stmt := top 37
abbrev N_law_task : List Str := ["draws", "first", "most", "size", "many", "rows", "limits", "i", "wide", "tops", "room", "k", "top", "gains"]
abbrev p_law_task : List Str := ["draws", "first", "most", "size"]
theorem sc_law_task : FnScope N_law_task p_law_task (defScope s_law_task) := ⟨rfl, rfl, rfl, by decide +kernel, rfl, by decide +kernel, by decide +kernel⟩
theorem ok_law_task {f : Addr} {fd : FuncData} (M : Mg mg) (G_law_mix : FnD P w K mg base IsX CX0 1 "_law_mix" p_law_mix d_law_mix) (F : FunD K "_law_task" "_law_task" (defArgs s_law_task) (defBody s_law_task) (defScope s_law_task) [] [] f fd) : FnOk P w K mg base CX0 2 f fd p_law_task (spD IsX d_law_task) :=
  fn_ok F sc_law_task fun wx cdv A outer s H E hr => by
    have sc := sc_law_task
    exact (DSs.cons (DS.set (i := 4) sc.nd rfl (by first | exact .inl rfl | exact .inr rfl) (eAdd DE.int (DR.de (DR.call G_law_mix (hr.mono (by decide)) (by rfl) (DA.cons (DE.var (pv 0)) (DA.cons (DE.var (pv 1)) (DA.cons (DE.var (pv 2)) DA.nil))))))) (DSs.cons (DS.setR (i := 5) sc.nd rfl (by first | exact .inl rfl | exact .inr rfl) (DR.lst DA.nil)) (DSs.cons (DS.setR (i := 6) sc.nd rfl (by first | exact .inl rfl | exact .inr rfl) (DR.lst DA.nil)) (DSs.cons (DS.for_ PassesOwn.never rfl (DIF.range1 (by rfl) M.n_range (DA.cons (DR.de (DR.call G_law_mix (hr.mono (by decide)) (by rfl) (DA.cons (DE.var (pv 0)) (DA.cons (eAdd (DE.var (pv 1)) DE.int) (DA.cons DE.int DA.nil))))) DA.nil)) (gN 7 sc.nd) (Frz.name 7) (DSs.cons (DS.set (i := 8) sc.nd rfl (by first | exact .inl rfl | exact .inr rfl) (DE.ix (DE.q (DR.de (DR.lst (DA.cons DE.int (DA.cons DE.int (DA.cons DE.int DA.nil)))))) (DR.de (DR.call G_law_mix (hr.mono (by decide)) (by rfl) (DA.cons (DE.var (pv 0)) (DA.cons (eAdd (DE.var (pv 1)) DE.int) (DA.cons DE.int DA.nil))))))) (DSs.cons (DS.app (pv 5) (DR.de (DR.lc rfl sc.nd (DIF.c (DIF.range1 (by rfl) M.n_range (DA.cons (DE.var (pv 4)) DA.nil))) (blkOk_by (N := N_law_task) (sc := (defScope s_law_task)) (own := [("k", 11)]) (by decide +kernel)) (fun _ _ _ _ _ => (gN 11 sc.nd)) (fun _ _ _ _ _ => DTs.nil) (fun _ _ _ _ _ => (eSub (DR.de (DR.call G_law_mix (hr.mono (by decide)) (by rfl) (DA.cons (DE.var (pv 0)) (DA.cons (eAdd (eAdd (eAdd (DE.var (pv 1)) DE.int) (eMul DE.int (DE.var (pv 7)))) (DE.var (pv 11))) (DA.cons (DE.var (pv 8)) DA.nil))))) (eDiv (DE.var (pv 8)) DE.int)))))) (DSs.one (DS.app (pv 6) (eSub (DR.de (DR.call G_law_mix (hr.mono (by decide)) (by rfl) (DA.cons (DE.var (pv 0)) (DA.cons (eAdd (eAdd (DE.var (pv 1)) DE.int) (DE.var (pv 7))) (DA.cons (DE.ix (DE.q (DR.de (DR.lst (DA.cons DE.int (DA.cons DE.int DA.nil))))) (DR.de (DR.call G_law_mix (hr.mono (by decide)) (by rfl) (DA.cons (DE.var (pv 0)) (DA.cons (eAdd (DE.var (pv 1)) DE.int) (DA.cons DE.int DA.nil)))))) DA.nil))))) (DE.ix (DE.q (DR.de (DR.lst (DA.cons DE.int (DA.cons DE.int (DA.cons DE.int DA.nil)))))) (DR.de (DR.call G_law_mix (hr.mono (by decide)) (by rfl) (DA.cons (DE.var (pv 0)) (DA.cons (eAdd (eAdd (DE.var (pv 1)) DE.int) (DE.var (pv 7))) (DA.cons DE.int DA.nil)))))))))))) (DSs.cons (DS.setR (i := 9) sc.nd rfl (by first | exact .inl rfl | exact .inr rfl) (DR.lst DA.nil)) (DSs.cons (DS.set (i := 10) sc.nd rfl (by first | exact .inl rfl | exact .inr rfl) (DE.var (pv 3))) (DSs.cons (DS.for_ PassesOwn.never rfl (DIF.range1 (by rfl) M.n_range (DA.cons (DE.var (pv 4)) DA.nil)) (gN 11 sc.nd) (Frz.name 11) (DSs.cons (DS.set (i := 12) sc.nd rfl (by first | exact .inl rfl | exact .inr rfl) (DR.de (DR.call G_law_mix (hr.mono (by decide)) (by rfl) (DA.cons (DE.var (pv 0)) (DA.cons (eAdd (eAdd (DE.var (pv 1)) DE.int) (DE.var (pv 11))) (DA.cons (DE.ix (DE.q (DR.de (DR.lst (DA.cons DE.int (DA.cons DE.int DA.nil))))) (DR.de (DR.call G_law_mix (hr.mono (by decide)) (by rfl) (DA.cons (DE.var (pv 0)) (DA.cons (eAdd (DE.var (pv 1)) DE.int) (DA.cons DE.int DA.nil)))))) DA.nil)))))) (DSs.cons (DS.set (i := 12) sc.nd rfl (by first | exact .inl rfl | exact .inr rfl) (DR.de (DR.callB (cr_min2D rfl) cd_min2 (by rfl) M.n_min boot_min_ (DA.cons (DE.var (pv 12)) (DA.cons (eSub (DE.var (pv 10)) DE.int) DA.nil))))) (DSs.cons (DS.set (i := 10) sc.nd rfl (by first | exact .inl rfl | exact .inr rfl) (eDiv (DE.var (pv 10)) (eAdd (DE.var (pv 12)) DE.int))) (DSs.one (DS.app (pv 9) (DE.var (pv 12)))))))) (DSs.cons (DS.setLcE (i := 13) rfl sc.nd rfl rfl (sw_true rfl rfl rfl (by decide +kernel)) (DIF.c (DIF.range1 (by rfl) M.n_range (DA.cons (DE.var (pv 4)) DA.nil))) (blkOk_by (N := N_law_task) (sc := (defScope s_law_task)) (own := [("k", 11)]) (by decide +kernel)) (fun _ _ _ _ _ => (gN 11 sc.nd)) (fun _ _ _ _ _ => DTs.nil) (fun _ _ _ _ _ => (eSub (DR.de (DR.call G_law_mix (hr.mono (by decide)) (by rfl) (DA.cons (DE.var (pv 0)) (DA.cons (eAdd (eAdd (DE.var (pv 1)) DE.int) (DE.var (pv 11))) (DA.cons (DE.ix (DE.q (DR.de (DR.lst (DA.cons DE.int (DA.cons DE.int DA.nil))))) (DR.de (DR.call G_law_mix (hr.mono (by decide)) (by rfl) (DA.cons (DE.var (pv 0)) (DA.cons (eAdd (DE.var (pv 1)) DE.int) (DA.cons DE.int DA.nil)))))) DA.nil))))) (DE.ix (DE.q (DR.de (DR.lst (DA.cons DE.int (DA.cons DE.int DA.nil))))) (DR.de (DR.call G_law_mix (hr.mono (by decide)) (by rfl) (DA.cons (DE.var (pv 0)) (DA.cons (eAdd (DE.var (pv 1)) DE.int) (DA.cons DE.int DA.nil))))))))) (DSs.ice 9 (DSs.ice 6 (DSs.ice 5 (DSs.one (DS.ret (DE.dr (DE.tup (DA.cons (DE.var (pv 13)) (DA.cons (DE.var (pv 5)) (DA.cons (DE.var (pv 6)) (DA.cons (DE.var (pv 9)) DA.nil)))))))))))))))))))
abbrev s_law_sum_by : Stmt := top 38
abbrev N_law_sum_by : List Str := ["row", "told", "k"]
abbrev p_law_sum_by : List Str := ["row", "told"]
theorem sc_law_sum_by : FnScope N_law_sum_by p_law_sum_by (defScope s_law_sum_by) := ⟨rfl, rfl, rfl, by decide +kernel, rfl, by decide +kernel, by decide +kernel⟩
theorem ok_law_sum_by {f : Addr} {fd : FuncData} (M : Mg mg) (F : FunD K "_law_sum_by" "_law_sum_by" (defArgs s_law_sum_by) (defBody s_law_sum_by) (defScope s_law_sum_by) [] [] f fd) : FnOk P w K mg base CX0 1 f fd p_law_sum_by (spD IsX d_law_sum_by) :=
  fn_ok F sc_law_sum_by fun wx cdv A outer s H E hr => by
    have sc := sc_law_sum_by
    exact (DSs.one (DS.ret (DR.callBL (cr_sum rfl) cl_sum (by rfl) M.n_sum boot_sum_ (DR.ls (DR.lc rfl sc.nd (DIF.c (DIF.range1 (by rfl) M.n_range (DA.cons (DR.de (DR.callBQ cr_len cq_len (by rfl) M.n_len boot_len_ (DE.q (DE.var (pv 0))))) DA.nil))) (blkOk_by (N := N_law_sum_by) (sc := (defScope s_law_sum_by)) (own := [("k", 2)]) (by decide +kernel)) (fun _ _ _ _ _ => (gN 2 sc.nd)) (fun _ _ _ _ _ => DTs.nil) (fun _ _ _ _ _ => (eMul (DE.ix (DE.q (DE.var (pv 0))) (DE.var (pv 2))) (DE.ix (DE.q (DE.var (pv 1))) (DE.var (pv 2))))))))))
abbrev s_law_is_plan : Stmt := top 39
abbrev N_law_is_plan : List Str := ["task", "told", "gains", "rows", "limits", "tops", "k", "i"]
abbrev p_law_is_plan : List Str := ["task", "told"]
theorem sc_law_is_plan : FnScope N_law_is_plan p_law_is_plan (defScope s_law_is_plan) := ⟨rfl, rfl, rfl, by decide +kernel, rfl, by decide +kernel, by decide +kernel⟩
theorem ok_law_is_plan {f : Addr} {fd : FuncData} (M : Mg mg) (G_law_sum_by : FnD P w K mg base IsX CX0 1 "_law_sum_by" p_law_sum_by d_law_sum_by) (F : FunD K "_law_is_plan" "_law_is_plan" (defArgs s_law_is_plan) (defBody s_law_is_plan) (defScope s_law_is_plan) [] [] f fd) : FnOk P w K mg base CX0 2 f fd p_law_is_plan (spD IsX d_law_is_plan) :=
  fn_ok F sc_law_is_plan fun wx cdv A outer s H E hr => by
    have sc := sc_law_is_plan
    have hu := room_hu hr
    exact (DSs.cons (DS.asg (DE.var (pv 0)) (DG.tup rfl (DGs.cons (gN 2 sc.nd) (DGs.cons (gN 3 sc.nd) (DGs.cons (gN 4 sc.nd) (DGs.cons (gN 5 sc.nd) DGs.nil))))) (Frz.tup (Frzs.cons (Frz.name 2) (Frzs.cons (Frz.name 3) (Frzs.cons (Frz.name 4) (Frzs.cons (Frz.name 5) Frzs.nil)))))) (DSs.cons (DS.ifS (DW.t (DW.or (DT.cmp (cNeA hu) od_neA (DR.de (DR.callBQ cr_len cq_len (by rfl) M.n_len boot_len_ (DE.q (DE.var (pv 1))))) (DR.de (DR.callBQ cr_len cq_len (by rfl) M.n_len boot_len_ (DE.q (DE.var (pv 5)))))) (DW.or1 (DT.cmp op_gt od_gt (DR.de (DR.callBQ cr_len cq_len (by rfl) M.n_len boot_len_ (DE.q (DR.de (DR.lc rfl sc.nd (DIF.c (DIF.range1 (by rfl) M.n_range (DA.cons (DR.de (DR.callBQ cr_len cq_len (by rfl) M.n_len boot_len_ (DE.q (DE.var (pv 5))))) DA.nil))) (blkOk_by (N := N_law_is_plan) (sc := (defScope s_law_is_plan)) (own := [("k", 6)]) (by decide +kernel)) (fun _ _ _ _ _ => (gN 6 sc.nd)) (fun _ _ _ _ _ => (DTs.one (DT.not (DT.chain op_le od_le op_le od_le DE.int (DE.ix (DE.q (DE.var (pv 1))) (DE.var (pv 6))) (DE.ix (DE.q (DE.var (pv 5))) (DE.var (pv 6))))))) (fun _ _ _ _ _ => (DE.var (pv 6)))))))) DE.int)))) (DSs.one (DS.ret (DE.dr DE.bl))) DSs.nil) (DSs.one (DS.ret (DE.dr (DE.cmp (cEqA hu) od_eqA (DR.de (DR.callBQ cr_len cq_len (by rfl) M.n_len boot_len_ (DE.q (DR.de (DR.lc rfl sc.nd (DIF.c (DIF.range1 (by rfl) M.n_range (DA.cons (DR.de (DR.callBQ cr_len cq_len (by rfl) M.n_len boot_len_ (DE.q (DE.var (pv 3))))) DA.nil))) (blkOk_by (N := N_law_is_plan) (sc := (defScope s_law_is_plan)) (own := [("i", 7)]) (by decide +kernel)) (fun _ _ _ _ _ => (gN 7 sc.nd)) (fun _ _ _ _ _ => (DTs.one (DT.cmp op_gt od_gt (DR.de (DR.call G_law_sum_by (hr.mono (by decide)) (by rfl) (DA.cons (DE.ix (DE.q (DE.var (pv 3))) (DE.var (pv 7))) (DA.cons (DE.var (pv 1)) DA.nil)))) (DE.ix (DE.q (DE.var (pv 4))) (DE.var (pv 7)))))) (fun _ _ _ _ _ => (DE.var (pv 7)))))))) DE.int))))))
abbrev s_law_plans : Stmt := top 40
abbrev N_law_plans : List Str := ["task", "found", "top", "more", "told", "number"]
abbrev p_law_plans : List Str := ["task"]
theorem sc_law_plans : FnScope N_law_plans p_law_plans (defScope s_law_plans) := ⟨rfl, rfl, rfl, by decide +kernel, rfl, by decide +kernel, by decide +kernel⟩
theorem ok_law_plans {f : Addr} {fd : FuncData} (M : Mg mg) (G_law_is_plan : FnD P w K mg base IsX CX0 2 "_law_is_plan" p_law_is_plan d_law_is_plan) (F : FunD K "_law_plans" "_law_plans" (defArgs s_law_plans) (defBody s_law_plans) (defScope s_law_plans) [] [] f fd) : FnOk P w K mg base CX0 3 f fd p_law_plans (spD IsX d_law_plans) :=
  fn_ok F sc_law_plans fun wx cdv A outer s H E hr => by
    have sc := sc_law_plans
    exact (DSs.cons (DS.set (i := 1) sc.nd rfl (by first | exact .inl rfl | exact .inr rfl) (DR.de (DR.lst (DA.cons (DE.tup DA.nil) DA.nil)))) (DSs.cons (DS.for_ PassesOwn.never rfl (DIF.seq (DE.ix (DE.q (DE.var (pv 0))) DE.int)) (gN 2 sc.nd) (Frz.name 2) (DSs.cons (DS.set (i := 3) sc.nd rfl (by first | exact .inl rfl | exact .inr rfl) (DR.de (DR.lst DA.nil))) (DSs.cons (DS.for_ PassesOwn.never rfl (DIF.seq (DE.var (pv 1))) (gN 4 sc.nd) (Frz.name 4) (DSs.one (DS.set (i := 3) sc.nd rfl (by first | exact .inl rfl | exact .inr rfl) (eAdd (DE.var (pv 3)) (DR.de (DR.lc rfl sc.nd (DIF.c (DIF.range1 (by rfl) M.n_range (DA.cons (eAdd (DE.var (pv 2)) DE.int) DA.nil))) (blkOk_by (N := N_law_plans) (sc := (defScope s_law_plans)) (own := [("number", 5)]) (by decide +kernel)) (fun _ _ _ _ _ => (gN 5 sc.nd)) (fun _ _ _ _ _ => DTs.nil) (fun _ _ _ _ _ => (eAdd (DE.var (pv 4)) (DE.tup (DA.cons (DE.var (pv 5)) DA.nil)))))))))) (DSs.one (DS.set (i := 1) sc.nd rfl (by first | exact .inl rfl | exact .inr rfl) (DE.var (pv 3))))))) (DSs.one (DS.ret (DR.lc rfl sc.nd (DIC.seq (DE.q (DE.var (pv 1)))) (blkOk_by (N := N_law_plans) (sc := (defScope s_law_plans)) (own := [("told", 4)]) (by decide +kernel)) (fun _ _ _ _ _ => (gN 4 sc.nd)) (fun _ _ _ _ _ => (DTs.one (DT.val (DR.de (DR.call G_law_is_plan (hr.mono (by decide)) (by rfl) (DA.cons (DE.var (pv 0)) (DA.cons (DE.var (pv 4)) DA.nil))))))) (fun _ _ _ _ _ => (DE.var (pv 4))))))))
abbrev s_law_ends : Stmt := top 41
abbrev N_law_ends : List Str := ["task", "i", "gains", "rows", "limits", "tops", "low", "k"]
abbrev p_law_ends : List Str := ["task", "i"]
theorem sc_law_ends : FnScope N_law_ends p_law_ends (defScope s_law_ends) := ⟨rfl, rfl, rfl, by decide +kernel, rfl, by decide +kernel, by decide +kernel⟩
theorem ok_law_ends {f : Addr} {fd : FuncData} (M : Mg mg) (F : FunD K "_law_ends" "_law_ends" (defArgs s_law_ends) (defBody s_law_ends) (defScope s_law_ends) [] [] f fd) : FnOk P w K mg base CX0 1 f fd p_law_ends (spD IsX d_law_ends) :=
  fn_ok F sc_law_ends fun wx cdv A outer s H E hr => by
    have sc := sc_law_ends
    exact (DSs.cons (DS.asg (DE.var (pv 0)) (DG.tup rfl (DGs.cons (gN 2 sc.nd) (DGs.cons (gN 3 sc.nd) (DGs.cons (gN 4 sc.nd) (DGs.cons (gN 5 sc.nd) DGs.nil))))) (Frz.tup (Frzs.cons (Frz.name 2) (Frzs.cons (Frz.name 3) (Frzs.cons (Frz.name 4) (Frzs.cons (Frz.name 5) Frzs.nil)))))) (DSs.cons (DS.set (i := 6) sc.nd rfl (by first | exact .inl rfl | exact .inr rfl) (DR.de (DR.callBL (cr_sum rfl) cl_sum (by rfl) M.n_sum boot_sum_ (DR.ls (DR.lc rfl sc.nd (DIF.c (DIF.range1 (by rfl) M.n_range (DA.cons (DR.de (DR.callBQ cr_len cq_len (by rfl) M.n_len boot_len_ (DE.q (DE.var (pv 5))))) DA.nil))) (blkOk_by (N := N_law_ends) (sc := (defScope s_law_ends)) (own := [("k", 7)]) (by decide +kernel)) (fun _ _ _ _ _ => (gN 7 sc.nd)) (fun _ _ _ _ _ => DTs.nil) (fun _ _ _ _ _ => (DR.de (DR.callB (cr_min2D rfl) cd_min2 (by rfl) M.n_min boot_min_ (DA.cons DE.int (DA.cons (eMul (DE.ix (DE.q (DE.ix (DE.q (DE.var (pv 3))) (DE.var (pv 1)))) (DE.var (pv 7))) (DE.ix (DE.q (DE.var (pv 5))) (DE.var (pv 7)))) DA.nil)))))))))) (DSs.one (DS.ret (DE.dr (DE.tup (DA.cons (DE.var (pv 6)) (DA.cons (DR.de (DR.callBL (cr_sum rfl) cl_sum (by rfl) M.n_sum boot_sum_ (DR.ls (DR.lc rfl sc.nd (DIF.c (DIF.range1 (by rfl) M.n_range (DA.cons (DR.de (DR.callBQ cr_len cq_len (by rfl) M.n_len boot_len_ (DE.q (DE.var (pv 5))))) DA.nil))) (blkOk_by (N := N_law_ends) (sc := (defScope s_law_ends)) (own := [("k", 7)]) (by decide +kernel)) (fun _ _ _ _ _ => (gN 7 sc.nd)) (fun _ _ _ _ _ => DTs.nil) (fun _ _ _ _ _ => (DR.de (DR.callB (cr_max2D rfl) cd_max2 (by rfl) M.n_max boot_max_ (DA.cons DE.int (DA.cons (eMul (DE.ix (DE.q (DE.ix (DE.q (DE.var (pv 3))) (DE.var (pv 1)))) (DE.var (pv 7))) (DE.ix (DE.q (DE.var (pv 5))) (DE.var (pv 7)))) DA.nil))))))))) DA.nil))))))))
abbrev s_law_fixes : Stmt := top 42
abbrev N_law_fixes : List Str := ["task", "k", "v", "gains", "rows", "limits", "tops", "column", "up", "row"]
abbrev p_law_fixes : List Str := ["task", "k", "v"]
theorem sc_law_fixes : FnScope N_law_fixes p_law_fixes (defScope s_law_fixes) := ⟨rfl, rfl, rfl, by decide +kernel, rfl, by decide +kernel, by decide +kernel⟩
theorem ok_law_fixes {f : Addr} {fd : FuncData} (M : Mg mg) (F : FunD K "_law_fixes" "_law_fixes" (defArgs s_law_fixes) (defBody s_law_fixes) (defScope s_law_fixes) [] [] f fd) : FnOk P w K mg base CX0 1 f fd p_law_fixes (spD IsX d_law_fixes) :=
  fn_ok F sc_law_fixes fun wx cdv A outer s H E hr => by
    have sc := sc_law_fixes
    have hu := room_hu hr
    exact (DSs.cons (DS.asg (DE.var (pv 0)) (DG.tup rfl (DGs.cons (gN 3 sc.nd) (DGs.cons (gN 4 sc.nd) (DGs.cons (gN 5 sc.nd) (DGs.cons (gN 6 sc.nd) DGs.nil))))) (Frz.tup (Frzs.cons (Frz.name 3) (Frzs.cons (Frz.name 4) (Frzs.cons (Frz.name 5) (Frzs.cons (Frz.name 6) Frzs.nil)))))) (DSs.cons (DS.setLcE (i := 7) rfl sc.nd rfl rfl (sw_true rfl rfl rfl (by decide +kernel)) (DIC.seq (DE.q (DE.var (pv 4)))) (blkOk_by (N := N_law_fixes) (sc := (defScope s_law_fixes)) (own := [("row", 9)]) (by decide +kernel)) (fun _ _ _ _ _ => (gN 9 sc.nd)) (fun _ _ _ _ _ => DTs.nil) (fun _ _ _ _ _ => (DE.ix (DE.q (DE.var (pv 9))) (DE.var (pv 1))))) (DSs.cons (DS.set (i := 8) sc.nd rfl (by first | exact .inl rfl | exact .inr rfl) (DE.and (DE.cmp (cEqA hu) od_eqA (DE.var (pv 2)) (DE.ix (DE.q (DE.var (pv 6))) (DE.var (pv 1)))) (DE.one (DE.or (DE.cmp (cEqA hu) od_eqA (DE.var (pv 2)) DE.int) (DE.one (DE.and (DE.cmp op_ge od_ge (DE.ix (DE.q (DE.var (pv 3))) (DE.var (pv 1))) DE.int) (DE.one (DE.cmp op_le od_le (DR.de (DR.callBL (cr_max rfl) cl_max (by rfl) M.n_max boot_max_ (DE.ls (eAdd (DE.var (pv 7)) (DR.de (DR.lst (DA.cons DE.int DA.nil))))))) DE.int)))))))) (DSs.one (DS.ret (DE.dr (DE.or (DE.var (pv 8)) (DE.one (DE.and (DE.cmp (cEqA hu) od_eqA (DE.var (pv 2)) DE.int) (DE.and (DE.cmp op_le od_le (DE.ix (DE.q (DE.var (pv 3))) (DE.var (pv 1))) DE.int) (DE.one (DE.cmp op_ge od_ge (DR.de (DR.callBL (cr_min rfl) cl_min (by rfl) M.n_min boot_min_ (DE.ls (eAdd (DE.var (pv 7)) (DR.de (DR.lst (DA.cons DE.int DA.nil))))))) DE.int))))))))))))
abbrev s_law_behind : Stmt := top 43
abbrev N_law_behind : List Str := ["state", "step", "names", "task", "fixed", "gains", "rows", "limits", "tops", "low", "high", "left", "k", "room", "less", "now", "i", "j", "row"]
abbrev p_law_behind : List Str := ["state", "step"]
theorem sc_law_behind : FnScope N_law_behind p_law_behind (defScope s_law_behind) := ⟨rfl, rfl, rfl, by decide +kernel, rfl, by decide +kernel, by decide +kernel⟩
theorem ok_law_behind {f : Addr} {fd : FuncData} (M : Mg mg) (G_law_ends : FnD P w K mg base IsX CX0 1 "_law_ends" p_law_ends d_law_ends) (G_law_fixes : FnD P w K mg base IsX CX0 1 "_law_fixes" p_law_fixes d_law_fixes) (F : FunD K "_law_behind" "_law_behind" (defArgs s_law_behind) (defBody s_law_behind) (defScope s_law_behind) [] [] f fd) : FnOk P w K mg base CX0 2 f fd p_law_behind (spD IsX d_law_behind) :=
  fn_ok F sc_law_behind fun wx cdv A outer s H E hr => by
    have sc := sc_law_behind
    have hu := room_hu hr
    exact (DSs.cons (DS.asg (DE.var (pv 0)) (DG.tup rfl (DGs.cons (gN 2 sc.nd) (DGs.cons (gN 3 sc.nd) (DGs.cons (gN 4 sc.nd) DGs.nil)))) (Frz.tup (Frzs.cons (Frz.name 2) (Frzs.cons (Frz.name 3) (Frzs.cons (Frz.name 4) Frzs.nil))))) (DSs.cons (DS.asg (DE.var (pv 3)) (DG.tup rfl (DGs.cons (gN 5 sc.nd) (DGs.cons (gN 6 sc.nd) (DGs.cons (gN 7 sc.nd) (DGs.cons (gN 8 sc.nd) DGs.nil))))) (Frz.tup (Frzs.cons (Frz.name 5) (Frzs.cons (Frz.name 6) (Frzs.cons (Frz.name 7) (Frzs.cons (Frz.name 8) Frzs.nil)))))) (DSs.cons (DS.ifS (DW.t (DW.and (DT.cmp (cIn hu) od_inA (DE.ix (DE.q (DE.var (pv 1))) DE.int) (DR.de (DR.lst (DA.cons DE.str (DA.cons DE.str DA.nil))))) (DW.and (DT.cmp (cEqA hu) od_eqA (DR.de (DR.callBQ cr_len cq_len (by rfl) M.n_len boot_len_ (DE.q (DE.var (pv 1))))) DE.int) (DW.and1 (DT.chain op_le od_le op_lt od_lt DE.int (DE.ix (DE.q (DE.var (pv 1))) DE.int) (DR.de (DR.callBQ cr_len cq_len (by rfl) M.n_len boot_len_ (DE.q (DE.var (pv 6)))))))))) (DSs.cons (DS.asg (DR.de (DR.call G_law_ends (hr.mono (by decide)) (by rfl) (DA.cons (DE.var (pv 3)) (DA.cons (DE.ix (DE.q (DE.var (pv 1))) DE.int) DA.nil)))) (DG.tup rfl (DGs.cons (gN 9 sc.nd) (DGs.cons (gN 10 sc.nd) DGs.nil))) (Frz.tup (Frzs.cons (Frz.name 9) (Frzs.cons (Frz.name 10) Frzs.nil)))) (DSs.cons (DS.ifS (DW.t (DW.and (DT.cmp (cEqA hu) od_eqA (DE.ix (DE.q (DE.var (pv 1))) DE.int) DE.str) (DW.and1 (DT.cmp op_gt od_gt (DE.var (pv 9)) (DE.ix (DE.q (DE.var (pv 7))) (DE.ix (DE.q (DE.var (pv 1))) DE.int)))))) (DSs.one (DS.ret (DE.dr (DE.var (pv 0))))) DSs.nil) (DSs.one (DS.ifS (DW.t (DW.and (DT.cmp (cEqA hu) od_eqA (DE.ix (DE.q (DE.var (pv 1))) DE.int) DE.str) (DW.and1 (DT.cmp op_le od_le (DE.var (pv 10)) (DE.ix (DE.q (DE.var (pv 7))) (DE.ix (DE.q (DE.var (pv 1))) DE.int)))))) (DSs.cons (DS.set (i := 11) sc.nd rfl (by first | exact .inl rfl | exact .inr rfl) (DR.de (DR.lc rfl sc.nd (DIF.c (DIF.range1 (by rfl) M.n_range (DA.cons (DR.de (DR.callBQ cr_len cq_len (by rfl) M.n_len boot_len_ (DE.q (DE.var (pv 6))))) DA.nil))) (blkOk_by (N := N_law_behind) (sc := (defScope s_law_behind)) (own := [("i", 16)]) (by decide +kernel)) (fun _ _ _ _ _ => (gN 16 sc.nd)) (fun _ _ _ _ _ => (DTs.one (DT.cmp (cNeA hu) od_neA (DE.var (pv 16)) (DE.ix (DE.q (DE.var (pv 1))) DE.int)))) (fun _ _ _ _ _ => (DE.var (pv 16)))))) (DSs.one (DS.ret (DE.dr (DE.tup (DA.cons (DE.var (pv 2)) (DA.cons (DE.tup (DA.cons (DE.var (pv 5)) (DA.cons (DR.de (DR.lc rfl sc.nd (DIC.seq (DE.q (DE.var (pv 11)))) (blkOk_by (N := N_law_behind) (sc := (defScope s_law_behind)) (own := [("i", 16)]) (by decide +kernel)) (fun _ _ _ _ _ => (gN 16 sc.nd)) (fun _ _ _ _ _ => DTs.nil) (fun _ _ _ _ _ => (DE.ix (DE.q (DE.var (pv 6))) (DE.var (pv 16)))))) (DA.cons (DR.de (DR.lc rfl sc.nd (DIC.seq (DE.q (DE.var (pv 11)))) (blkOk_by (N := N_law_behind) (sc := (defScope s_law_behind)) (own := [("i", 16)]) (by decide +kernel)) (fun _ _ _ _ _ => (gN 16 sc.nd)) (fun _ _ _ _ _ => DTs.nil) (fun _ _ _ _ _ => (DE.ix (DE.q (DE.var (pv 7))) (DE.var (pv 16)))))) (DA.cons (DE.var (pv 8)) DA.nil))))) (DA.cons (DE.var (pv 4)) DA.nil)))))))) DSs.nil)))) DSs.nil) (DSs.cons (DS.ifS (DW.t (DW.and (DT.cmp (cEqA hu) od_eqA (DR.de (DR.callBQ cr_len cq_len (by rfl) M.n_len boot_len_ (DE.q (DE.var (pv 1))))) DE.int) (DW.and1 (DT.chain op_le od_le op_lt od_lt DE.int (DE.ix (DE.q (DE.var (pv 1))) DE.int) (DR.de (DR.callBQ cr_len cq_len (by rfl) M.n_len boot_len_ (DE.q (DE.var (pv 2))))))))) (DSs.cons (DS.set (i := 12) sc.nd rfl (by first | exact .inl rfl | exact .inr rfl) (DE.ix (DE.q (DE.var (pv 1))) DE.int)) (DSs.cons (DS.ifS (DW.t (DW.and (DT.cmp (cEqA hu) od_eqA (DE.ix (DE.q (DE.var (pv 1))) DE.int) DE.str) (DW.and (DT.chain op_le od_le op_lt od_lt DE.int (DE.ix (DE.q (DE.var (pv 1))) DE.int) (DR.de (DR.callBQ cr_len cq_len (by rfl) M.n_len boot_len_ (DE.q (DE.var (pv 6)))))) (DW.and1 (DT.cmp op_gt od_gt (DE.ix (DE.q (DE.ix (DE.q (DE.var (pv 6))) (DE.ix (DE.q (DE.var (pv 1))) DE.int))) (DE.var (pv 12))) DE.int))))) (DSs.cons (DS.set (i := 13) sc.nd rfl (by first | exact .inl rfl | exact .inr rfl) (eSub (DE.ix (DE.q (DE.var (pv 7))) (DE.ix (DE.q (DE.var (pv 1))) DE.int)) (DE.ix (DE.q (DR.de (DR.call G_law_ends (hr.mono (by decide)) (by rfl) (DA.cons (DE.var (pv 3)) (DA.cons (DE.ix (DE.q (DE.var (pv 1))) DE.int) DA.nil))))) DE.int))) (DSs.one (DS.ifS (DW.t (DW.and (DT.cmp op_le od_le DE.int (DE.var (pv 13))) (DW.and1 (DT.cmp op_lt od_lt (eDiv (DE.var (pv 13)) (DE.ix (DE.q (DE.ix (DE.q (DE.var (pv 6))) (DE.ix (DE.q (DE.var (pv 1))) DE.int))) (DE.var (pv 12)))) (DE.ix (DE.q (DE.var (pv 8))) (DE.var (pv 12))))))) (DSs.one (DS.ret (DE.dr (DE.tup (DA.cons (DE.var (pv 2)) (DA.cons (DE.tup (DA.cons (DE.var (pv 5)) (DA.cons (DE.var (pv 6)) (DA.cons (DE.var (pv 7)) (DA.cons (eAdd (eAdd (DR.de (DR.slA (DE.var (pv 8)) DO.none (DO.one (DE.var (pv 12))))) (DR.de (DR.lst (DA.cons (eDiv (DE.var (pv 13)) (DE.ix (DE.q (DE.ix (DE.q (DE.var (pv 6))) (DE.ix (DE.q (DE.var (pv 1))) DE.int))) (DE.var (pv 12)))) DA.nil)))) (DR.de (DR.slA (DE.var (pv 8)) (DO.one (eAdd (DE.var (pv 12)) DE.int)) DO.none))) DA.nil))))) (DA.cons (DE.var (pv 4)) DA.nil))))))) DSs.nil))) DSs.nil) (DSs.one (DS.ifS (DW.t (DW.and (DT.cmp (cEqA hu) od_eqA (DE.ix (DE.q (DE.var (pv 1))) DE.int) DE.str) (DW.and (DT.cmp op_gt od_gt (DR.de (DR.callBQ cr_len cq_len (by rfl) M.n_len boot_len_ (DE.q (DE.var (pv 2))))) DE.int) (DW.and1 (DT.val (DR.de (DR.call G_law_fixes (hr.mono (by decide)) (by rfl) (DA.cons (DE.var (pv 3)) (DA.cons (DE.var (pv 12)) (DA.cons (DE.ix (DE.q (DE.var (pv 1))) DE.int) DA.nil)))))))))) (DSs.cons (DS.set (i := 11) sc.nd rfl (by first | exact .inl rfl | exact .inr rfl) (DR.de (DR.lc rfl sc.nd (DIF.c (DIF.range1 (by rfl) M.n_range (DA.cons (DR.de (DR.callBQ cr_len cq_len (by rfl) M.n_len boot_len_ (DE.q (DE.var (pv 2))))) DA.nil))) (blkOk_by (N := N_law_behind) (sc := (defScope s_law_behind)) (own := [("j", 17)]) (by decide +kernel)) (fun _ _ _ _ _ => (gN 17 sc.nd)) (fun _ _ _ _ _ => (DTs.one (DT.cmp (cNeA hu) od_neA (DE.var (pv 17)) (DE.var (pv 12))))) (fun _ _ _ _ _ => (DE.var (pv 17)))))) (DSs.cons (DS.setLcE (i := 14) rfl sc.nd rfl rfl (sw_true rfl rfl rfl (by decide +kernel)) (DIF.c (DIF.range1 (by rfl) M.n_range (DA.cons (DR.de (DR.callBQ cr_len cq_len (by rfl) M.n_len boot_len_ (DE.q (DE.var (pv 6))))) DA.nil))) (blkOk_by (N := N_law_behind) (sc := (defScope s_law_behind)) (own := [("i", 16)]) (by decide +kernel)) (fun _ _ _ _ _ => (gN 16 sc.nd)) (fun _ _ _ _ _ => DTs.nil) (fun _ _ _ _ _ => (eSub (DE.ix (DE.q (DE.var (pv 7))) (DE.var (pv 16))) (eMul (DE.ix (DE.q (DE.ix (DE.q (DE.var (pv 6))) (DE.var (pv 16)))) (DE.var (pv 12))) (DE.ix (DE.q (DE.var (pv 1))) DE.int))))) (DSs.cons (DS.set (i := 15) sc.nd rfl (by first | exact .inl rfl | exact .inr rfl) (DE.tup (DA.cons (DR.de (DR.lc rfl sc.nd (DIC.seq (DE.q (DE.var (pv 11)))) (blkOk_by (N := N_law_behind) (sc := (defScope s_law_behind)) (own := [("j", 17)]) (by decide +kernel)) (fun _ _ _ _ _ => (gN 17 sc.nd)) (fun _ _ _ _ _ => DTs.nil) (fun _ _ _ _ _ => (DE.ix (DE.q (DE.var (pv 5))) (DE.var (pv 17)))))) (DA.cons (DR.de (DR.lc rfl sc.nd (DIC.seq (DE.q (DE.var (pv 6)))) (blkOk_by (N := N_law_behind) (sc := (defScope s_law_behind)) (own := [("row", 18)]) (by decide +kernel)) (fun _ _ _ _ _ => (gN 18 sc.nd)) (fun _ _ _ _ _ => DTs.nil) (fun _ _ _ _ _ => (DR.de (DR.lc rfl sc.nd (DIC.seq (DE.q (DE.var (pv 11)))) (blkOk_by (N := N_law_behind) (sc := (relS _ (defScope s_law_behind))) (own := [("j", 17)]) (by decide +kernel)) (fun _ _ _ _ _ => (gN 17 sc.nd)) (fun _ _ _ _ _ => DTs.nil) (fun _ _ _ _ _ => (DE.ix (DE.q (DE.var (pv 18))) (DE.var (pv 17))))))))) (DA.cons (DE.var (pv 14)) (DA.cons (DR.de (DR.lc rfl sc.nd (DIC.seq (DE.q (DE.var (pv 11)))) (blkOk_by (N := N_law_behind) (sc := (defScope s_law_behind)) (own := [("j", 17)]) (by decide +kernel)) (fun _ _ _ _ _ => (gN 17 sc.nd)) (fun _ _ _ _ _ => DTs.nil) (fun _ _ _ _ _ => (DE.ix (DE.q (DE.var (pv 8))) (DE.var (pv 17)))))) DA.nil)))))) (DSs.one (DS.ret (DR.tp (DR.lc rfl sc.nd (DIC.seq (DE.q (DE.var (pv 11)))) (blkOk_by (N := N_law_behind) (sc := (defScope s_law_behind)) (own := [("j", 17)]) (by decide +kernel)) (fun _ _ _ _ _ => (gN 17 sc.nd)) (fun _ _ _ _ _ => DTs.nil) (fun _ _ _ _ _ => (DE.ix (DE.q (DE.var (pv 2))) (DE.var (pv 17))))) (DA.cons (DE.var (pv 15)) (DA.cons (DR.de (DR.callBL (cr_sortedD hu) cl_sorted (by rfl) M.n_sorted boot_sorted_ (DE.ls (eAdd (DE.var (pv 4)) (DR.de (DR.lst (DA.cons (DE.tup (DA.cons (DE.ix (DE.q (DE.var (pv 2))) (DE.var (pv 12))) (DA.cons (DE.ix (DE.q (DE.var (pv 1))) DE.int) DA.nil))) DA.nil))))))) DA.nil)))))))) DSs.nil)))) DSs.nil) (DSs.one (DS.ret (DE.dr DE.non)))))))
abbrev s_law_tried : Stmt := top 44
abbrev N_law_tried : List Str := ["state", "names", "task", "fixed", "lines", "found", "k", "i"]
abbrev p_law_tried : List Str := ["state"]
theorem sc_law_tried : FnScope N_law_tried p_law_tried (defScope s_law_tried) := ⟨rfl, rfl, rfl, by decide +kernel, rfl, by decide +kernel, by decide +kernel⟩
theorem ok_law_tried {f : Addr} {fd : FuncData} (M : Mg mg) (F : FunD K "_law_tried" "_law_tried" (defArgs s_law_tried) (defBody s_law_tried) (defScope s_law_tried) [] [] f fd) : FnOk P w K mg base CX0 1 f fd p_law_tried (spD IsX d_law_tried) :=
  fn_ok F sc_law_tried fun wx cdv A outer s H E hr => by
    have sc := sc_law_tried
    exact (DSs.cons (DS.asg (DE.var (pv 0)) (DG.tup rfl (DGs.cons (gN 1 sc.nd) (DGs.cons (gN 2 sc.nd) (DGs.cons (gN 3 sc.nd) DGs.nil)))) (Frz.tup (Frzs.cons (Frz.name 1) (Frzs.cons (Frz.name 2) (Frzs.cons (Frz.name 3) Frzs.nil))))) (DSs.cons (DS.set (i := 4) sc.nd rfl (by first | exact .inl rfl | exact .inr rfl) (DR.de (DR.listRg1 (by rfl) M.n_list (by rfl) M.n_range (DR.de (DR.callBQ cr_len cq_len (by rfl) M.n_len boot_len_ (DE.q (DE.ix (DE.q (DE.var (pv 2))) DE.int))))))) (DSs.cons (DS.set (i := 5) sc.nd rfl (by first | exact .inl rfl | exact .inr rfl) (eAdd (DR.de (DR.lc rfl sc.nd (DIC.seq (DE.q (DE.var (pv 4)))) (blkOk_by (N := N_law_tried) (sc := (defScope s_law_tried)) (own := [("i", 7)]) (by decide +kernel)) (fun _ _ _ _ _ => (gN 7 sc.nd)) (fun _ _ _ _ _ => DTs.nil) (fun _ _ _ _ _ => (DE.tup (DA.cons DE.str (DA.cons (DE.var (pv 7)) DA.nil)))))) (DR.de (DR.lc rfl sc.nd (DIC.seq (DE.q (DE.var (pv 4)))) (blkOk_by (N := N_law_tried) (sc := (defScope s_law_tried)) (own := [("i", 7)]) (by decide +kernel)) (fun _ _ _ _ _ => (gN 7 sc.nd)) (fun _ _ _ _ _ => DTs.nil) (fun _ _ _ _ _ => (DE.tup (DA.cons DE.str (DA.cons (DE.var (pv 7)) DA.nil)))))))) (DSs.cons (DS.for_ PassesOwn.never rfl (DIF.range1 (by rfl) M.n_range (DA.cons (DR.de (DR.callBQ cr_len cq_len (by rfl) M.n_len boot_len_ (DE.q (DE.var (pv 1))))) DA.nil)) (gN 6 sc.nd) (Frz.name 6) (DSs.one (DS.set (i := 5) sc.nd rfl (by first | exact .inl rfl | exact .inr rfl) (eAdd (DE.var (pv 5)) (DR.de (DR.lc rfl sc.nd (DIC.seq (DE.q (DE.var (pv 4)))) (blkOk_by (N := N_law_tried) (sc := (defScope s_law_tried)) (own := [("i", 7)]) (by decide +kernel)) (fun _ _ _ _ _ => (gN 7 sc.nd)) (fun _ _ _ _ _ => DTs.nil) (fun _ _ _ _ _ => (DE.tup (DA.cons DE.str (DA.cons (DE.var (pv 6)) (DA.cons (DE.var (pv 7)) DA.nil))))))))))) (DSs.cons (DS.for_ PassesOwn.never rfl (DIF.range1 (by rfl) M.n_range (DA.cons (DR.de (DR.callBQ cr_len cq_len (by rfl) M.n_len boot_len_ (DE.q (DE.var (pv 1))))) DA.nil)) (gN 6 sc.nd) (Frz.name 6) (DSs.one (DS.set (i := 5) sc.nd rfl (by first | exact .inl rfl | exact .inr rfl) (eAdd (DE.var (pv 5)) (DR.de (DR.lst (DA.cons (DE.tup (DA.cons DE.str (DA.cons (DE.var (pv 6)) (DA.cons (DE.ix (DE.q (DE.ix (DE.q (DE.var (pv 2))) DE.int)) (DE.var (pv 6))) DA.nil)))) (DA.cons (DE.tup (DA.cons DE.str (DA.cons (DE.var (pv 6)) (DA.cons DE.int DA.nil)))) DA.nil)))))))) (DSs.one (DS.ret (DE.dr (DE.var (pv 5))))))))))
abbrev s_law_best : Stmt := top 45
abbrev N_law_best : List Str := ["task", "told", "plan"]
abbrev p_law_best : List Str := ["task"]
theorem sc_law_best : FnScope N_law_best p_law_best (defScope s_law_best) := ⟨rfl, rfl, rfl, by decide +kernel, rfl, by decide +kernel, by decide +kernel⟩
theorem ok_law_best {f : Addr} {fd : FuncData} (M : Mg mg) (G_law_plans : FnD P w K mg base IsX CX0 3 "_law_plans" p_law_plans d_law_plans) (G_law_sum_by : FnD P w K mg base IsX CX0 1 "_law_sum_by" p_law_sum_by d_law_sum_by) (F : FunD K "_law_best" "_law_best" (defArgs s_law_best) (defBody s_law_best) (defScope s_law_best) [] [] f fd) : FnOk P w K mg base CX0 4 f fd p_law_best (spD IsX d_law_best) :=
  fn_ok F sc_law_best fun wx cdv A outer s H E hr => by
    have sc := sc_law_best
    exact (DSs.cons (DS.setLcE (i := 1) rfl sc.nd rfl rfl (sw_true rfl rfl rfl (by decide +kernel)) (DIC.seq (DE.q (DR.de (DR.call G_law_plans (hr.mono (by decide)) (by rfl) (DA.cons (DE.var (pv 0)) DA.nil))))) (blkOk_by (N := N_law_best) (sc := (defScope s_law_best)) (own := [("plan", 2)]) (by decide +kernel)) (fun _ _ _ _ _ => (gN 2 sc.nd)) (fun _ _ _ _ _ => DTs.nil) (fun _ _ _ _ _ => (DR.de (DR.call G_law_sum_by (hr.mono (by decide)) (by rfl) (DA.cons (DE.ix (DE.q (DE.var (pv 0))) DE.int) (DA.cons (DE.var (pv 2)) DA.nil)))))) (DSs.one (DS.ret (DR.callBL (cr_max rfl) cl_max (by rfl) M.n_max boot_max_ (DE.ls (eAdd (DE.var (pv 1)) (DR.de (DR.lst (DA.cons (eNeg DE.int) DA.nil)))))))))
abbrev s_law_kept : Stmt := top 46
abbrev N_law_kept : List Str := ["task", "state", "step", "other", "base", "more", "before", "now", "name", "value"]
abbrev p_law_kept : List Str := ["task", "state", "step", "other"]
theorem sc_law_kept : FnScope N_law_kept p_law_kept (defScope s_law_kept) := ⟨rfl, rfl, rfl, by decide +kernel, rfl, by decide +kernel, by decide +kernel⟩
theorem ok_law_kept {f : Addr} {fd : FuncData} (M : Mg mg) (G_law_best : FnD P w K mg base IsX CX0 4 "_law_best" p_law_best d_law_best) (G_law_plans : FnD P w K mg base IsX CX0 3 "_law_plans" p_law_plans d_law_plans) (F : FunD K "_law_kept" "_law_kept" (defArgs s_law_kept) (defBody s_law_kept) (defScope s_law_kept) [] [] f fd) : FnOk P w K mg base CX0 5 f fd p_law_kept (spD IsX d_law_kept) :=
  fn_ok F sc_law_kept fun wx cdv A outer s H E hr => by
    have sc := sc_law_kept
    have hu := room_hu hr
    exact (DSs.cons (DS.ifS (DT.cmp (cEqA hu) od_eqA (DE.ix (DE.q (DE.var (pv 2))) DE.int) DE.str) (DSs.one (DS.ret (DE.dr (DE.cmp (cEqA hu) od_eqA (DR.de (DR.call G_law_plans (hr.mono (by decide)) (by rfl) (DA.cons (DE.ix (DE.q (DE.var (pv 1))) DE.int) DA.nil))) (DR.de (DR.lst DA.nil)))))) DSs.nil) (DSs.cons (DS.set (i := 4) sc.nd rfl (by first | exact .inl rfl | exact .inr rfl) (DR.de (DR.callBL (cr_sum rfl) cl_sum (by rfl) M.n_sum boot_sum_ (DR.ls (DR.lc rfl sc.nd (DIC.seq (DE.q (DE.ix (DE.q (DE.var (pv 1))) DE.int))) (blkOk_by (N := N_law_kept) (sc := (defScope s_law_kept)) (own := [("name", 8), ("value", 9)]) (by decide +kernel)) (fun _ _ _ _ _ => (DG.tup rfl (DGs.cons (gN 8 sc.nd) (DGs.cons (gN 9 sc.nd) DGs.nil)))) (fun _ _ _ _ _ => DTs.nil) (fun _ _ _ _ _ => (eMul (DE.ix (DE.q (DE.ix (DE.q (DE.var (pv 0))) DE.int)) (DE.var (pv 8))) (DE.var (pv 9))))))))) (DSs.cons (DS.set (i := 5) sc.nd rfl (by first | exact .inl rfl | exact .inr rfl) (DR.de (DR.callBL (cr_sum rfl) cl_sum (by rfl) M.n_sum boot_sum_ (DR.ls (DR.lc rfl sc.nd (DIC.seq (DE.q (DE.ix (DE.q (DE.var (pv 3))) DE.int))) (blkOk_by (N := N_law_kept) (sc := (defScope s_law_kept)) (own := [("name", 8), ("value", 9)]) (by decide +kernel)) (fun _ _ _ _ _ => (DG.tup rfl (DGs.cons (gN 8 sc.nd) (DGs.cons (gN 9 sc.nd) DGs.nil)))) (fun _ _ _ _ _ => DTs.nil) (fun _ _ _ _ _ => (eMul (DE.ix (DE.q (DE.ix (DE.q (DE.var (pv 0))) DE.int)) (DE.var (pv 8))) (DE.var (pv 9))))))))) (DSs.cons (DS.set (i := 6) sc.nd rfl (by first | exact .inl rfl | exact .inr rfl) (DR.de (DR.call G_law_best (hr.mono (by decide)) (by rfl) (DA.cons (DE.ix (DE.q (DE.var (pv 1))) DE.int) DA.nil)))) (DSs.cons (DS.set (i := 7) sc.nd rfl (by first | exact .inl rfl | exact .inr rfl) (DR.de (DR.call G_law_best (hr.mono (by decide)) (by rfl) (DA.cons (DE.ix (DE.q (DE.var (pv 3))) DE.int) DA.nil)))) (DSs.one (DS.ret (DE.dr (DE.or (DE.and (DE.cmp (cEqA hu) od_eqA (DE.var (pv 6)) (eNeg DE.int)) (DE.one (DE.cmp (cEqA hu) od_eqA (DE.var (pv 7)) (eNeg DE.int)))) (DE.one (DE.and (DE.cmp (cEqA hu) od_eqA (eAdd (DE.var (pv 6)) (DE.var (pv 4))) (eAdd (DE.var (pv 7)) (DE.var (pv 5)))) (DE.one (DE.cmp op_gt od_gt (DE.var (pv 7)) (eNeg DE.int))))))))))))))
abbrev s_law : Stmt := top 47
abbrev N_law : List Str := ["script", "draws", "task", "kept", "first", "state", "steps", "going", "good", "other", "tries", "t", "one", "base", "plan", "whole", "name", "value", "k", "due", "step"]
abbrev p_law : List Str := ["script"]
theorem sc_law : FnScope N_law p_law (defScope s_law) := ⟨rfl, rfl, rfl, by decide +kernel, rfl, by decide +kernel, by decide +kernel⟩
theorem bd_law (M : Mg mg) (G_law_behind : FnD P w K mg base IsX CX0 2 "_law_behind" p_law_behind d_law_behind) (G_law_draws : FnS P w K mg base IsX CX0 1 "_law_draws" p_law_draws (d_law_draws K)) (G_law_is_plan : FnD P w K mg base IsX CX0 2 "_law_is_plan" p_law_is_plan d_law_is_plan) (G_law_kept : FnD P w K mg base IsX CX0 5 "_law_kept" p_law_kept d_law_kept) (G_law_mix : FnD P w K mg base IsX CX0 1 "_law_mix" p_law_mix d_law_mix) (G_law_plans : FnD P w K mg base IsX CX0 3 "_law_plans" p_law_plans d_law_plans) (G_law_sum_by : FnD P w K mg base IsX CX0 1 "_law_sum_by" p_law_sum_by d_law_sum_by) (G_law_task : FnD P w K mg base IsX CX0 2 "_law_task" p_law_task d_law_task) (G_law_tried : FnD P w K mg base IsX CX0 1 "_law_tried" p_law_tried d_law_tried) (G_behind : FnD P w K mg base IsX CX0 3 "behind" p_behind d_behind) (G_fixed_gain : FnD P w K mg base IsX CX0 3 "fixed_gain" p_fixed_gain d_fixed_gain) (G_start : FnD P w K mg base IsX CX0 3 "start" p_start d_start) (G_whole_plan : FnD P w K mg base IsX CX0 1 "whole_plan" p_whole_plan d_whole_plan) (G_worn : FnD P w K mg base IsX CX0 6 "worn" p_worn d_worn) (wx : Str → Int → Prop) (f : Addr) (cdv : Value) (A : Around) (outer : List PySem.Env) (s : Shared) (H : Hp) (E : XK) (hg : A.guards = some []) (hr : Room 6 (A.deeper (PyProof.Rows.envOfC "law" (defScope s_law) s.heap.objs.size f cdv))) : DSs wx (cxOf CX0 P w K mg base N_law "law" (defScope s_law) f cdv A outer s H E).nox (defBody s_law) (b_law K) := by
    have sc := sc_law
    have hu := room_hu hr
    exact (DSs.cons (DS.set (i := 1) sc.nd rfl (by first | exact .inl rfl | exact .inr rfl) (DR.de (DR.callSc G_law_draws (hr.mono (by decide)) (by rfl) (pv 0)))) (DSs.cons (DS.set (i := 2) sc.nd rfl (by first | exact .inl rfl | exact .inr rfl) (DR.de (DR.call G_law_task (hr.mono (by decide)) (by rfl) (DA.cons (DE.var (pv 1)) (DA.cons DE.int (DA.cons DE.int (DA.cons DE.int DA.nil))))))) (DSs.cons (DS.set (i := 3) sc.nd rfl (by first | exact .inl rfl | exact .inr rfl) (DR.de (DR.callB (cr_repr hg hu) cd_repr (by rfl) M.n_repr boot_repr_ (DA.cons (DE.var (pv 2)) DA.nil)))) (DSs.cons (DS.set (i := 4) sc.nd rfl (by first | exact .inl rfl | exact .inr rfl) (DE.tup (DA.cons (DR.de (DR.listRg1 (by rfl) M.n_list (by rfl) M.n_range (DR.de (DR.callBQ cr_len cq_len (by rfl) M.n_len boot_len_ (DE.q (DE.ix (DE.q (DE.var (pv 2))) DE.int)))))) (DA.cons (DE.var (pv 2)) (DA.cons (DR.de (DR.lst DA.nil)) DA.nil))))) (DSs.cons (DS.ifS (DT.cmp (cNeA hu) od_neA (DR.de (DR.callB (cr_repr hg hu) cd_repr (by rfl) M.n_repr boot_repr_ (DA.cons (DR.de (DR.call G_start (hr.mono (by decide)) (by rfl) (DA.cons (DE.var (pv 2)) DA.nil))) DA.nil))) (DR.de (DR.callB (cr_repr hg hu) cd_repr (by rfl) M.n_repr boot_repr_ (DA.cons (DE.var (pv 4)) DA.nil)))) (DSs.one (DS.ret (DE.dr DE.bl))) DSs.nil) (DSs.cons (DS.set (i := 5) sc.nd rfl (by first | exact .inl rfl | exact .inr rfl) (DE.var (pv 4))) (DSs.cons (DS.setR (i := 6) sc.nd rfl (by first | exact .inl rfl | exact .inr rfl) (DR.lst DA.nil)) (DSs.cons (DS.set (i := 7) sc.nd rfl (by first | exact .inl rfl | exact .inr rfl) DE.bl) (DSs.cons (DS.while_ (n := wN) PassesOwn.never (DT.val (DE.var (pv 7))) (DSs.cons (DS.setLcE (i := 8) rfl sc.nd rfl rfl (sw_true rfl rfl rfl (by decide +kernel)) (DIC.seq (DE.q (DR.de (DR.call G_law_tried (hr.mono (by decide)) (by rfl) (DA.cons (DE.var (pv 5)) DA.nil))))) (blkOk_by (N := N_law) (sc := (defScope s_law)) (own := [("step", 20)]) (by decide +kernel)) (fun _ _ _ _ _ => (gN 20 sc.nd)) (fun _ _ _ _ _ => (DTs.one (DT.cmp op_isNotD od_isNot (DR.de (DR.call G_law_behind (hr.mono (by decide)) (by rfl) (DA.cons (DE.var (pv 5)) (DA.cons (DE.var (pv 20)) DA.nil)))) DE.non))) (fun _ _ _ _ _ => (DE.var (pv 20)))) (DSs.cons (DS.set (i := 7) sc.nd rfl (by first | exact .inl rfl | exact .inr rfl) (DE.cmp (cNeA hu) od_neA (DE.var (pv 8)) (DR.de (DR.lst DA.nil)))) (DSs.one (DS.ifS (DT.val (DE.var (pv 7))) (DSs.cons (DS.set (i := 9) sc.nd rfl (by first | exact .inl rfl | exact .inr rfl) (DR.de (DR.call G_law_behind (hr.mono (by decide)) (by rfl) (DA.cons (DE.var (pv 5)) (DA.cons (DE.ix (DE.q (DE.var (pv 8))) DE.int) DA.nil))))) (DSs.cons (DS.ifS (DW.t (DW.or (DT.cmp (cNeA hu) od_neA (DR.de (DR.callB (cr_repr hg hu) cd_repr (by rfl) M.n_repr boot_repr_ (DA.cons (DR.de (DR.call G_behind (hr.mono (by decide)) (by rfl) (DA.cons (DE.var (pv 5)) (DA.cons (DE.ix (DE.q (DE.var (pv 8))) DE.int) DA.nil)))) DA.nil))) (DR.de (DR.callB (cr_repr hg hu) cd_repr (by rfl) M.n_repr boot_repr_ (DA.cons (DE.var (pv 9)) DA.nil)))) (DW.or1 (DT.not (DT.val (DR.de (DR.call G_law_kept (hr.mono (by decide)) (by rfl) (DA.cons (DE.var (pv 2)) (DA.cons (DE.var (pv 5)) (DA.cons (DE.ix (DE.q (DE.var (pv 8))) DE.int) (DA.cons (DE.var (pv 9)) DA.nil))))))))))) (DSs.one (DS.ret (DE.dr DE.bl))) DSs.nil) (DSs.cons (DS.set (i := 10) sc.nd rfl (by first | exact .inl rfl | exact .inr rfl) (eAdd (DR.de (DR.call G_law_tried (hr.mono (by decide)) (by rfl) (DA.cons (DE.var (pv 5)) DA.nil))) (DR.de (DR.lst (DA.cons (DE.tup (DA.cons DE.str (DA.cons DE.int DA.nil))) (DA.cons (DE.tup (DA.cons DE.str (DA.cons DE.int (DA.cons DE.int DA.nil)))) (DA.cons (DE.tup (DA.cons DE.str (DA.cons (eNeg DE.int) (DA.cons DE.int DA.nil)))) (DA.cons (DE.tup (DA.cons DE.str (DA.cons DE.int (DA.cons DE.int DA.nil)))) (DA.cons (DE.tup (DA.cons DE.str DA.nil)) (DA.cons (DE.tup (DA.cons DE.str (DA.cons DE.int DA.nil))) (DA.cons (DE.tup (DA.cons DE.str (DA.cons DE.int (DA.cons DE.int DA.nil)))) DA.nil))))))))))) (DSs.cons (DS.for_ PassesOwn.never rfl (DIF.range1 (by rfl) M.n_range (DA.cons DE.int DA.nil)) (gN 11 sc.nd) (Frz.name 11) (DSs.cons (DS.set (i := 12) sc.nd rfl (by first | exact .inl rfl | exact .inr rfl) (DE.ix (DE.q (DE.var (pv 10))) (DR.de (DR.call G_law_mix (hr.mono (by decide)) (by rfl) (DA.cons (DE.var (pv 1)) (DA.cons (eAdd (eAdd DE.int (eMul DE.int (DR.de (DR.callBQ cr_len cq_len (by rfl) M.n_len boot_len_ (DLs.q (DLs.var (pv 6))))))) (DE.var (pv 11))) (DA.cons (DR.de (DR.callBQ cr_len cq_len (by rfl) M.n_len boot_len_ (DE.q (DE.var (pv 10))))) DA.nil))))))) (DSs.one (DS.ifS (DT.cmp (cNeA hu) od_neA (DR.de (DR.callB (cr_repr hg hu) cd_repr (by rfl) M.n_repr boot_repr_ (DA.cons (DR.de (DR.call G_behind (hr.mono (by decide)) (by rfl) (DA.cons (DE.var (pv 5)) (DA.cons (DE.var (pv 12)) DA.nil)))) DA.nil))) (DR.de (DR.callB (cr_repr hg hu) cd_repr (by rfl) M.n_repr boot_repr_ (DA.cons (DR.de (DR.call G_law_behind (hr.mono (by decide)) (by rfl) (DA.cons (DE.var (pv 5)) (DA.cons (DE.var (pv 12)) DA.nil)))) DA.nil)))) (DSs.one (DS.ret (DE.dr DE.bl))) DSs.nil)))) (DSs.cons (DS.app (pv 6) (DE.ix (DE.q (DE.var (pv 8))) DE.int)) (DSs.cons (DS.set (i := 5) sc.nd rfl (by first | exact .inl rfl | exact .inr rfl) (DE.var (pv 9))) (DSs.one (DS.set (i := 7) sc.nd rfl (by first | exact .inl rfl | exact .inr rfl) (DE.cmp (cNeA hu) od_neA (DE.ix (DE.q (DE.ix (DE.q (DE.var (pv 8))) DE.int)) DE.int) DE.str))))))))) DSs.nil))))) (DSs.ice 6 (DSs.cons (DS.ifS (DT.cmp (cNeA hu) od_neA (DR.de (DR.callB (cr_repr hg hu) cd_repr (by rfl) M.n_repr boot_repr_ (DA.cons (DR.de (DR.call G_worn (hr.mono (by decide)) (by rfl) (DA.cons (DE.var (pv 2)) DA.nil))) DA.nil))) (DR.de (DR.callB (cr_repr hg hu) cd_repr (by rfl) M.n_repr boot_repr_ (DA.cons (DE.tup (DA.cons (DE.var (pv 6)) (DA.cons (DE.var (pv 5)) DA.nil))) DA.nil)))) (DSs.one (DS.ret (DE.dr DE.bl))) DSs.nil) (DSs.cons (DS.set (i := 13) sc.nd rfl (by first | exact .inl rfl | exact .inr rfl) (DR.de (DR.callBL (cr_sum rfl) cl_sum (by rfl) M.n_sum boot_sum_ (DR.ls (DR.lc rfl sc.nd (DIC.seq (DE.q (DE.ix (DE.q (DE.var (pv 5))) DE.int))) (blkOk_by (N := N_law) (sc := (defScope s_law)) (own := [("name", 16), ("value", 17)]) (by decide +kernel)) (fun _ _ _ _ _ => (DG.tup rfl (DGs.cons (gN 16 sc.nd) (DGs.cons (gN 17 sc.nd) DGs.nil)))) (fun _ _ _ _ _ => DTs.nil) (fun _ _ _ _ _ => (eMul (DE.ix (DE.q (DE.ix (DE.q (DE.var (pv 2))) DE.int)) (DE.var (pv 16))) (DE.var (pv 17))))))))) (DSs.cons (DS.ifS (DT.cmp (cNeA hu) od_neA (DR.de (DR.callB (cr_repr hg hu) cd_repr (by rfl) M.n_repr boot_repr_ (DA.cons (DR.de (DR.call G_fixed_gain (hr.mono (by decide)) (by rfl) (DA.cons (DE.var (pv 2)) (DA.cons (DE.var (pv 5)) DA.nil)))) DA.nil))) (DR.de (DR.callB (cr_repr hg hu) cd_repr (by rfl) M.n_repr boot_repr_ (DA.cons (DE.var (pv 13)) DA.nil)))) (DSs.one (DS.ret (DE.dr DE.bl))) DSs.nil) (DSs.cons (DS.for_ PassesOwn.never rfl (DIF.seq (DR.de (DR.slA (DR.de (DR.call G_law_plans (hr.mono (by decide)) (by rfl) (DA.cons (DE.ix (DE.q (DE.var (pv 5))) DE.int) DA.nil))) DO.none (DO.one DE.int)))) (gN 14 sc.nd) (Frz.name 14) (DSs.cons (DS.dnew (i := 15) sc.nd rfl (by first | exact .inl rfl | exact .inr rfl)) (DSs.cons (DS.for_ PassesOwn.never rfl (DIF.seq (DE.ix (DE.q (DE.var (pv 5))) DE.int)) (DG.tup rfl (DGs.cons (gN 16 sc.nd) (DGs.cons (gN 17 sc.nd) DGs.nil))) (Frz.tup (Frzs.cons (Frz.name 16) (Frzs.cons (Frz.name 17) Frzs.nil))) (DSs.one (DS.dput hu (DE.var (pv 17)) (pv 15) (DE.var (pv 16))))) (DSs.cons (DS.for_ PassesOwn.never rfl (DIF.range1 (by rfl) M.n_range (DA.cons (DR.de (DR.callBQ cr_len cq_len (by rfl) M.n_len boot_len_ (DE.q (DE.var (pv 14))))) DA.nil)) (gN 18 sc.nd) (Frz.name 18) (DSs.one (DS.dput hu (DE.ix (DE.q (DE.var (pv 14))) (DE.var (pv 18))) (pv 15) (DE.ix (DE.q (DE.ix (DE.q (DE.var (pv 5))) DE.int)) (DE.var (pv 18)))))) (DSs.cons (DS.set (i := 19) sc.nd rfl (by first | exact .inl rfl | exact .inr rfl) (DR.de (DR.callTyL cr_tuple cl_tuple (by rfl) M.n_tuple boot_tuple_ (DR.ls (DR.lc rfl sc.nd (DIF.c (DIF.range1 (by rfl) M.n_range (DA.cons (DR.de (DR.callBQ cr_len cq_len (by rfl) M.n_len boot_len_ (DE.q (DE.ix (DE.q (DE.var (pv 2))) DE.int)))) DA.nil))) (blkOk_by (N := N_law) (sc := (defScope s_law)) (own := [("name", 16)]) (by decide +kernel)) (fun _ _ _ _ _ => (gN 16 sc.nd)) (fun _ _ _ _ _ => DTs.nil) (fun _ _ _ _ _ => (DE.dget hu (pv 15) (DE.var (pv 16))))))))) (DSs.one (DS.ifS (DW.t (DW.or (DT.cmp (cNeA hu) od_neA (DR.de (DR.callB (cr_repr hg hu) cd_repr (by rfl) M.n_repr boot_repr_ (DA.cons (DR.de (DR.call G_whole_plan (hr.mono (by decide)) (by rfl) (DA.cons (DE.var (pv 5)) (DA.cons (DE.var (pv 14)) DA.nil)))) DA.nil))) (DR.de (DR.callB (cr_repr hg hu) cd_repr (by rfl) M.n_repr boot_repr_ (DA.cons (DE.var (pv 19)) DA.nil)))) (DW.or (DT.not (DT.val (DR.de (DR.call G_law_is_plan (hr.mono (by decide)) (by rfl) (DA.cons (DE.var (pv 2)) (DA.cons (DE.var (pv 19)) DA.nil)))))) (DW.or1 (DT.cmp (cNeA hu) od_neA (DR.de (DR.call G_law_sum_by (hr.mono (by decide)) (by rfl) (DA.cons (DE.ix (DE.q (DE.var (pv 2))) DE.int) (DA.cons (DE.var (pv 19)) DA.nil)))) (eAdd (DE.var (pv 13)) (DR.de (DR.call G_law_sum_by (hr.mono (by decide)) (by rfl) (DA.cons (DE.ix (DE.q (DE.ix (DE.q (DE.var (pv 5))) DE.int)) DE.int) (DA.cons (DE.var (pv 14)) DA.nil)))))))))) (DSs.one (DS.ret (DE.dr DE.bl))) DSs.nil))))))) (DSs.cons (DS.tapp (DR.call G_start (hr.mono (by decide)) (by rfl) (DA.cons (DE.var (pv 2)) DA.nil)) DE.int) (DSs.cons (DS.tapp (DR.call G_worn (hr.mono (by decide)) (by rfl) (DA.cons (DE.var (pv 2)) DA.nil)) DE.int) (DSs.ice 6 (DSs.one (DS.ret (DE.dr (DE.and (DE.cmp (cEqA hu) od_eqA (DR.de (DR.callB (cr_repr hg hu) cd_repr (by rfl) M.n_repr boot_repr_ (DA.cons (DR.de (DR.call G_worn (hr.mono (by decide)) (by rfl) (DA.cons (DE.var (pv 2)) DA.nil))) DA.nil))) (DR.de (DR.callB (cr_repr hg hu) cd_repr (by rfl) M.n_repr boot_repr_ (DA.cons (DE.tup (DA.cons (DE.var (pv 6)) (DA.cons (DE.var (pv 5)) DA.nil))) DA.nil)))) (DE.one (DE.cmp (cEqA hu) od_eqA (DR.de (DR.callB (cr_repr hg hu) cd_repr (by rfl) M.n_repr boot_repr_ (DA.cons (DE.var (pv 2)) DA.nil))) (DE.var (pv 3)))))))))))))))))))))))))
end
end K80

set_option Elab.async false
set_option linter.all false
set_option maxRecDepth 100000
set_option maxHeartbeats 0
namespace K80
open PySem PySem.Spec PyProof.Rows L2 DL
/-! ### the head -/
def h_are_numbers : He.DefD := ⟨("are_numbers", none), "are_numbers", "are_numbers", defArgs s_are_numbers, defBody s_are_numbers, defScope s_are_numbers, [], []⟩
def h_tuples_within : He.DefD := ⟨("tuples_within", none), "tuples_within", "tuples_within", defArgs s_tuples_within, defBody s_tuples_within, defScope s_tuples_within, [], []⟩
def h_check_task : He.DefD := ⟨("check_task", none), "check_task", "check_task", defArgs s_check_task, defBody s_check_task, defScope s_check_task, [], []⟩
def h_start_of : He.DefD := ⟨("start_of", none), "start_of", "start_of", defArgs s_start_of, defBody s_start_of, defScope s_start_of, [], []⟩
def h_start : He.DefD := ⟨("start", none), "start", "start", defArgs s_start, defBody s_start, defScope s_start, [], []⟩
def h_least_sum : He.DefD := ⟨("least_sum", none), "least_sum", "least_sum", defArgs s_least_sum, defBody s_least_sum, defScope s_least_sum, [], []⟩
def h_greatest_sum : He.DefD := ⟨("greatest_sum", none), "greatest_sum", "greatest_sum", defArgs s_greatest_sum, defBody s_greatest_sum, defScope s_greatest_sum, [], []⟩
def h_without_row : He.DefD := ⟨("without_row", none), "without_row", "without_row", defArgs s_without_row, defBody s_without_row, defScope s_without_row, [], []⟩
def h_lowered : He.DefD := ⟨("lowered", none), "lowered", "lowered", defArgs s_lowered, defBody s_lowered, defScope s_lowered, [], []⟩
def h_may_fix : He.DefD := ⟨("may_fix", none), "may_fix", "may_fix", defArgs s_may_fix, defBody s_may_fix, defScope s_may_fix, [], []⟩
def h_without_name : He.DefD := ⟨("without_name", none), "without_name", "without_name", defArgs s_without_name, defBody s_without_name, defScope s_without_name, [], []⟩
def h_task_copy : He.DefD := ⟨("task_copy", none), "task_copy", "task_copy", defArgs s_task_copy, defBody s_task_copy, defScope s_task_copy, [], []⟩
def h_behind : He.DefD := ⟨("behind", none), "behind", "behind", defArgs s_behind, defBody s_behind, defScope s_behind, [], []⟩
def h_steps_at : He.DefD := ⟨("steps_at", none), "steps_at", "steps_at", defArgs s_steps_at, defBody s_steps_at, defScope s_steps_at, [], []⟩
def h_first_step : He.DefD := ⟨("first_step", none), "first_step", "first_step", defArgs s_first_step, defBody s_first_step, defScope s_first_step, [], []⟩
def h_worn_of : He.DefD := ⟨("worn_of", none), "worn_of", "worn_of", defArgs s_worn_of, defBody s_worn_of, defScope s_worn_of, [], []⟩
def h_worn : He.DefD := ⟨("worn", none), "worn", "worn", defArgs s_worn, defBody s_worn, defScope s_worn, [], []⟩
def h_whole_plan : He.DefD := ⟨("whole_plan", none), "whole_plan", "whole_plan", defArgs s_whole_plan, defBody s_whole_plan, defScope s_whole_plan, [], []⟩
def h_fixed_gain : He.DefD := ⟨("fixed_gain", none), "fixed_gain", "fixed_gain", defArgs s_fixed_gain, defBody s_fixed_gain, defScope s_fixed_gain, [], []⟩
def h_law_draws : He.DefD := ⟨("_law_draws", none), "_law_draws", "_law_draws", defArgs s_law_draws, defBody s_law_draws, defScope s_law_draws, [], []⟩
def h_law_mix : He.DefD := ⟨("_law_mix", none), "_law_mix", "_law_mix", defArgs s_law_mix, defBody s_law_mix, defScope s_law_mix, [], []⟩
def h_law_task : He.DefD := ⟨("_law_task", none), "_law_task", "_law_task", defArgs s_law_task, defBody s_law_task, defScope s_law_task, [], []⟩
def h_law_sum_by : He.DefD := ⟨("_law_sum_by", none), "_law_sum_by", "_law_sum_by", defArgs s_law_sum_by, defBody s_law_sum_by, defScope s_law_sum_by, [], []⟩
def h_law_is_plan : He.DefD := ⟨("_law_is_plan", none), "_law_is_plan", "_law_is_plan", defArgs s_law_is_plan, defBody s_law_is_plan, defScope s_law_is_plan, [], []⟩
def h_law_plans : He.DefD := ⟨("_law_plans", none), "_law_plans", "_law_plans", defArgs s_law_plans, defBody s_law_plans, defScope s_law_plans, [], []⟩
def h_law_ends : He.DefD := ⟨("_law_ends", none), "_law_ends", "_law_ends", defArgs s_law_ends, defBody s_law_ends, defScope s_law_ends, [], []⟩
def h_law_fixes : He.DefD := ⟨("_law_fixes", none), "_law_fixes", "_law_fixes", defArgs s_law_fixes, defBody s_law_fixes, defScope s_law_fixes, [], []⟩
def h_law_behind : He.DefD := ⟨("_law_behind", none), "_law_behind", "_law_behind", defArgs s_law_behind, defBody s_law_behind, defScope s_law_behind, [], []⟩
def h_law_tried : He.DefD := ⟨("_law_tried", none), "_law_tried", "_law_tried", defArgs s_law_tried, defBody s_law_tried, defScope s_law_tried, [], []⟩
def h_law_best : He.DefD := ⟨("_law_best", none), "_law_best", "_law_best", defArgs s_law_best, defBody s_law_best, defScope s_law_best, [], []⟩
def h_law_kept : He.DefD := ⟨("_law_kept", none), "_law_kept", "_law_kept", defArgs s_law_kept, defBody s_law_kept, defScope s_law_kept, [], []⟩
def h_law : He.DefD := ⟨("law", none), "law", "law", defArgs s_law, defBody s_law, defScope s_law, [], []⟩
def fn : List He.DefD := [h_are_numbers, h_tuples_within, h_check_task, h_start_of, h_start, h_least_sum, h_greatest_sum, h_without_row, h_lowered, h_may_fix, h_without_name, h_task_copy, h_behind, h_steps_at, h_first_step, h_worn_of, h_worn, h_whole_plan, h_fixed_gain, h_law_draws, h_law_mix, h_law_task, h_law_sum_by, h_law_is_plan, h_law_plans, h_law_ends, h_law_fixes, h_law_behind, h_law_tried, h_law_best, h_law_kept, h_law]
def fa : List He.Fa := [.glo "are_numbers", .glo "tuples_within", .glo "check_task", .glo "start_of", .glo "start", .glo "least_sum", .glo "greatest_sum", .glo "without_row", .glo "lowered", .glo "may_fix", .glo "without_name", .glo "task_copy", .glo "behind", .glo "steps_at", .glo "first_step", .glo "worn_of", .glo "worn", .glo "whole_plan", .glo "fixed_gain", .glo "_law_draws", .glo "_law_mix", .glo "_law_task", .glo "_law_sum_by", .glo "_law_is_plan", .glo "_law_plans", .glo "_law_ends", .glo "_law_fixes", .glo "_law_behind", .glo "_law_tried", .glo "_law_best", .glo "_law_kept", .glo "law", .int "MOST_LIMIT" 200, .int "MOST_NUMBER" 20, .int "MOST_TOP" 12, .int "MOST_TUPLES" 20000, .int "MOST_UNKNOWNS" 6, .free "abs", .free "all", .free "any", .free "enumerate", .free "int", .free "len", .free "list", .free "max", .free "min", .free "range", .free "repr", .free "sorted", .free "sum", .free "tuple", .free "zip"]
abbrev R : PySem.W.OpenRow := PySem.W.OpenLaw.row PySem.Challenge.rw_wholebest_k80_states_and_steps_with_reas
abbrev hk : PySem.W.Hook := He.hookD 4 fa fn
def ob (s : PySem.W.SharedT) : He.AlD := He.obsDG 4 fa fn (HandSHeadRun.getT s)
theorem ob_eq (s : PySem.W.SharedT) : ob s = hk.obs s.abs := He.obsDG_eq (HandSHeadRun.getT_eq s)
def loo : List Str := (["WholeError", "TooLarge", "WrongSize", "BadGain", "BadRow", "BadLimit", "BadTop", "MOST_UNKNOWNS"] : List Str) ++ (["MOST_NUMBER", "MOST_LIMIT", "MOST_TOP", "MOST_TUPLES", "are_numbers", "tuples_within", "check_task", "start_of"] : List Str) ++ (["start", "least_sum", "greatest_sum", "without_row", "lowered", "may_fix", "without_name", "behind"] : List Str) ++ (["task_copy", "steps_at", "first_step", "worn_of", "worn", "whole_plan", "fixed_gain", "_law_draws"] : List Str) ++ (["_law_mix", "_law_task", "_law_sum_by", "_law_is_plan", "_law_plans", "_law_ends", "_law_fixes", "_law_behind"] : List Str) ++ (["_law_tried", "_law_best", "_law_kept"] : List Str)
theorem run (w : World) : HandSHeadRun.RunEq R (PySem.W.view R.prog [47]) hk ob 40000 loo w := by
  intro os
  kernel_rfl
def isX : XIs := fun _ _ _ _ _ => False
theorem mg_of {K : PySem.W.Frag} {h : Heap} {mg : Str → Option Value} (X : K.In h) (G : h.Ns mainGlobals mg) (c : He.SaysD fa fn K) : Mg mg where
  c_MOST_LIMIT := He.int_ok X G (c.fact 32 (f := .int "MOST_LIMIT" 200) rfl)
  c_MOST_NUMBER := He.int_ok X G (c.fact 33 (f := .int "MOST_NUMBER" 20) rfl)
  c_MOST_TOP := He.int_ok X G (c.fact 34 (f := .int "MOST_TOP" 12) rfl)
  c_MOST_TUPLES := He.int_ok X G (c.fact 35 (f := .int "MOST_TUPLES" 20000) rfl)
  c_MOST_UNKNOWNS := He.int_ok X G (c.fact 36 (f := .int "MOST_UNKNOWNS" 6) rfl)
  n_abs := He.free_ok X G (c.fact 37 (f := .free "abs") rfl)
  n_all := He.free_ok X G (c.fact 38 (f := .free "all") rfl)
  n_any := He.free_ok X G (c.fact 39 (f := .free "any") rfl)
  n_enumerate := He.free_ok X G (c.fact 40 (f := .free "enumerate") rfl)
  n_int := He.free_ok X G (c.fact 41 (f := .free "int") rfl)
  n_len := He.free_ok X G (c.fact 42 (f := .free "len") rfl)
  n_list := He.free_ok X G (c.fact 43 (f := .free "list") rfl)
  n_max := He.free_ok X G (c.fact 44 (f := .free "max") rfl)
  n_min := He.free_ok X G (c.fact 45 (f := .free "min") rfl)
  n_range := He.free_ok X G (c.fact 46 (f := .free "range") rfl)
  n_repr := He.free_ok X G (c.fact 47 (f := .free "repr") rfl)
  n_sorted := He.free_ok X G (c.fact 48 (f := .free "sorted") rfl)
  n_sum := He.free_ok X G (c.fact 49 (f := .free "sum") rfl)
  n_tuple := He.free_ok X G (c.fact 50 (f := .free "tuple") rfl)
  n_zip := He.free_ok X G (c.fact 51 (f := .free "zip") rfl)
theorem facts {P : Program} {w : World} {K : PySem.W.Frag} {h : Heap} {mg : Str → Option Value} {f : Addr} (X : K.In h) (G : h.Ns mainGlobals mg) (hfa : mg ("law" : Str) = some (.ref f)) (c : He.SaysD fa fn K)
    (plain : ∀ (K : PySem.W.Frag) (ns : List Int), ns.length ≤ 63 → (b_law K (Sl.sc K ns :: List.replicate 20 Sl.un)).bind flRes = some (.ok (.fr (.bool true)))) :
    ∀ base : Heap, K.In base → base.Ns mainGlobals mg → LawAt P w K mg base f 63 := by
  intro base hK hM
  have M := mg_of X G c
  obtain ⟨fd_are_numbers, F_are_numbers⟩ := c.def_ 0 (d := h_are_numbers) rfl
  have B_are_numbers := FunD.bindsA (ps := p_are_numbers) F_are_numbers fun _ _ _ _ _ _ us hl => match us, hl with | [_, _], _ => rfl
  have G_are_numbers : FnD P w K mg base isX CX0 1 "are_numbers" p_are_numbers d_are_numbers := ⟨_, _, ok_are_numbers M  F_are_numbers, He.glo_ok X G (c.fact 0 (f := .glo "are_numbers") rfl), F_are_numbers.kp, fun s us _ hl => by rw [List.append_nil] at hl ⊢; exact B_are_numbers s us hl⟩
  obtain ⟨fd_tuples_within, F_tuples_within⟩ := c.def_ 1 (d := h_tuples_within) rfl
  have B_tuples_within := FunD.bindsA (ps := p_tuples_within) F_tuples_within fun _ _ _ _ _ _ us hl => match us, hl with | [_], _ => rfl
  have G_tuples_within : FnD P w K mg base isX CX0 1 "tuples_within" p_tuples_within d_tuples_within := ⟨_, _, ok_tuples_within M  F_tuples_within, He.glo_ok X G (c.fact 1 (f := .glo "tuples_within") rfl), F_tuples_within.kp, fun s us _ hl => by rw [List.append_nil] at hl ⊢; exact B_tuples_within s us hl⟩
  obtain ⟨fd_check_task, F_check_task⟩ := c.def_ 2 (d := h_check_task) rfl
  have B_check_task := FunD.bindsA (ps := p_check_task) F_check_task fun _ _ _ _ _ _ us hl => match us, hl with | [_], _ => rfl
  have G_check_task : FnD P w K mg base isX CX0 2 "check_task" p_check_task d_check_task := ⟨_, _, ok_check_task M G_are_numbers G_tuples_within F_check_task, He.glo_ok X G (c.fact 2 (f := .glo "check_task") rfl), F_check_task.kp, fun s us _ hl => by rw [List.append_nil] at hl ⊢; exact B_check_task s us hl⟩
  obtain ⟨fd_start_of, F_start_of⟩ := c.def_ 3 (d := h_start_of) rfl
  have B_start_of := FunD.bindsA (ps := p_start_of) F_start_of fun _ _ _ _ _ _ us hl => match us, hl with | [_], _ => rfl
  have G_start_of : FnD P w K mg base isX CX0 1 "start_of" p_start_of d_start_of := ⟨_, _, ok_start_of M  F_start_of, He.glo_ok X G (c.fact 3 (f := .glo "start_of") rfl), F_start_of.kp, fun s us _ hl => by rw [List.append_nil] at hl ⊢; exact B_start_of s us hl⟩
  obtain ⟨fd_start, F_start⟩ := c.def_ 4 (d := h_start) rfl
  have B_start := FunD.bindsA (ps := p_start) F_start fun _ _ _ _ _ _ us hl => match us, hl with | [_], _ => rfl
  have G_start : FnD P w K mg base isX CX0 3 "start" p_start d_start := ⟨_, _, ok_start M G_check_task G_start_of F_start, He.glo_ok X G (c.fact 4 (f := .glo "start") rfl), F_start.kp, fun s us _ hl => by rw [List.append_nil] at hl ⊢; exact B_start s us hl⟩
  obtain ⟨fd_least_sum, F_least_sum⟩ := c.def_ 5 (d := h_least_sum) rfl
  have B_least_sum := FunD.bindsA (ps := p_least_sum) F_least_sum fun _ _ _ _ _ _ us hl => match us, hl with | [_, _], _ => rfl
  have G_least_sum : FnD P w K mg base isX CX0 1 "least_sum" p_least_sum d_least_sum := ⟨_, _, ok_least_sum M  F_least_sum, He.glo_ok X G (c.fact 5 (f := .glo "least_sum") rfl), F_least_sum.kp, fun s us _ hl => by rw [List.append_nil] at hl ⊢; exact B_least_sum s us hl⟩
  obtain ⟨fd_greatest_sum, F_greatest_sum⟩ := c.def_ 6 (d := h_greatest_sum) rfl
  have B_greatest_sum := FunD.bindsA (ps := p_greatest_sum) F_greatest_sum fun _ _ _ _ _ _ us hl => match us, hl with | [_, _], _ => rfl
  have G_greatest_sum : FnD P w K mg base isX CX0 1 "greatest_sum" p_greatest_sum d_greatest_sum := ⟨_, _, ok_greatest_sum M  F_greatest_sum, He.glo_ok X G (c.fact 6 (f := .glo "greatest_sum") rfl), F_greatest_sum.kp, fun s us _ hl => by rw [List.append_nil] at hl ⊢; exact B_greatest_sum s us hl⟩
  obtain ⟨fd_without_row, F_without_row⟩ := c.def_ 7 (d := h_without_row) rfl
  have B_without_row := FunD.bindsA (ps := p_without_row) F_without_row fun _ _ _ _ _ _ us hl => match us, hl with | [_, _], _ => rfl
  have G_without_row : FnD P w K mg base isX CX0 2 "without_row" p_without_row d_without_row := ⟨_, _, ok_without_row M G_greatest_sum F_without_row, He.glo_ok X G (c.fact 7 (f := .glo "without_row") rfl), F_without_row.kp, fun s us _ hl => by rw [List.append_nil] at hl ⊢; exact B_without_row s us hl⟩
  obtain ⟨fd_lowered, F_lowered⟩ := c.def_ 8 (d := h_lowered) rfl
  have B_lowered := FunD.bindsA (ps := p_lowered) F_lowered fun _ _ _ _ _ _ us hl => match us, hl with | [_, _, _], _ => rfl
  have G_lowered : FnD P w K mg base isX CX0 2 "lowered" p_lowered d_lowered := ⟨_, _, ok_lowered M G_least_sum F_lowered, He.glo_ok X G (c.fact 8 (f := .glo "lowered") rfl), F_lowered.kp, fun s us _ hl => by rw [List.append_nil] at hl ⊢; exact B_lowered s us hl⟩
  obtain ⟨fd_may_fix, F_may_fix⟩ := c.def_ 9 (d := h_may_fix) rfl
  have B_may_fix := FunD.bindsA (ps := p_may_fix) F_may_fix fun _ _ _ _ _ _ us hl => match us, hl with | [_, _, _], _ => rfl
  have G_may_fix : FnD P w K mg base isX CX0 1 "may_fix" p_may_fix d_may_fix := ⟨_, _, ok_may_fix M  F_may_fix, He.glo_ok X G (c.fact 9 (f := .glo "may_fix") rfl), F_may_fix.kp, fun s us _ hl => by rw [List.append_nil] at hl ⊢; exact B_may_fix s us hl⟩
  obtain ⟨fd_without_name, F_without_name⟩ := c.def_ 10 (d := h_without_name) rfl
  have B_without_name := FunD.bindsA (ps := p_without_name) F_without_name fun _ _ _ _ _ _ us hl => match us, hl with | [_, _, _], _ => rfl
  have G_without_name : FnD P w K mg base isX CX0 2 "without_name" p_without_name d_without_name := ⟨_, _, ok_without_name M G_may_fix F_without_name, He.glo_ok X G (c.fact 10 (f := .glo "without_name") rfl), F_without_name.kp, fun s us _ hl => by rw [List.append_nil] at hl ⊢; exact B_without_name s us hl⟩
  obtain ⟨fd_task_copy, F_task_copy⟩ := c.def_ 11 (d := h_task_copy) rfl
  have B_task_copy := FunD.bindsA (ps := p_task_copy) F_task_copy fun _ _ _ _ _ _ us hl => match us, hl with | [_], _ => rfl
  have G_task_copy : FnD P w K mg base isX CX0 1 "task_copy" p_task_copy d_task_copy := ⟨_, _, ok_task_copy M  F_task_copy, He.glo_ok X G (c.fact 11 (f := .glo "task_copy") rfl), F_task_copy.kp, fun s us _ hl => by rw [List.append_nil] at hl ⊢; exact B_task_copy s us hl⟩
  obtain ⟨fd_behind, F_behind⟩ := c.def_ 12 (d := h_behind) rfl
  have B_behind := FunD.bindsA (ps := p_behind) F_behind fun _ _ _ _ _ _ us hl => match us, hl with | [_, _], _ => rfl
  have G_behind : FnD P w K mg base isX CX0 3 "behind" p_behind d_behind := ⟨_, _, ok_behind M G_least_sum G_lowered G_task_copy G_without_name G_without_row F_behind, He.glo_ok X G (c.fact 12 (f := .glo "behind") rfl), F_behind.kp, fun s us _ hl => by rw [List.append_nil] at hl ⊢; exact B_behind s us hl⟩
  obtain ⟨fd_steps_at, F_steps_at⟩ := c.def_ 13 (d := h_steps_at) rfl
  have B_steps_at := FunD.bindsA (ps := p_steps_at) F_steps_at fun _ _ _ _ _ _ us hl => match us, hl with | [_], _ => rfl
  have G_steps_at : FnD P w K mg base isX CX0 1 "steps_at" p_steps_at d_steps_at := ⟨_, _, ok_steps_at M  F_steps_at, He.glo_ok X G (c.fact 13 (f := .glo "steps_at") rfl), F_steps_at.kp, fun s us _ hl => by rw [List.append_nil] at hl ⊢; exact B_steps_at s us hl⟩
  obtain ⟨fd_first_step, F_first_step⟩ := c.def_ 14 (d := h_first_step) rfl
  have B_first_step := FunD.bindsA (ps := p_first_step) F_first_step fun _ _ _ _ _ _ us hl => match us, hl with | [_], _ => rfl
  have G_first_step : FnD P w K mg base isX CX0 4 "first_step" p_first_step d_first_step := ⟨_, _, ok_first_step M G_behind G_steps_at F_first_step, He.glo_ok X G (c.fact 14 (f := .glo "first_step") rfl), F_first_step.kp, fun s us _ hl => by rw [List.append_nil] at hl ⊢; exact B_first_step s us hl⟩
  obtain ⟨fd_worn_of, F_worn_of⟩ := c.def_ 15 (d := h_worn_of) rfl
  have B_worn_of := FunD.bindsA (ps := p_worn_of) F_worn_of fun _ _ _ _ _ _ us hl => match us, hl with | [_], _ => rfl
  have G_worn_of : FnD P w K mg base isX CX0 5 "worn_of" p_worn_of d_worn_of := ⟨_, _, ok_worn_of M G_behind G_first_step G_start_of F_worn_of, He.glo_ok X G (c.fact 15 (f := .glo "worn_of") rfl), F_worn_of.kp, fun s us _ hl => by rw [List.append_nil] at hl ⊢; exact B_worn_of s us hl⟩
  obtain ⟨fd_worn, F_worn⟩ := c.def_ 16 (d := h_worn) rfl
  have B_worn := FunD.bindsA (ps := p_worn) F_worn fun _ _ _ _ _ _ us hl => match us, hl with | [_], _ => rfl
  have G_worn : FnD P w K mg base isX CX0 6 "worn" p_worn d_worn := ⟨_, _, ok_worn M G_check_task G_worn_of F_worn, He.glo_ok X G (c.fact 16 (f := .glo "worn") rfl), F_worn.kp, fun s us _ hl => by rw [List.append_nil] at hl ⊢; exact B_worn s us hl⟩
  obtain ⟨fd_whole_plan, F_whole_plan⟩ := c.def_ 17 (d := h_whole_plan) rfl
  have B_whole_plan := FunD.bindsA (ps := p_whole_plan) F_whole_plan fun _ _ _ _ _ _ us hl => match us, hl with | [_, _], _ => rfl
  have G_whole_plan : FnD P w K mg base isX CX0 1 "whole_plan" p_whole_plan d_whole_plan := ⟨_, _, ok_whole_plan M  F_whole_plan, He.glo_ok X G (c.fact 17 (f := .glo "whole_plan") rfl), F_whole_plan.kp, fun s us _ hl => by rw [List.append_nil] at hl ⊢; exact B_whole_plan s us hl⟩
  obtain ⟨fd_fixed_gain, F_fixed_gain⟩ := c.def_ 18 (d := h_fixed_gain) rfl
  have B_fixed_gain := FunD.bindsA (ps := p_fixed_gain) F_fixed_gain fun _ _ _ _ _ _ us hl => match us, hl with | [_, _], _ => rfl
  have G_fixed_gain : FnD P w K mg base isX CX0 3 "fixed_gain" p_fixed_gain d_fixed_gain := ⟨_, _, ok_fixed_gain M G_check_task F_fixed_gain, He.glo_ok X G (c.fact 18 (f := .glo "fixed_gain") rfl), F_fixed_gain.kp, fun s us _ hl => by rw [List.append_nil] at hl ⊢; exact B_fixed_gain s us hl⟩
  obtain ⟨fd_law_draws, F_law_draws⟩ := c.def_ 19 (d := h_law_draws) rfl
  have B_law_draws := FunD.bindsA (ps := p_law_draws) F_law_draws fun _ _ _ _ _ _ us hl => match us, hl with | [_], _ => rfl
  have G_law_draws : FnS P w K mg base isX CX0 1 "_law_draws" p_law_draws (d_law_draws K) := ⟨_, _, ok_law_draws M  F_law_draws, He.glo_ok X G (c.fact 19 (f := .glo "_law_draws") rfl), F_law_draws.kp, fun s us _ hl => by rw [List.append_nil] at hl ⊢; exact B_law_draws s us hl⟩
  obtain ⟨fd_law_mix, F_law_mix⟩ := c.def_ 20 (d := h_law_mix) rfl
  have B_law_mix := FunD.bindsA (ps := p_law_mix) F_law_mix fun _ _ _ _ _ _ us hl => match us, hl with | [_, _, _], _ => rfl
  have G_law_mix : FnD P w K mg base isX CX0 1 "_law_mix" p_law_mix d_law_mix := ⟨_, _, ok_law_mix M  F_law_mix, He.glo_ok X G (c.fact 20 (f := .glo "_law_mix") rfl), F_law_mix.kp, fun s us _ hl => by rw [List.append_nil] at hl ⊢; exact B_law_mix s us hl⟩
  obtain ⟨fd_law_task, F_law_task⟩ := c.def_ 21 (d := h_law_task) rfl
  have B_law_task := FunD.bindsA (ps := p_law_task) F_law_task fun _ _ _ _ _ _ us hl => match us, hl with | [_, _, _, _], _ => rfl
  have G_law_task : FnD P w K mg base isX CX0 2 "_law_task" p_law_task d_law_task := ⟨_, _, ok_law_task M G_law_mix F_law_task, He.glo_ok X G (c.fact 21 (f := .glo "_law_task") rfl), F_law_task.kp, fun s us _ hl => by rw [List.append_nil] at hl ⊢; exact B_law_task s us hl⟩
  obtain ⟨fd_law_sum_by, F_law_sum_by⟩ := c.def_ 22 (d := h_law_sum_by) rfl
  have B_law_sum_by := FunD.bindsA (ps := p_law_sum_by) F_law_sum_by fun _ _ _ _ _ _ us hl => match us, hl with | [_, _], _ => rfl
  have G_law_sum_by : FnD P w K mg base isX CX0 1 "_law_sum_by" p_law_sum_by d_law_sum_by := ⟨_, _, ok_law_sum_by M  F_law_sum_by, He.glo_ok X G (c.fact 22 (f := .glo "_law_sum_by") rfl), F_law_sum_by.kp, fun s us _ hl => by rw [List.append_nil] at hl ⊢; exact B_law_sum_by s us hl⟩
  obtain ⟨fd_law_is_plan, F_law_is_plan⟩ := c.def_ 23 (d := h_law_is_plan) rfl
  have B_law_is_plan := FunD.bindsA (ps := p_law_is_plan) F_law_is_plan fun _ _ _ _ _ _ us hl => match us, hl with | [_, _], _ => rfl
  have G_law_is_plan : FnD P w K mg base isX CX0 2 "_law_is_plan" p_law_is_plan d_law_is_plan := ⟨_, _, ok_law_is_plan M G_law_sum_by F_law_is_plan, He.glo_ok X G (c.fact 23 (f := .glo "_law_is_plan") rfl), F_law_is_plan.kp, fun s us _ hl => by rw [List.append_nil] at hl ⊢; exact B_law_is_plan s us hl⟩
  obtain ⟨fd_law_plans, F_law_plans⟩ := c.def_ 24 (d := h_law_plans) rfl
  have B_law_plans := FunD.bindsA (ps := p_law_plans) F_law_plans fun _ _ _ _ _ _ us hl => match us, hl with | [_], _ => rfl
  have G_law_plans : FnD P w K mg base isX CX0 3 "_law_plans" p_law_plans d_law_plans := ⟨_, _, ok_law_plans M G_law_is_plan F_law_plans, He.glo_ok X G (c.fact 24 (f := .glo "_law_plans") rfl), F_law_plans.kp, fun s us _ hl => by rw [List.append_nil] at hl ⊢; exact B_law_plans s us hl⟩
  obtain ⟨fd_law_ends, F_law_ends⟩ := c.def_ 25 (d := h_law_ends) rfl
  have B_law_ends := FunD.bindsA (ps := p_law_ends) F_law_ends fun _ _ _ _ _ _ us hl => match us, hl with | [_, _], _ => rfl
  have G_law_ends : FnD P w K mg base isX CX0 1 "_law_ends" p_law_ends d_law_ends := ⟨_, _, ok_law_ends M  F_law_ends, He.glo_ok X G (c.fact 25 (f := .glo "_law_ends") rfl), F_law_ends.kp, fun s us _ hl => by rw [List.append_nil] at hl ⊢; exact B_law_ends s us hl⟩
  obtain ⟨fd_law_fixes, F_law_fixes⟩ := c.def_ 26 (d := h_law_fixes) rfl
  have B_law_fixes := FunD.bindsA (ps := p_law_fixes) F_law_fixes fun _ _ _ _ _ _ us hl => match us, hl with | [_, _, _], _ => rfl
  have G_law_fixes : FnD P w K mg base isX CX0 1 "_law_fixes" p_law_fixes d_law_fixes := ⟨_, _, ok_law_fixes M  F_law_fixes, He.glo_ok X G (c.fact 26 (f := .glo "_law_fixes") rfl), F_law_fixes.kp, fun s us _ hl => by rw [List.append_nil] at hl ⊢; exact B_law_fixes s us hl⟩
  obtain ⟨fd_law_behind, F_law_behind⟩ := c.def_ 27 (d := h_law_behind) rfl
  have B_law_behind := FunD.bindsA (ps := p_law_behind) F_law_behind fun _ _ _ _ _ _ us hl => match us, hl with | [_, _], _ => rfl
  have G_law_behind : FnD P w K mg base isX CX0 2 "_law_behind" p_law_behind d_law_behind := ⟨_, _, ok_law_behind M G_law_ends G_law_fixes F_law_behind, He.glo_ok X G (c.fact 27 (f := .glo "_law_behind") rfl), F_law_behind.kp, fun s us _ hl => by rw [List.append_nil] at hl ⊢; exact B_law_behind s us hl⟩
  obtain ⟨fd_law_tried, F_law_tried⟩ := c.def_ 28 (d := h_law_tried) rfl
  have B_law_tried := FunD.bindsA (ps := p_law_tried) F_law_tried fun _ _ _ _ _ _ us hl => match us, hl with | [_], _ => rfl
  have G_law_tried : FnD P w K mg base isX CX0 1 "_law_tried" p_law_tried d_law_tried := ⟨_, _, ok_law_tried M  F_law_tried, He.glo_ok X G (c.fact 28 (f := .glo "_law_tried") rfl), F_law_tried.kp, fun s us _ hl => by rw [List.append_nil] at hl ⊢; exact B_law_tried s us hl⟩
  obtain ⟨fd_law_best, F_law_best⟩ := c.def_ 29 (d := h_law_best) rfl
  have B_law_best := FunD.bindsA (ps := p_law_best) F_law_best fun _ _ _ _ _ _ us hl => match us, hl with | [_], _ => rfl
  have G_law_best : FnD P w K mg base isX CX0 4 "_law_best" p_law_best d_law_best := ⟨_, _, ok_law_best M G_law_plans G_law_sum_by F_law_best, He.glo_ok X G (c.fact 29 (f := .glo "_law_best") rfl), F_law_best.kp, fun s us _ hl => by rw [List.append_nil] at hl ⊢; exact B_law_best s us hl⟩
  obtain ⟨fd_law_kept, F_law_kept⟩ := c.def_ 30 (d := h_law_kept) rfl
  have B_law_kept := FunD.bindsA (ps := p_law_kept) F_law_kept fun _ _ _ _ _ _ us hl => match us, hl with | [_, _, _, _], _ => rfl
  have G_law_kept : FnD P w K mg base isX CX0 5 "_law_kept" p_law_kept d_law_kept := ⟨_, _, ok_law_kept M G_law_best G_law_plans F_law_kept, He.glo_ok X G (c.fact 30 (f := .glo "_law_kept") rfl), F_law_kept.kp, fun s us _ hl => by rw [List.append_nil] at hl ⊢; exact B_law_kept s us hl⟩
  obtain ⟨fd_law, F_law⟩ := c.def_ 31 (d := h_law) rfl
  have B_law := FunD.bindsA (ps := p_law) F_law fun _ _ _ _ _ _ us hl => match us, hl with | [_], _ => rfl
  have e := hfa.symm.trans (He.glo_ok X G (c.fact 31 (f := .glo "law") rfl))
  cases e
  exact law_at (N := N_law) (kk := 6) (g := b_law K) F_law sc_law (fun s us _ hl => by rw [List.append_nil] at hl ⊢; exact B_law s us hl) ⟨rfl, by decide, by decide⟩ (plain K) fun wx cdv A outer s H E hg hr => bd_law M G_law_behind G_law_draws G_law_is_plan G_law_kept G_law_mix G_law_plans G_law_sum_by G_law_task G_law_tried G_behind G_fixed_gain G_start G_whole_plan G_worn wx _ cdv A outer s H E hg hr
end K80
section
open PySem PySem.W PySem.Calls PyProof.Rows
theorem K80_holds (plain : ∀ (K : PySem.W.Frag) (ns : List Int), ns.length ≤ 63 → (K80.b_law K (DL.Sl.sc K ns :: List.replicate 20 DL.Sl.un)).bind DL.flRes = some (.ok (.fr (.bool true)))) : PySem.Challenge.rw_wholebest_k80_states_and_steps_with_reas.Holds := by
  w_on; o_law
  refine HandSHeadRun.head_any (r := OpenLaw.row PySem.Challenge.rw_wholebest_k80_states_and_steps_with_reas) (q := view (OpenLaw.row PySem.Challenge.rw_wholebest_k80_states_and_steps_with_reas).prog [47]) (H := K80.hk) (ob := K80.ob) (M := 40000) (loose := K80.loo) (d := HandSHeadRun.topDef (OpenLaw.row PySem.Challenge.rw_wholebest_k80_states_and_steps_with_reas).prog 47) (kwd := []) K80.ob_eq
    (by kernel_rfl) (fun s => by kernel_rfl) K80.run (by kernel_rfl) (by kernel_rfl) (by kernel_rfl) (by rfl) (by first | assumption | decide +kernel) (by decide +kernel) ⟨rfl, rfl, rfl, rfl, rfl, by decide +kernel⟩ ?hw ?hc
  case hw => w_witness2
  case hc =>
    refine DL.walk_law (l := PySem.Challenge.rw_wholebest_k80_states_and_steps_with_reas) (n := 63) rfl (by decide) (by kernel_rfl) ?F
    intro w mg fa h Y G hmg0
    obtain ⟨K, KX, c⟩ := Y
    have hmg : mg ("law" : PySem.Str) = some (.ref fa) := by
      have e : (HandSHeadRun.topDef (OpenLaw.row PySem.Challenge.rw_wholebest_k80_states_and_steps_with_reas).prog 47).name = ("law" : PySem.Str) := by kernel_rfl
      rw [← e]
      exact hmg0
    exact ⟨K, KX, K80.facts KX G hmg c plain⟩
end

set_option Elab.async false
set_option linter.all false
set_option maxRecDepth 100000
set_option maxHeartbeats 2000000
namespace K80
open PySem PySem.Spec L2 DL
structure Tk where
  g : List Int
  r : List (List Int)
  l : List Int
  t : List Int
structure Stt where
  n : List Int
  k : Tk
  f : List (Int × Int)
abbrev rL (r : List (List Int)) : D := .list (r.map fun x => iL x)
abbrev eT (k : Tk) : D := .tuple [iL k.g, rL k.r, iL k.l, iL k.t]
abbrev pD (p : Int × Int) : D := .tuple [.int p.1, .int p.2]
abbrev pL (f : List (Int × Int)) : D := .list (f.map pD)
abbrev eS (s : Stt) : D := .tuple [iL s.n, eT s.k, pL s.f]
structure WfT (k : Tk) : Prop where
  lg : k.g.length = k.t.length
  lr : ∀ r ∈ k.r, r.length = k.t.length
  ll : k.l.length = k.r.length
  m1 : 1 ≤ k.t.length
  m6 : k.t.length ≤ 6
  r6 : k.r.length ≤ 6
  bg : Bd 20 k.g
  br : ∀ r ∈ k.r, Bd 20 r
  bl : Bd 100000 k.l
  bt : ∀ x ∈ k.t, 0 ≤ x ∧ x ≤ 12
theorem natAbs_le {x : Int} {n : Nat} (h : x.natAbs ≤ n) : -(n : Int) ≤ x ∧ x ≤ n := by omega

theorem v_sum_by (row told : List Int) (h : row.length ≤ told.length) (hl : row.length ≤ 1000) (hb : Bd 1000000 row) : d_law_sum_by [iL row, iL told] = some (.ok (.fr (.int (dot row told)))) := by
  have hc : compGo (sName 2) kYes (kBin gMul (kIx (kQ (gVar 0)) (gVar 2)) (kIx (kQ (gVar 1)) (gVar 2))) [.fr (iL row), .fr (iL told), .un] (rangeD 0 1 row.length) = some (List.zipWith (fun a b => PyData.int (a * b)) row told) := by
    rw [rangeD_zero, ← range_zip (fun a b => PyData.int (a * b)) row told h]
    refine compGo_all _ _ _ _ _ _ fun k hk => ⟨_, rfl, ?_⟩
    have hk' := List.mem_range.mp hk
    simp -implicitDefEqProofs [-List.getD_eq_getElem?_getD, -List.map_zipWith, iL, atI_iL _ _ hk', atI_iL told k (by omega), okMul_of (Nat.le_trans (hb.get k) (by decide))]
  simp -implicitDefEqProofs [-List.getD_eq_getElem?_getD, -List.map_zipWith, d_law_sum_by, b_law_sum_by, iL, sm_of (j := (row.length : Int)) (by omega) (by omega)]
  rw [hc, Option.bind_some, fit_of (by simp; omega), zipWith_int]
  simp -implicitDefEqProofs [gSum, -List.getD_eq_getElem?_getD, -List.map_zipWith, dot]
theorem v_are_numbers (row : List Int) (m : Nat) (h : row.length = m) (hl : row.length ≤ 1000) (hb : Bd 20 row) : d_are_numbers [iL row, .int m] = some (.ok (.fr (.bool true))) := by
  have hc : compGo (sName 2) kYes (kChain gLe gLe (kUn gNeg (kC (.int 20))) (gVar 2) (kC (.int 20))) [.fr (iL row), .fr (.int m), .un] (row.map PyData.int) = some (row.map fun _ => PyData.bool true) := by
    refine compGo_all _ _ _ _ _ _ fun x hx => ⟨_, rfl, ?_⟩
    have := natAbs_le (hb x hx)
    simp -implicitDefEqProofs [show (-20 : Int) ≤ x by omega, show x ≤ 20 by omega]
  simp -implicitDefEqProofs [-List.map_const, d_are_numbers, b_are_numbers, iL, h]
  rw [hc, Option.bind_some, fit_of (by simp; omega)]
  simp -implicitDefEqProofs [-List.map_const]
theorem v_tuples_within (ts : List Int) (hb : ∀ x ∈ ts, 0 ≤ x ∧ x ≤ 12) : d_tuples_within [iL ts] = some (.ok (.fr (.int (prodT ts)))) := by
  obtain ⟨ρ', h1, h2⟩ := forGo_st (S := Int) PyData.int (sName 2) (zSet 1 (kBin gMul (gVar 1) (kBin gAdd (gVar 2) (kC (.int 1))))) (fun s ρ => ∃ u, ρ = [.fr (iL ts), .fr (.int s), u]) (fun s t => s * (t + 1)) ts 1 [.fr (iL ts), .fr (.int 1), .un] ⟨_, rfl⟩ fun a ha s ρ ⟨u, e⟩ => by
    subst e
    have := hb a ha
    refine ⟨_, _, rfl, ?_, .fr (.int a), rfl⟩
    simp -implicitDefEqProofs [okMul_of' (i := s) (j := a + 1) (by omega)]
  obtain ⟨u, rfl⟩ := h2
  simp -implicitDefEqProofs [d_tuples_within, b_tuples_within, iL, h1, prodT]
end K80

set_option Elab.async false
set_option linter.all false
set_option maxRecDepth 100000
set_option maxHeartbeats 2000000
namespace K80
open PySem PySem.Spec L2 DL
/-- the state within check_task -/
def Ck (k : Tk) (ρ : Rho) : Prop := ∃ a b c d e f, ρ = [.fr (eT k), .fr (iL k.g), .fr (rL k.r), .fr (iL k.l), .fr (iL k.t), .fr (.int k.t.length), a, b, c, d, e, f]
structure Ckd (k : Tk) : Prop extends WfT k where
  bl2 : Bd 200 k.l
  sz : prodT k.t ≤ 20000
theorem v_check_task (k : Tk) (w : Ckd k) : d_check_task [eT k] = some (.ok (.fr .none)) := by
  have L1 : ∀ ρ, Ck k ρ → ∃ ρ', forGo (sTup 2 (sCons (sName 6) (sCons (sName 7) sNil))) (zIf (kNot (kB (kChain gLe gLe (kUn gNeg (kC (.int 20))) (gVar 7) (kC (.int 20))))) zNone zNext) (enumD 0 (k.g.map PyData.int)) ρ = some (.nx ρ') ∧ Ck k ρ' := fun ρ hρ => by
    rw [enumD_map]
    refine forGo_same _ _ (Ck k) _ ρ hρ fun x hx ρ ⟨a, b, c, d, e, f, h⟩ => ?_
    obtain ⟨p, hp, rfl⟩ := List.mem_map.mp hx
    have := natAbs_le (w.bg.get? (zipIdx_lt hp).2)
    subst h
    refine ⟨_, _, rfl, ?_, .fr (.int p.2), .fr (.int p.1), c, d, e, f, rfl⟩
    simp -implicitDefEqProofs [show (-20 : Int) ≤ p.1 by omega, show p.1 ≤ 20 by omega]
  have L2 : ∀ ρ, Ck k ρ → ∃ ρ', forGo (sTup 2 (sCons (sName 8) (sCons (sName 9) sNil))) (zIf (kOr (kB (kBin gEqA (gVar 8) (kC (.int 6)))) (kNot (kB (kData (kCallD d_are_numbers (kCons (gVar 9) (kCons (gVar 5) kNil))))))) zNone zNext) (enumD 0 (k.r.map fun x => iL x)) ρ = some (.nx ρ') ∧ Ck k ρ' := fun ρ hρ => by
    rw [enumD_map (fun x => iL x)]
    refine forGo_same _ _ (Ck k) _ ρ hρ fun x hx ρ ⟨a, b, c, d, e, f, h⟩ => ?_
    obtain ⟨p, hp, rfl⟩ := List.mem_map.mp hx
    have h1 := zipIdx_lt hp
    have h2 := List.mem_of_getElem? h1.2
    have := w.r6
    have := w.m6
    have h3 := v_are_numbers p.1 k.t.length (w.lr _ h2) (by rw [w.lr _ h2]; omega) (w.br _ h2)
    subst h
    refine ⟨_, _, rfl, ?_, a, b, .fr (.int p.2), .fr (iL p.1), e, f, rfl⟩
    simp -implicitDefEqProofs [h3, show ((p.2 : Int) == 6) = false from beq_eq_false_iff_ne.mpr (by omega)]
  have L3 : ∀ ρ, Ck k ρ → ∃ ρ', forGo (sTup 2 (sCons (sName 8) (sCons (sName 10) sNil))) (zIf (kNot (kB (kChain gLe gLe (kUn gNeg (kC (.int 200))) (gVar 10) (kC (.int 200))))) zNone zNext) (enumD 0 (k.l.map PyData.int)) ρ = some (.nx ρ') ∧ Ck k ρ' := fun ρ hρ => by
    rw [enumD_map]
    refine forGo_same _ _ (Ck k) _ ρ hρ fun x hx ρ ⟨a, b, c, d, e, f, h⟩ => ?_
    obtain ⟨p, hp, rfl⟩ := List.mem_map.mp hx
    have := natAbs_le (w.bl2.get? (zipIdx_lt hp).2)
    subst h
    refine ⟨_, _, rfl, ?_, a, b, .fr (.int p.2), d, .fr (.int p.1), f, rfl⟩
    simp -implicitDefEqProofs [show (-200 : Int) ≤ p.1 by omega, show p.1 ≤ 200 by omega]
  have L4 : ∀ ρ, Ck k ρ → ∃ ρ', forGo (sTup 2 (sCons (sName 6) (sCons (sName 11) sNil))) (zIf (kNot (kB (kChain gLe gLe (kC (.int 0)) (gVar 11) (kC (.int 12))))) zNone zNext) (enumD 0 (k.t.map PyData.int)) ρ = some (.nx ρ') ∧ Ck k ρ' := fun ρ hρ => by
    rw [enumD_map]
    refine forGo_same _ _ (Ck k) _ ρ hρ fun x hx ρ ⟨a, b, c, d, e, f, h⟩ => ?_
    obtain ⟨p, hp, rfl⟩ := List.mem_map.mp hx
    have := w.bt _ (List.mem_of_getElem? (zipIdx_lt hp).2)
    subst h
    refine ⟨_, _, rfl, ?_, .fr (.int p.2), b, c, d, e, .fr (.int p.1), rfl⟩
    simp -implicitDefEqProofs [show (0 : Int) ≤ p.1 by omega, show p.1 ≤ 12 by omega]
  have h1 := w.m1
  have h6 := w.m6
  obtain ⟨ρ1, e1, c1⟩ := L1 [.fr (eT k), .fr (iL k.g), .fr (rL k.r), .fr (iL k.l), .fr (iL k.t), .fr (.int k.t.length), .un, .un, .un, .un, .un, .un] ⟨_, _, _, _, _, _, rfl⟩
  obtain ⟨ρ2, e2, c2⟩ := L2 ρ1 c1
  obtain ⟨ρ3, e3, c3⟩ := L3 ρ2 c2
  obtain ⟨ρ4, e4, c4⟩ := L4 ρ3 c3
  obtain ⟨a1, a2, a3, a4, a5, a6, rfl⟩ := c1
  obtain ⟨b1, b2, b3, b4, b5, b6, rfl⟩ := c2
  obtain ⟨x1, x2, x3, x4, x5, x6, rfl⟩ := c3
  obtain ⟨y1, y2, y3, y4, y5, y6, rfl⟩ := c4
  simp -implicitDefEqProofs only [eT, iL, rL] at e1 e2 e3 e4
  simp -implicitDefEqProofs [d_check_task, b_check_task, eT, iL, rL, w.lg, show (1 : Int) ≤ k.t.length by omega, show (k.t.length : Int) ≤ 6 by omega, e1, e2, e3, e4, w.ll]
  have ht := v_tuples_within k.t w.bt
  simp -implicitDefEqProofs only [iL] at ht
  simp -implicitDefEqProofs [ht, show ¬ (20000 : Int) < prodT k.t by have := w.sz; omega]
theorem v_start_of (k : Tk) (w : WfT k) : d_start_of [eT k] = some (.ok (.tp (rangeD 0 1 k.t.length) [eT k, .list []])) := by
  have hc : compGo (sName 5) kYes (kData (kCall gList (kQ (gVar 5)))) [.fr (eT k), .fr (iL k.g), .fr (rL k.r), .fr (iL k.l), .fr (iL k.t), .un] (k.r.map fun x => iL x) = some (k.r.map fun x => iL x) := by
    refine compGo_all _ _ _ _ _ _ fun x hx => ⟨_, rfl, ?_⟩
    simp -implicitDefEqProofs
  have h6 := w.m6
  have h7 := w.r6
  simp -implicitDefEqProofs only [eT, iL, rL] at hc
  simp -implicitDefEqProofs [d_start_of, b_start_of, eT, iL, rL, w.lg, sm_of (j := (k.t.length : Int)) (by omega) (by omega), show (k.t.length : Int) ≤ 16777216 by omega, hc, fit_of (ys := k.r.map fun x => iL x) (by simp; omega)]
end K80

set_option Elab.async false
set_option linter.all false
set_option maxRecDepth 100000
set_option maxHeartbeats 2000000
namespace K80
open PySem PySem.Spec L2 DL
def lo (row t : List Int) : Int := (List.zipWith (fun a b => min 0 (a * b)) row t).sum
def hi (row t : List Int) : Int := (List.zipWith (fun a b => max 0 (a * b)) row t).sum
theorem v_start (k : Tk) (w : Ckd k) : d_start [eT k] = some (.ok (.tp (rangeD 0 1 k.t.length) [eT k, .list []])) := by
  simp -implicitDefEqProofs [d_start, b_start, v_check_task k w, v_start_of k w.toWfT]
theorem v_task_copy (k : Tk) (w : WfT k) : d_task_copy [eT k] = some (.ok (.tp (k.g.map .int) [rL k.r, iL k.l, iL k.t])) := by
  have hc : compGo (sName 5) kYes (kData (kCall gList (kQ (gVar 5)))) [.fr (eT k), .fr (iL k.g), .fr (rL k.r), .fr (iL k.l), .fr (iL k.t), .un] (k.r.map fun x => iL x) = some (k.r.map fun x => iL x) := by
    refine compGo_all _ _ _ _ _ _ fun x hx => ⟨_, rfl, ?_⟩
    simp -implicitDefEqProofs
  have h7 := w.r6
  simp -implicitDefEqProofs only [eT, iL, rL] at hc
  simp -implicitDefEqProofs [d_task_copy, b_task_copy, eT, iL, rL, hc, fit_of (ys := k.r.map fun x => iL x) (by simp; omega)]
theorem filt_lo : ∀ (row t : List Int), (∀ x ∈ t, 0 ≤ x ∧ x ≤ 12) → (((row.zip t).filter fun p => decide (p.1 < 0)).map fun p => p.1 * p.2).sum = lo row t
  | [], _, _ => rfl
  | _ :: _, [], _ => rfl
  | a :: row, b :: t, h => by
    have ih := filt_lo row t fun x hx => h x (List.mem_cons_of_mem _ hx)
    have hb := h b List.mem_cons_self
    unfold lo at ih ⊢
    rw [List.zip_cons_cons, List.zipWith_cons_cons, List.sum_cons, ← ih]
    by_cases ha : a < 0
    · rw [List.filter_cons_of_pos (by simpa using ha), List.map_cons, List.sum_cons]
      have : a * b ≤ 0 := Int.mul_nonpos_of_nonpos_of_nonneg (by omega) hb.1
      rw [show min 0 (a * b) = a * b by omega]
    · rw [List.filter_cons_of_neg (by simpa using ha)]
      have : 0 ≤ a * b := Int.mul_nonneg (by omega) hb.1
      rw [show min 0 (a * b) = 0 by omega]
      omega
theorem filt_hi : ∀ (row t : List Int), (∀ x ∈ t, 0 ≤ x ∧ x ≤ 12) → (((row.zip t).filter fun p => decide (0 < p.1)).map fun p => p.1 * p.2).sum = hi row t
  | [], _, _ => rfl
  | _ :: _, [], _ => rfl
  | a :: row, b :: t, h => by
    have ih := filt_hi row t fun x hx => h x (List.mem_cons_of_mem _ hx)
    have hb := h b List.mem_cons_self
    unfold hi at ih ⊢
    rw [List.zip_cons_cons, List.zipWith_cons_cons, List.sum_cons, ← ih]
    by_cases ha : 0 < a
    · rw [List.filter_cons_of_pos (by simpa using ha), List.map_cons, List.sum_cons]
      have : 0 ≤ a * b := Int.mul_nonneg (by omega) hb.1
      rw [show max 0 (a * b) = a * b by omega]
    · rw [List.filter_cons_of_neg (by simpa using ha)]
      have : a * b ≤ 0 := Int.mul_nonpos_of_nonpos_of_nonneg (by omega) hb.1
      rw [show max 0 (a * b) = 0 by omega]
      omega
theorem row_at (k : Tk) (w : WfT k) {i : Nat} (hi : i < k.r.length) : atI (k.r.map fun x => iL x) (i : Int) = some (iL k.r[i]) := atI_map_nat (fun x => iL x) _ _ hi
theorem v_least_sum (k : Tk) (w : WfT k) (i : Nat) (h : i < k.r.length) : d_least_sum [eT k, .int i] = some (.ok (.fr (.int (lo k.r[i] k.t)))) := by
  have hm := List.getElem_mem h
  have h6 := w.m6
  have hc : compGo (sTup 2 (sCons (sName 2) (sCons (sName 3) sNil))) (kB (kBin gLt (gVar 2) (kC (.int 0)))) (kBin gMul (gVar 2) (gVar 3)) [.fr (eT k), .fr (.int i), .un, .un] (zipD (k.r[i].map PyData.int) (k.t.map PyData.int)) = some (((k.r[i].zip k.t).filter fun p => decide (p.1 < 0)).map fun p => .int (p.1 * p.2)) := by
    rw [zipD_map]
    refine compGo_map _ _ _ _ _ _ _ _ fun p hp => ⟨_, rfl, ?_, fun _ => ?_⟩
    · simp -implicitDefEqProofs
    · have := w.br _ hm p.1 (List.of_mem_zip hp).1
      simp -implicitDefEqProofs [okMul_of (i := p.1) (j := p.2) (by omega)]
  simp -implicitDefEqProofs only [eT, iL, rL] at hc
  have hr := row_at k w h
  simp -implicitDefEqProofs [d_least_sum, b_least_sum, eT, iL, rL, hr]
  rw [hc, Option.bind_some, fit_of]
  · simp -implicitDefEqProofs [filt_lo _ _ w.bt]
  · rw [List.length_map]
    have := List.length_filter_le (fun p : Int × Int => decide (p.1 < 0)) (k.r[i].zip k.t)
    have h2 := w.lr _ hm
    simp at this
    omega
theorem v_greatest_sum (k : Tk) (w : WfT k) (i : Nat) (h : i < k.r.length) : d_greatest_sum [eT k, .int i] = some (.ok (.fr (.int (hi k.r[i] k.t)))) := by
  have hm := List.getElem_mem h
  have h6 := w.m6
  have hc : compGo (sTup 2 (sCons (sName 2) (sCons (sName 3) sNil))) (kB (kBin gGt (gVar 2) (kC (.int 0)))) (kBin gMul (gVar 2) (gVar 3)) [.fr (eT k), .fr (.int i), .un, .un] (zipD (k.r[i].map PyData.int) (k.t.map PyData.int)) = some (((k.r[i].zip k.t).filter fun p => decide (0 < p.1)).map fun p => .int (p.1 * p.2)) := by
    rw [zipD_map]
    refine compGo_map _ _ _ _ _ _ _ _ fun p hp => ⟨_, rfl, ?_, fun _ => ?_⟩
    · simp -implicitDefEqProofs
    · have := w.br _ hm p.1 (List.of_mem_zip hp).1
      simp -implicitDefEqProofs [okMul_of (i := p.1) (j := p.2) (by omega)]
  simp -implicitDefEqProofs only [eT, iL, rL] at hc
  have hr := row_at k w h
  simp -implicitDefEqProofs [d_greatest_sum, b_greatest_sum, eT, iL, rL, hr]
  rw [hc, Option.bind_some, fit_of]
  · simp -implicitDefEqProofs [filt_hi _ _ w.bt]
  · rw [List.length_map]
    have := List.length_filter_le (fun p : Int × Int => decide (0 < p.1)) (k.r[i].zip k.t)
    have h2 := w.lr _ hm
    simp at this
    omega
end K80

set_option Elab.async false
set_option linter.all false
set_option maxRecDepth 100000
set_option maxHeartbeats 2000000
namespace K80
open PySem PySem.Spec L2 DL
theorem zip_lo (row t : List Int) : List.zipWith (fun b a => PyData.int (if a * b < 0 then a * b else 0)) t row = (List.zipWith (fun a b => min 0 (a * b)) row t).map PyData.int := by
  rw [List.map_zipWith, List.zipWith_comm]
  congr 1
  funext a b
  rw [show (if a * b < 0 then a * b else 0) = min 0 (a * b) by omega]
theorem zip_hi (row t : List Int) : List.zipWith (fun b a => PyData.int (if a * b > 0 then a * b else 0)) t row = (List.zipWith (fun a b => max 0 (a * b)) row t).map PyData.int := by
  rw [List.map_zipWith, List.zipWith_comm]
  congr 1
  funext a b
  rw [show (if a * b > 0 then a * b else 0) = max 0 (a * b) by omega]
theorem v_law_ends (k : Tk) (w : WfT k) (i : Nat) (h : i < k.r.length) : d_law_ends [eT k, .int i] = some (.ok (.fr (.tuple [.int (lo k.r[i] k.t), .int (hi k.r[i] k.t)]))) := by
  have hm := List.getElem_mem h
  have h6 := w.m6
  have hl := w.lr _ hm
  have hr := row_at k w h
  have c1 : ∀ u : Sl, compGo (sName 7) kYes (kData (kCall gMin2 (kCons (kC (.int 0)) (kCons (kBin gMul (kIx (kQ (kIx (kQ (gVar 3)) (gVar 1))) (gVar 7)) (kIx (kQ (gVar 5)) (gVar 7))) kNil)))) [.fr (eT k), .fr (.int i), .fr (iL k.g), .fr (rL k.r), .fr (iL k.l), .fr (iL k.t), u, .un] (rangeD 0 1 k.t.length) = some ((List.zipWith (fun a b => min 0 (a * b)) k.r[i] k.t).map PyData.int) := fun u => by
    rw [rangeD_zero, ← zip_lo, ← range_zip (fun b a => PyData.int (if a * b < 0 then a * b else 0)) _ _ (Nat.le_of_eq hl.symm)]
    refine compGo_all _ _ _ _ _ _ fun j hj => ⟨_, rfl, ?_⟩
    have hj' := List.mem_range.mp hj
    have := (w.br _ hm).get j
    simp -implicitDefEqProofs [-List.getD_eq_getElem?_getD, iL, rL, hr, atI_iL k.r[i] j (by omega), atI_iL k.t j hj', okMul_of (i := k.r[i].getD j 0) (j := k.t.getD j 0) (by omega)]
  have c2 : ∀ u : Sl, compGo (sName 7) kYes (kData (kCall gMax2 (kCons (kC (.int 0)) (kCons (kBin gMul (kIx (kQ (kIx (kQ (gVar 3)) (gVar 1))) (gVar 7)) (kIx (kQ (gVar 5)) (gVar 7))) kNil)))) [.fr (eT k), .fr (.int i), .fr (iL k.g), .fr (rL k.r), .fr (iL k.l), .fr (iL k.t), u, .un] (rangeD 0 1 k.t.length) = some ((List.zipWith (fun a b => max 0 (a * b)) k.r[i] k.t).map PyData.int) := fun u => by
    rw [rangeD_zero, ← zip_hi, ← range_zip (fun b a => PyData.int (if a * b > 0 then a * b else 0)) _ _ (Nat.le_of_eq hl.symm)]
    refine compGo_all _ _ _ _ _ _ fun j hj => ⟨_, rfl, ?_⟩
    have hj' := List.mem_range.mp hj
    have := (w.br _ hm).get j
    simp -implicitDefEqProofs [-List.getD_eq_getElem?_getD, iL, rL, hr, atI_iL k.r[i] j (by omega), atI_iL k.t j hj', okMul_of (i := k.r[i].getD j 0) (j := k.t.getD j 0) (by omega)]
  simp -implicitDefEqProofs only [eT, iL, rL] at c1 c2
  have f1 := fit_of (ys := (List.zipWith (fun a b => min 0 (a * b)) k.r[i] k.t).map PyData.int) (by simp; omega)
  have f2 := fit_of (ys := (List.zipWith (fun a b => max 0 (a * b)) k.r[i] k.t).map PyData.int) (by simp; omega)
  simp -implicitDefEqProofs [-List.map_zipWith, d_law_ends, b_law_ends, eT, iL, rL, sm_of (j := (k.t.length : Int)) (by omega) (by omega), c1, c2, f1, f2, gSum, lo, hi]
def colAny (p : Int → Bool) (r : List (List Int)) (j : Nat) : Bool := r.any fun row => p (row.getD j 0)
/-- may the unknown at j be fixed at v -/
def fixOk (k : Tk) (j : Nat) (v : Int) : Bool :=
  (v == k.t.getD j 0 && (v == 0 || (decide (0 ≤ k.g.getD j 0) && !colAny (fun x => decide (0 < x)) k.r j))) || (v == 0 && (decide (k.g.getD j 0 ≤ 0) && !colAny (fun x => decide (x < 0)) k.r j))
theorem v_may_fix (k : Tk) (w : WfT k) (j : Nat) (h : j < k.t.length) (v : Int) : d_may_fix [eT k, .int j, .int v] = some (.ok (.fr (.bool (fixOk k j v)))) := by
  have h7 := w.r6
  have c1 : compGo (sName 7) kYes (kBin gGt (kIx (kQ (gVar 7)) (gVar 1)) (kC (.int 0))) [.fr (eT k), .fr (.int j), .fr (.int v), .fr (iL k.g), .fr (rL k.r), .fr (iL k.l), .fr (iL k.t), .un] (k.r.map fun x => iL x) = some (k.r.map fun row => .bool (decide (0 < row.getD j 0))) := by
    refine compGo_all _ _ _ _ _ _ fun x hx => ⟨_, rfl, ?_⟩
    simp -implicitDefEqProofs [-List.getD_eq_getElem?_getD, iL, atI_iL x j (by rw [w.lr _ hx]; exact h)]
  have c2 : compGo (sName 7) kYes (kBin gLt (kIx (kQ (gVar 7)) (gVar 1)) (kC (.int 0))) [.fr (eT k), .fr (.int j), .fr (.int v), .fr (iL k.g), .fr (rL k.r), .fr (iL k.l), .fr (iL k.t), .un] (k.r.map fun x => iL x) = some (k.r.map fun row => .bool (decide (row.getD j 0 < 0))) := by
    refine compGo_all _ _ _ _ _ _ fun x hx => ⟨_, rfl, ?_⟩
    simp -implicitDefEqProofs [-List.getD_eq_getElem?_getD, iL, atI_iL x j (by rw [w.lr _ hx]; exact h)]
  have f1 := fit_of (ys := k.r.map fun row => PyData.bool (decide (0 < row.getD j 0))) (by simp; omega)
  have f2 := fit_of (ys := k.r.map fun row => PyData.bool (decide (row.getD j 0 < 0))) (by simp; omega)
  have a1 := atI_iL k.t j h
  have a2 := atI_iL k.g j (by rw [w.lg]; exact h)
  simp -implicitDefEqProofs only [eT, iL, rL] at c1 c2
  unfold fixOk colAny
  cases b1 : (v == k.t.getD j 0) <;> cases b2 : (v == (0 : Int)) <;> cases b3 : decide (0 ≤ k.g.getD j 0) <;> cases b4 : (k.r.any fun row => decide (0 < row.getD j 0)) <;> cases b5 : decide (k.g.getD j 0 ≤ 0) <;> cases b6 : (k.r.any fun row => decide (row.getD j 0 < 0)) <;>
    simp -implicitDefEqProofs [-List.getD_eq_getElem?_getD, -beq_iff_eq, -decide_eq_true_eq, d_may_fix, b_may_fix, eT, iL, rL, a1, a2, c1, c2, f1, f2, b1, b2, b3, b4, b5, b6]
end K80

set_option Elab.async false
set_option linter.all false
set_option maxRecDepth 100000
set_option maxHeartbeats 2000000
namespace K80
open PySem PySem.Spec L2 DL
theorem gMax_col {A : Type} (f : A → Int) (xs : List A) : ∃ m, gMax (xs.map (fun a => PyData.int (f a)) ++ [.int 0]) = some (.fr (.int m)) ∧ decide (m ≤ 0) = !(xs.any fun a => decide (0 < f a)) := by
  have e : xs.map (fun a => PyData.int (f a)) ++ [.int 0] = (xs.map f ++ [0]).map PyData.int := by simp
  unfold gMax
  rw [e, intsOf_map]
  generalize hL : xs.map f ++ [0] = L
  cases L with
  | nil => simp at hL
  | cons n ns =>
    refine ⟨ns.foldl max n, rfl, ?_⟩
    obtain ⟨h1, h2⟩ := foldl_max_le ns n
    have hmem := foldl_max_mem ns n
    have all : ∀ y ∈ n :: ns, y ≤ ns.foldl max n := fun y hy => (List.mem_cons.mp hy).elim (fun e => e ▸ h1) (h2 y)
    have mem : ns.foldl max n ∈ n :: ns := hmem.elim (fun e => by rw [e]; exact List.mem_cons_self) (List.mem_cons_of_mem _)
    rw [← hL] at all mem
    cases hb : xs.any fun a => decide (0 < f a) with
    | true =>
      obtain ⟨a, ha, hp⟩ := List.any_eq_true.mp hb
      have := all (f a) (List.mem_append_left _ (List.mem_map.mpr ⟨a, ha, rfl⟩))
      have hp := of_decide_eq_true hp
      simp
      omega
    | false =>
      rcases List.mem_append.mp mem with z | z
      · obtain ⟨a, ha, e⟩ := List.mem_map.mp z
        have := List.any_eq_false.mp hb a ha
        simp at this ⊢
        omega
      · simp at z
        simp [z]
theorem gMin_col {A : Type} (f : A → Int) (xs : List A) : ∃ m, gMin (xs.map (fun a => PyData.int (f a)) ++ [.int 0]) = some (.fr (.int m)) ∧ decide (0 ≤ m) = !(xs.any fun a => decide (f a < 0)) := by
  have e : xs.map (fun a => PyData.int (f a)) ++ [.int 0] = (xs.map f ++ [0]).map PyData.int := by simp
  unfold gMin
  rw [e, intsOf_map]
  generalize hL : xs.map f ++ [0] = L
  cases L with
  | nil => simp at hL
  | cons n ns =>
    refine ⟨ns.foldl min n, rfl, ?_⟩
    obtain ⟨h1, h2⟩ := foldl_min_le ns n
    have hmem := foldl_min_mem ns n
    have all : ∀ y ∈ n :: ns, ns.foldl min n ≤ y := fun y hy => (List.mem_cons.mp hy).elim (fun e => e ▸ h1) (h2 y)
    have mem : ns.foldl min n ∈ n :: ns := hmem.elim (fun e => by rw [e]; exact List.mem_cons_self) (List.mem_cons_of_mem _)
    rw [← hL] at all mem
    cases hb : xs.any fun a => decide (f a < 0) with
    | true =>
      obtain ⟨a, ha, hp⟩ := List.any_eq_true.mp hb
      have := all (f a) (List.mem_append_left _ (List.mem_map.mpr ⟨a, ha, rfl⟩))
      have hp := of_decide_eq_true hp
      simp
      omega
    | false =>
      rcases List.mem_append.mp mem with z | z
      · obtain ⟨a, ha, e⟩ := List.mem_map.mp z
        have := List.any_eq_false.mp hb a ha
        simp at this ⊢
        omega
      · simp at z
        simp [z]
theorem v_law_fixes (k : Tk) (w : WfT k) (j : Nat) (h : j < k.t.length) (v : Int) : d_law_fixes [eT k, .int j, .int v] = some (.ok (.fr (.bool (fixOk k j v)))) := by
  have h7 := w.r6
  have c1 : ∀ u : Sl, compGo (sName 9) kYes (kIx (kQ (gVar 9)) (gVar 1)) [.fr (eT k), .fr (.int j), .fr (.int v), .fr (iL k.g), .fr (rL k.r), .fr (iL k.l), .fr (iL k.t), u, .un, .un] (k.r.map fun x => iL x) = some (k.r.map fun row => .int (row.getD j 0)) := fun u => by
    refine compGo_all _ _ _ _ _ _ fun x hx => ⟨_, rfl, ?_⟩
    simp -implicitDefEqProofs [-List.getD_eq_getElem?_getD, iL, atI_iL x j (by rw [w.lr _ hx]; exact h)]
  have f1 := fit_of (ys := k.r.map fun row => PyData.int (row.getD j 0)) (by simp; omega)
  have a1 := atI_iL k.t j h
  have a2 := atI_iL k.g j (by rw [w.lg]; exact h)
  obtain ⟨mx, m1, m2⟩ := gMax_col (fun row : List Int => row.getD j 0) k.r
  obtain ⟨mn, n1, n2⟩ := gMin_col (fun row : List Int => row.getD j 0) k.r
  simp -implicitDefEqProofs only [eT, iL, rL] at c1
  unfold fixOk colAny
  rw [← m2, ← n2]
  have hl : k.r.length + 1 ≤ 16777216 := by omega
  cases b1 : (v == k.t.getD j 0) <;> cases b2 : (v == (0 : Int)) <;> cases b3 : decide (0 ≤ k.g.getD j 0) <;> cases b5 : decide (k.g.getD j 0 ≤ 0) <;>
    simp -implicitDefEqProofs [-List.getD_eq_getElem?_getD, -beq_iff_eq, -decide_eq_true_eq, d_law_fixes, b_law_fixes, eT, iL, rL, a1, a2, c1, f1, b1, b2, b3, b5, m1, n1, hl]
  all_goals (cases decide (mx ≤ 0) <;> rfl)
end K80

set_option Elab.async false
set_option linter.all false
set_option maxRecDepth 100000
set_option maxHeartbeats 2000000
namespace K80
open PySem PySem.Spec L2 DL
def srt (f : List (Int × Int)) : List (Int × Int) := f.mergeSort fun p q => decide (p.1 < q.1 ∨ (p.1 = q.1 ∧ p.2 ≤ q.2))
def remRow (s : Stt) (i : Nat) : Stt := ⟨s.n, ⟨s.k.g, s.k.r.eraseIdx i, s.k.l.eraseIdx i, s.k.t⟩, s.f⟩
def room (k : Tk) (i : Nat) : Int := k.l.getD i 0 - lo (k.r.getD i []) k.t
def coef (k : Tk) (i j : Nat) : Int := (k.r.getD i []).getD j 0
def lowTop (s : Stt) (j i : Nat) : Stt := ⟨s.n, ⟨s.k.g, s.k.r, s.k.l, s.k.t.set j ((room s.k i).fdiv (coef s.k i j))⟩, s.f⟩
def fixName (s : Stt) (j : Nat) (v : Int) : Stt :=
  ⟨s.n.eraseIdx j, ⟨s.k.g.eraseIdx j, s.k.r.map fun row => row.eraseIdx j, List.zipWith (fun row l => l - row.getD j 0 * v) s.k.r s.k.l, s.k.t.eraseIdx j⟩, srt (s.f ++ [(s.n.getD j 0, v)])⟩
def canLow (k : Tk) (j i : Nat) : Bool := decide (0 < coef k i j) && (decide (0 ≤ room k i) && decide ((room k i).fdiv (coef k i j) < k.t.getD j 0))
def eO : Option Stt → D
  | none => .none
  | some s => eS s
structure WfS (s : Stt) : Prop extends WfT s.k where
  ln : s.n.length = s.k.t.length
  lf : s.f.length ≤ 6
theorem filt_off {A : Type} (f : A → D) : ∀ (xs : List A) (i k : Nat), i < k → ((xs.zipIdx k).filter fun p => !((p.2 : Int) == (i : Int))).map (fun p => f p.1) = xs.map f
  | [], _, _, _ => rfl
  | x :: xs, i, k, h => by
    rw [List.zipIdx_cons, List.filter_cons_of_pos, List.map_cons, List.map_cons, filt_off f xs i (k + 1) (by omega)]
    simp
    omega
theorem filt_idx {A : Type} (f : A → D) : ∀ (xs : List A) (i k : Nat), ((xs.zipIdx k).filter fun p => !((p.2 : Int) == ((i + k : Nat) : Int))).map (fun p => f p.1) = (xs.eraseIdx i).map f
  | [], _, _ => rfl
  | x :: xs, 0, k => by
    rw [List.zipIdx_cons, List.filter_cons_of_neg (by simp), List.eraseIdx_cons_zero, Nat.zero_add]
    exact filt_off f xs k (k + 1) (by omega)
  | x :: xs, i + 1, k => by
    rw [List.zipIdx_cons, List.filter_cons_of_pos, List.map_cons, List.eraseIdx_cons_succ, List.map_cons]
    · have := filt_idx f xs i (k + 1)
      rw [show i + (k + 1) = i + 1 + k by omega] at this
      rw [this]
    · simp
      omega
theorem getD_at {A : Type} (xs : List A) (d : A) {i : Nat} (h : i < xs.length) : xs.getD i d = xs[i] := by
  rw [List.getD_eq_getElem?_getD, List.getElem?_eq_getElem h]; rfl
theorem v_without_row (s : Stt) (w : WfS s) (i : Nat) (h : i < s.k.r.length) : ∃ r, d_without_row [eS s, .int i] = some (.ok r) ∧ r.data = eO (if s.k.l.getD i 0 < hi (s.k.r.getD i []) s.k.t then none else some (remRow s i)) := by
  have h6 := w.m6
  have h7 := w.r6
  have hg := v_greatest_sum s.k w.toWfT i h
  have a1 := atI_iL s.k.l i (by rw [w.ll]; exact h)
  rw [getD_at _ _ h]
  simp -implicitDefEqProofs only [eT, iL, rL] at hg
  by_cases hc : s.k.l.getD i 0 < hi s.k.r[i] s.k.t
  · refine ⟨.fr .none, ?_, by rw [if_pos hc]; rfl⟩
    simp -implicitDefEqProofs [-List.getD_eq_getElem?_getD, d_without_row, b_without_row, eS, eT, iL, rL, pL, hg, a1, hc]
  · have c1 : ∀ x9 x10 x11 x12 x13 : Sl, compGo (sTup 2 (sCons (sName 11) (sCons (sName 12) sNil))) (kB (kBin gNeA (gVar 11) (gVar 1))) (kData (kCall gList (kQ (gVar 12)))) [.fr (eS s), .fr (.int i), .fr (iL s.n), .fr (eT s.k), .fr (pL s.f), .fr (iL s.k.g), .fr (rL s.k.r), .fr (iL s.k.l), .fr (iL s.k.t), x9, x10, x11, x12, x13] (enumD 0 (s.k.r.map fun x => iL x)) = some ((s.k.r.eraseIdx i).map fun x => iL x) := fun x9 x10 x11 x12 x13 => by
      rw [enumD_map (fun x => iL x), ← filt_idx (fun x => iL x) s.k.r i 0]
      refine compGo_map _ _ _ _ _ _ _ _ fun p hp => ⟨_, rfl, ?_, fun _ => ?_⟩ <;> simp -implicitDefEqProofs
    have c2 : ∀ x9 x10 x11 x12 x13 : Sl, compGo (sTup 2 (sCons (sName 11) (sCons (sName 13) sNil))) (kB (kBin gNeA (gVar 11) (gVar 1))) (gVar 13) [.fr (eS s), .fr (.int i), .fr (iL s.n), .fr (eT s.k), .fr (pL s.f), .fr (iL s.k.g), .fr (rL s.k.r), .fr (iL s.k.l), .fr (iL s.k.t), x9, x10, x11, x12, x13] (enumD 0 (s.k.l.map PyData.int)) = some ((s.k.l.eraseIdx i).map PyData.int) := fun x9 x10 x11 x12 x13 => by
      rw [enumD_map, ← filt_idx PyData.int s.k.l i 0]
      refine compGo_map _ _ _ _ _ _ _ _ fun p hp => ⟨_, rfl, ?_, fun _ => ?_⟩ <;> simp -implicitDefEqProofs
    have e1 := List.length_eraseIdx_le s.k.r i
    have e2 := List.length_eraseIdx_le s.k.l i
    have e3 := w.ll
    have f1 := fit_of (ys := (s.k.r.eraseIdx i).map fun x => iL x) (by rw [List.length_map]; omega)
    have f2 := fit_of (ys := (s.k.l.eraseIdx i).map PyData.int) (by rw [List.length_map]; omega)
    simp -implicitDefEqProofs only [eS, eT, iL, rL, pL] at c1 c2 f1 f2
    refine ⟨.tp (s.n.map .int) [.tuple [iL s.k.g, rL (s.k.r.eraseIdx i), iL (s.k.l.eraseIdx i), iL s.k.t], pL s.f], ?_, by rw [if_neg hc]; rfl⟩
    simp -implicitDefEqProofs [-List.getD_eq_getElem?_getD, d_without_row, b_without_row, eS, eT, iL, rL, pL, hg, a1, hc, c1, c2, f1, f2]
end K80

set_option Elab.async false
set_option linter.all false
set_option maxRecDepth 100000
set_option maxHeartbeats 2000000
namespace K80
open PySem PySem.Spec L2 DL
theorem set_zip (v : Int) : ∀ (xs : List Int) (j k : Nat), ((xs.zipIdx k).map fun p => PyData.int (if (p.2 : Int) = ((j + k : Nat) : Int) then v else p.1)) = (xs.set j v).map PyData.int
  | [], _, _ => rfl
  | x :: xs, 0, k => by
    have off : ∀ (ys : List Int) (m : Nat), k < m → ((ys.zipIdx m).map fun p => PyData.int (if (p.2 : Int) = ((0 + k : Nat) : Int) then v else p.1)) = ys.map PyData.int := by
      intro ys
      induction ys with
      | nil => intro m _; rfl
      | cons y ys ih =>
        intro m hm
        rw [List.zipIdx_cons, List.map_cons, List.map_cons, ih (m + 1) (by omega), if_neg]
        show ¬ ((m : Int) = _)
        omega
    rw [List.zipIdx_cons, List.map_cons, List.set_cons_zero, List.map_cons, off xs (k + 1) (by omega), if_pos]
    show (k : Int) = _
    omega
  | x :: xs, j + 1, k => by
    have ih := set_zip v xs j (k + 1)
    rw [show j + (k + 1) = j + 1 + k by omega] at ih
    rw [List.zipIdx_cons, List.map_cons, List.set_cons_succ, List.map_cons, ih, if_neg]
    show ¬ ((k : Int) = _)
    omega
theorem coef_bd {k : Tk} (w : WfT k) {i : Nat} (h : i < k.r.length) (j : Nat) : (coef k i j).natAbs ≤ 20 := by
  unfold coef
  rw [getD_at _ _ h]
  exact (w.br _ (List.getElem_mem h)).get j
theorem v_lowered (s : Stt) (w : WfS s) (j i : Nat) (h : i < s.k.r.length) (hj : j < s.k.t.length) : ∃ r, d_lowered [eS s, .int j, .int i] = some (.ok r) ∧ r.data = eO (if canLow s.k j i = true then some (lowTop s j i) else none) := by
  have h6 := w.m6
  have h7 := w.r6
  have hg := v_least_sum s.k w.toWfT i h
  have a1 := atI_iL s.k.l i (by rw [w.ll]; exact h)
  have hr := row_at s.k w.toWfT h
  have hm := List.getElem_mem h
  have a2 : atI (s.k.r[i].map PyData.int) (j : Int) = some (.int (coef s.k i j)) := by
    unfold coef
    rw [getD_at _ _ h]
    exact atI_iL _ _ (by rw [w.lr _ hm]; exact hj)
  have a3 := atI_iL s.k.t j hj
  have hb := coef_bd w.toWfT h j
  have hrm : s.k.l.getD i 0 - lo s.k.r[i] s.k.t = room s.k i := by
    unfold room
    rw [getD_at s.k.r _ h]
  simp -implicitDefEqProofs only [eT, iL, rL] at hg
  by_cases hc : canLow s.k j i = true
  · have hc' := hc
    unfold canLow at hc'
    simp only [Bool.and_eq_true, decide_eq_true_iff] at hc'
    obtain ⟨q1, q2, q3⟩ := hc'
    have c1 : ∀ x12 x13 x14 x15 : Sl, compGo (sTup 2 (sCons (sName 13) (sCons (sName 14) sNil))) kYes (kIf (kB (kBin gEqA (gVar 13) (gVar 1))) (kBin gDiv (gVar 11) (gVar 10)) (gVar 14)) [.fr (eS s), .fr (.int j), .fr (.int i), .fr (iL s.n), .fr (eT s.k), .fr (pL s.f), .fr (iL s.k.g), .fr (rL s.k.r), .fr (iL s.k.l), .fr (iL s.k.t), .fr (.int (coef s.k i j)), .fr (.int (room s.k i)), x12, x13, x14, x15] (enumD 0 (s.k.t.map PyData.int)) = some ((s.k.t.set j ((room s.k i).fdiv (coef s.k i j))).map PyData.int) := fun x12 x13 x14 x15 => by
      rw [enumD_map, ← set_zip _ s.k.t j 0]
      refine compGo_all _ _ _ _ _ _ fun p hp => ⟨_, rfl, ?_⟩
      by_cases e : (p.2 : Int) = (j : Int)
      · simp -implicitDefEqProofs [e, show coef s.k i j ≠ 0 by omega, show (coef s.k i j).natAbs < 1073741824 by omega]
      · simp -implicitDefEqProofs [e, show ((p.2 : Int) == (j : Int)) = false from beq_eq_false_iff_ne.mpr e]
    have c2 : ∀ x12 x13 x14 x15 : Sl, compGo (sName 15) kYes (kData (kCall gList (kQ (gVar 15)))) [.fr (eS s), .fr (.int j), .fr (.int i), .fr (iL s.n), .fr (eT s.k), .fr (pL s.f), .fr (iL s.k.g), .fr (rL s.k.r), .fr (iL s.k.l), .fr (iL s.k.t), .fr (.int (coef s.k i j)), .fr (.int (room s.k i)), x12, x13, x14, x15] (s.k.r.map fun x => iL x) = some (s.k.r.map fun x => iL x) := fun x12 x13 x14 x15 => by
      refine compGo_all _ _ _ _ _ _ fun x hx => ⟨_, rfl, ?_⟩
      simp -implicitDefEqProofs
    have f1 := fit_of (ys := (s.k.t.set j ((room s.k i).fdiv (coef s.k i j))).map PyData.int) (by rw [List.length_map, List.length_set]; omega)
    have f2 := fit_of (ys := s.k.r.map fun x => iL x) (by rw [List.length_map]; omega)
    simp -implicitDefEqProofs only [eS, eT, iL, rL, pL] at c1 c2 f1 f2
    refine ⟨.tp (s.n.map .int) [.tuple [iL s.k.g, rL s.k.r, iL s.k.l, iL (s.k.t.set j ((room s.k i).fdiv (coef s.k i j)))], pL s.f], ?_, by rw [if_pos hc]; rfl⟩
    simp -implicitDefEqProofs [-List.getD_eq_getElem?_getD, -List.map_set, d_lowered, b_lowered, eS, eT, iL, rL, pL, hg, hr, a1, a2, a3, hrm, show ¬ coef s.k i j ≤ 0 by omega, show ¬ room s.k i < 0 by omega, show coef s.k i j ≠ 0 by omega, show (coef s.k i j).natAbs < 1073741824 by omega, show ¬ s.k.t.getD j 0 ≤ (room s.k i).fdiv (coef s.k i j) by omega, c1, c2, f1, f2]
  · refine ⟨.fr .none, ?_, by rw [if_neg hc]; rfl⟩
    unfold canLow at hc
    simp only [Bool.and_eq_true, decide_eq_true_iff] at hc
    by_cases q1 : coef s.k i j ≤ 0
    · simp -implicitDefEqProofs [-List.getD_eq_getElem?_getD, d_lowered, b_lowered, eS, eT, iL, rL, pL, hg, hr, a1, a2, a3, hrm, q1]
    · by_cases q2 : room s.k i < 0
      · simp -implicitDefEqProofs [-List.getD_eq_getElem?_getD, d_lowered, b_lowered, eS, eT, iL, rL, pL, hg, hr, a1, a2, a3, hrm, q1, q2]
      · have q3 : s.k.t.getD j 0 ≤ (room s.k i).fdiv (coef s.k i j) := by
          by_cases z : (room s.k i).fdiv (coef s.k i j) < s.k.t.getD j 0
          · exact absurd ⟨by omega, by omega, z⟩ hc
          · omega
        simp -implicitDefEqProofs [-List.getD_eq_getElem?_getD, d_lowered, b_lowered, eS, eT, iL, rL, pL, hg, hr, a1, a2, a3, hrm, q1, q2, q3, show coef s.k i j ≠ 0 by omega, show (coef s.k i j).natAbs < 1073741824 by omega]
end K80

set_option Elab.async false
set_option linter.all false
set_option maxRecDepth 100000
set_option maxHeartbeats 2000000
namespace K80
open PySem PySem.Spec L2 DL
theorem cut_take {A : Type} (xs : List A) (j : Nat) : cutD xs none (some (j : Int)) = xs.take j := by
  unfold DL.cutD
  rw [HT.sIx_none, HT.sIx_nat, List.drop_zero, Nat.sub_zero]
  by_cases h : j ≤ xs.length
  · rw [Nat.min_eq_left h]
  · rw [Nat.min_eq_right (by omega), List.take_length, List.take_of_length_le (by omega)]
theorem cut_drop {A : Type} (xs : List A) (j : Nat) : cutD xs (some ((j : Int) + 1)) none = xs.drop (j + 1) := by
  unfold DL.cutD
  rw [show (j : Int) + 1 = ((j + 1 : Nat) : Int) by omega, HT.sIx_none, HT.sIx_nat]
  by_cases h : j + 1 ≤ xs.length
  · rw [Nat.min_eq_left h, List.take_of_length_le (by rw [List.length_drop]; omega)]
  · rw [Nat.min_eq_right (by omega), Nat.sub_self, List.take_zero, List.drop_of_length_le (by omega)]
theorem srt_map (f : List (Int × Int)) : (f.map pD).mergeSort (PySem.W.dataLe false id) = (srt f).map pD := by
  unfold srt
  refine (List.map_mergeSort (s := PySem.W.dataLe false id) fun a _ b _ => ?_).symm
  have := congrFun (congrFun (PySem.W.dataLe_ii (β := Int × Int) (·.1) (·.2)) a) b
  rw [← this]
  rfl
theorem sort_pairs (f : List (Int × Int)) (h : f.length ≤ 1000) : gSorted (f.map pD) = some (.ow ((srt f).map pD)) := by
  unfold gSorted
  rw [if_pos, srt_map]
  refine ⟨PySem.W.AllAlike.of fun b b' => rfl, PySem.W.Sortable.tuples fun b => ⟨_, _, rfl⟩, ?_, fun d hd => ?_⟩
  · rw [List.length_map]; exact Nat.le_trans h (by decide)
  · obtain ⟨p, _, rfl⟩ := List.mem_map.mp hd
    simp [PyData.depth, PyData.depthAll]
theorem cut_join {A : Type} (xs : List A) (j : Nat) : xs.take j ++ xs.drop (j + 1) = xs.eraseIdx j := (List.eraseIdx_eq_take_drop_succ xs j).symm
theorem tkd (xs : List Int) (j : Nat) : (xs.map PyData.int).take j ++ (xs.map PyData.int).drop (j + 1) = (xs.eraseIdx j).map PyData.int := by
  rw [← cut_join, List.map_append, List.map_take, List.map_drop]
theorem zipWith_zip {A B C : Type} (f : A → B → C) : ∀ (xs : List A) (ys : List B), List.zipWith f xs ys = (xs.zip ys).map fun p => f p.1 p.2
  | [], _ => rfl
  | _ :: _, [] => rfl
  | x :: xs, y :: ys => by rw [List.zipWith_cons_cons, zipWith_zip f xs ys]; rfl
theorem v_without_name (s : Stt) (w : WfS s) (j : Nat) (hj : j < s.k.t.length) (v : Int) (hv : v.natAbs ≤ 1000) : ∃ r, d_without_name [eS s, .int j, .int v] = some (.ok r) ∧ r.data = eO (if 1 < s.n.length ∧ fixOk s.k j v = true then some (fixName s j v) else none) := by
  have h6 := w.m6
  have h7 := w.r6
  have h8 := w.lf
  have hn := w.ln
  have hg := w.lg
  have hf := v_may_fix s.k w.toWfT j hj v
  simp -implicitDefEqProofs only [eT, iL, rL] at hf
  by_cases q1 : s.n.length < 2
  · refine ⟨.fr .none, ?_, by rw [if_neg (by omega)]; rfl⟩
    simp -implicitDefEqProofs [d_without_name, b_without_name, eS, eT, iL, rL, pL, hf, show (s.n.length : Int) < 2 by omega]
  · cases q2 : fixOk s.k j v with
    | false =>
      refine ⟨.fr .none, ?_, by rw [if_neg (by simp)]; rfl⟩
      simp -implicitDefEqProofs [d_without_name, b_without_name, eS, eT, iL, rL, pL, hf, show ¬ (s.n.length : Int) < 2 by omega, q2]
    | true =>
      have tk : ∀ xs : List Int, xs.length ≤ 6 → (min j xs.length + (xs.length - (j + 1)) ≤ 16777216) := fun xs h => by omega
      have c1 : ∀ x10 x11 x12 x13 x14 : Sl, compGo (sName 13) kYes (kBin gAdd (kData (kSlA (gVar 13) kO0 (kO1 (gVar 1)))) (kData (kSlA (gVar 13) (kO1 (kBin gAdd (gVar 1) (kC (.int 1)))) kO0))) [.fr (eS s), .fr (.int j), .fr (.int v), .fr (iL s.n), .fr (eT s.k), .fr (pL s.f), .fr (iL s.k.g), .fr (rL s.k.r), .fr (iL s.k.l), .fr (iL s.k.t), x10, x11, x12, x13, x14] (s.k.r.map fun x => iL x) = some (s.k.r.map fun x => iL (x.eraseIdx j)) := fun x10 x11 x12 x13 x14 => by
        refine compGo_all _ _ _ _ _ _ fun x hx => ⟨_, rfl, ?_⟩
        have := tk x (by rw [w.lr _ hx]; exact h6)
        simp -implicitDefEqProofs [cut_take, cut_drop, this, tkd]
      have c2 : ∀ x10 x11 x12 x13 x14 : Sl, compGo (sTup 2 (sCons (sName 13) (sCons (sName 14) sNil))) kYes (kBin gSub (gVar 14) (kBin gMul (kIx (kQ (gVar 13)) (gVar 1)) (gVar 2))) [.fr (eS s), .fr (.int j), .fr (.int v), .fr (iL s.n), .fr (eT s.k), .fr (pL s.f), .fr (iL s.k.g), .fr (rL s.k.r), .fr (iL s.k.l), .fr (iL s.k.t), x10, x11, x12, x13, x14] (zipD (s.k.r.map fun x => iL x) (s.k.l.map PyData.int)) = some ((List.zipWith (fun row l => l - row.getD j 0 * v) s.k.r s.k.l).map PyData.int) := fun x10 x11 x12 x13 x14 => by
        rw [zipD_map (fun x => iL x) PyData.int, zipWith_zip, List.map_map]
        refine compGo_all _ _ _ _ _ _ fun p hp => ⟨_, rfl, ?_⟩
        have hx := (List.of_mem_zip hp).1
        have hb := (w.br _ hx).get j
        have hat := atI_iL p.1 j (by rw [w.lr _ hx]; exact hj)
        simp -implicitDefEqProofs [-List.getD_eq_getElem?_getD, hat, okMul_of (i := p.1.getD j 0) (j := v) (by omega)]
      have f1 := fit_of (ys := s.k.r.map fun x => iL (x.eraseIdx j)) (by rw [List.length_map]; omega)
      have f2 := fit_of (ys := (List.zipWith (fun row l => l - row.getD j 0 * v) s.k.r s.k.l).map PyData.int) (by rw [List.length_map, List.length_zipWith]; omega)
      have a1 := atI_iL s.n j (by omega)
      have b1 := tk s.k.g (by omega)
      have b2 := tk s.k.t (by omega)
      have b3 := tk s.n (by omega)
      have so := sort_pairs (s.f ++ [(s.n.getD j 0, v)]) (by rw [List.length_append]; simp; omega)
      rw [List.map_append] at so
      have so2 : gSorted (s.f.map pD ++ [.tuple [.int (s.n.getD j 0), .int v]]) = some (.ow ((srt (s.f ++ [(s.n.getD j 0, v)])).map pD)) := so
      simp -implicitDefEqProofs only [eS, eT, iL, rL, pL] at c1 c2 f1 f2
      refine ⟨.fr (eS (fixName s j v)), ?_, by rw [if_pos ⟨by omega, rfl⟩]; rfl⟩
      simp -implicitDefEqProofs [-List.getD_eq_getElem?_getD, -List.map_zipWith, d_without_name, b_without_name, eS, eT, iL, rL, pL, hf, show ¬ (s.n.length : Int) < 2 by omega, q2, c1, c2, f1, f2, a1, b1, b2, b3, cut_take, cut_drop, tkd, fixName, show s.f.length + 1 ≤ 16777216 by omega, so2]
end K80

set_option Elab.async false
set_option linter.all false
set_option maxRecDepth 100000
set_option maxHeartbeats 2000000
namespace K80
open PySem PySem.Spec L2 DL
inductive Kd where
  | non | row | top | fix | cut
deriving DecidableEq
def nm : Kd → Str
  | .non => "none"
  | .row => "row"
  | .top => "top"
  | .fix => "fix"
  | .cut => "cut"
abbrev Step := Kd × List Int
abbrev eStep (st : Step) : D := .tuple (.str (nm st.1) :: st.2.map .int)
def beh (s : Stt) : Step → Option Stt
  | (a, [i]) => if (a = .row ∨ a = .non) ∧ 0 ≤ i ∧ i < s.k.r.length then
      (if a = .row then (if s.k.l.getD i.toNat 0 < hi (s.k.r.getD i.toNat []) s.k.t then none else some (remRow s i.toNat)) else if s.k.l.getD i.toNat 0 < lo (s.k.r.getD i.toNat []) s.k.t then some s else none) else none
  | (a, [j, x]) => if 0 ≤ j ∧ j < s.n.length then
      (if a = .top ∧ 0 ≤ x ∧ x < s.k.r.length then (if canLow s.k j.toNat x.toNat = true then some (lowTop s j.toNat x.toNat) else none)
      else if a = .fix then (if 1 < s.n.length ∧ fixOk s.k j.toNat x = true then some (fixName s j.toNat x) else none) else none) else none
  | _ => none
theorem nm_row (a : Kd) : (nm a == ("row" : Str)) = decide (a = .row) := by cases a <;> decide +kernel
theorem nm_non (a : Kd) : (nm a == ("none" : Str)) = decide (a = .non) := by cases a <;> decide +kernel
theorem nm_top (a : Kd) : (nm a == ("top" : Str)) = decide (a = .top) := by cases a <;> decide +kernel
theorem nm_fix (a : Kd) : (nm a == ("fix" : Str)) = decide (a = .fix) := by cases a <;> decide +kernel
theorem nm_in (a : Kd) : gInA (.str (nm a)) (.tuple [.str "row", .str "none"]) = some (.bool (decide (a = .row) || decide (a = .non))) := by
  have h : SeqAt.shaped (.str (nm a)) = true := by cases a <;> decide +kernel
  have h2 : SeqAt.shaped (.tuple [.str "row", .str "none"]) = true := by decide +kernel
  have h3 : ([.str "row", .str "none"] : List D).any (fun z => PyData.eqv z (.str (nm a))) = (decide (a = .row) || decide (a = .non)) := by cases a <;> decide +kernel
  show (if _ then _ else _) = _
  rw [if_pos ⟨h, h2⟩, h3]
theorem nm_inL (a : Kd) : gInA (.str (nm a)) (.list [.str "row", .str "none"]) = some (.bool (decide (a = .row) || decide (a = .non))) := by
  have h : SeqAt.shaped (.str (nm a)) = true := by cases a <;> decide +kernel
  have h2 : SeqAt.shaped (.list [.str "row", .str "none"]) = true := by decide +kernel
  have h3 : ([.str "row", .str "none"] : List D).any (fun z => PyData.eqv z (.str (nm a))) = (decide (a = .row) || decide (a = .non)) := by cases a <;> decide +kernel
  show (if _ then _ else _) = _
  rw [if_pos ⟨h, h2⟩, h3]
theorem cut_tail (x : D) (xs : List D) : cutD (x :: xs) (some 1) none = xs := by
  have := cut_drop (x :: xs) 0
  simpa using this
theorem kd_data {x : Option Res} {r : Rv} (h : x = some (.ok r)) : (x.bind fun res => match res with | .ok r => some r | _ => none) = some r := by rw [h]; rfl
/-- a step of two -/
theorem v_behind1 (s : Stt) (w : WfS s) (a : Kd) (i : Int) : ∃ r, d_behind [eS s, eStep (a, [i])] = some (.ok r) ∧ r.data = eO (beh s (a, [i])) := by
  have h7 := w.r6
  by_cases hi : 0 ≤ i ∧ i < s.k.r.length
  · obtain ⟨n, rfl⟩ := Int.eq_ofNat_of_zero_le hi.1
    have hn : n < s.k.r.length := by omega
    by_cases ha : a = .row
    · obtain ⟨r, e1, e2⟩ := v_without_row s w n hn
      refine ⟨r, ?_, ?_⟩
      · simp -implicitDefEqProofs only [eS, eT, iL, rL, pL] at e1
        simp -implicitDefEqProofs [-gInA, d_behind, b_behind, eS, eT, iL, rL, pL, nm_in, nm_row, ha, cut_tail, hn, e1, kd_data e1]
      · rw [e2]
        simp [beh, ha, hn]
    · by_cases hb : a = .non
      · have e1 := v_least_sum s.k w.toWfT n hn
        have a1 := atI_iL s.k.l n (by rw [w.ll]; exact hn)
        have tc := v_task_copy s.k w.toWfT
        simp -implicitDefEqProofs only [eT, iL, rL] at e1 tc
        by_cases hc : s.k.l.getD n 0 < lo s.k.r[n] s.k.t
        · refine ⟨.tp (s.n.map .int) [eT s.k, pL s.f], ?_, ?_⟩
          · simp -implicitDefEqProofs [-List.getD_eq_getElem?_getD, -gInA, d_behind, b_behind, eS, eT, iL, rL, pL, nm_in, nm_row, ha, hb, cut_tail, hn, e1, a1, hc, tc]
          · have : beh s (a, [(n : Int)]) = some s := by
              simp [beh, hb, hn] at hc ⊢
              exact hc
            rw [this]
            rfl
        · refine ⟨.fr .none, ?_, ?_⟩
          · simp -implicitDefEqProofs [-List.getD_eq_getElem?_getD, -gInA, d_behind, b_behind, eS, eT, iL, rL, pL, nm_in, nm_row, ha, hb, cut_tail, hn, e1, a1, hc]
          · have : beh s (a, [(n : Int)]) = none := by
              simp [beh, hb, hn] at hc ⊢
              exact hc
            rw [this]
            rfl
      · refine ⟨.fr .none, ?_, ?_⟩
        · simp -implicitDefEqProofs [-gInA, d_behind, b_behind, eS, eT, iL, rL, pL, nm_in, nm_row, ha, hb, cut_tail, hn]
        · simp [beh, ha, hb, eO]
  · refine ⟨.fr .none, ?_, ?_⟩
    · by_cases h0 : 0 ≤ i
      · have h1 : ¬ i < s.k.r.length := fun z => hi ⟨h0, z⟩
        cases hb : (decide (a = Kd.row) || decide (a = Kd.non)) <;> simp -implicitDefEqProofs [-Bool.or_eq_true, -decide_eq_true_eq, -gInA, d_behind, b_behind, eS, eT, iL, rL, pL, nm_in, nm_row, hb, cut_tail, h0, h1]
      · cases hb : (decide (a = Kd.row) || decide (a = Kd.non)) <;> simp -implicitDefEqProofs [-Bool.or_eq_true, -decide_eq_true_eq, -gInA, d_behind, b_behind, eS, eT, iL, rL, pL, nm_in, nm_row, hb, cut_tail, h0]
    · have : beh s (a, [i]) = none := by
        show (if _ then _ else _) = _
        rw [if_neg (fun z => hi z.2)]
      rw [this]
      rfl
theorem v_behind0 (s : Stt) (w : WfS s) (a : Kd) : ∃ r, d_behind [eS s, eStep (a, [])] = some (.ok r) ∧ r.data = eO (beh s (a, [])) := by
  refine ⟨.fr .none, ?_, rfl⟩
  cases hb : (decide (a = Kd.row) || decide (a = Kd.non)) <;> simp -implicitDefEqProofs [-Bool.or_eq_true, -decide_eq_true_eq, -gInA, d_behind, b_behind, eS, eT, iL, rL, pL, nm_in, nm_row, hb, cut_tail]
theorem v_behind2 (s : Stt) (w : WfS s) (a : Kd) (j x : Int) (hx : x.natAbs ≤ 1000) : ∃ r, d_behind [eS s, eStep (a, [j, x])] = some (.ok r) ∧ r.data = eO (beh s (a, [j, x])) := by
  have h7 := w.r6
  have hn := w.ln
  have hl1 : ∀ (b : Bool), (if b = true then (some false : Option Bool) else some false) = some false := fun b => by cases b <;> rfl
  by_cases hj : 0 ≤ j ∧ j < s.n.length
  · obtain ⟨m, rfl⟩ := Int.eq_ofNat_of_zero_le hj.1
    have hm : m < s.n.length := by omega
    have hm2 : m < s.k.t.length := by omega
    by_cases ha : a = .top ∧ 0 ≤ x ∧ x < s.k.r.length
    · obtain ⟨ha, hx0, hx1⟩ := ha
      obtain ⟨n, rfl⟩ := Int.eq_ofNat_of_zero_le hx0
      have hn1 : n < s.k.r.length := by omega
      obtain ⟨r, e1, e2⟩ := v_lowered s w m n hn1 hm2
      refine ⟨r, ?_, ?_⟩
      · simp -implicitDefEqProofs only [eS, eT, iL, rL, pL] at e1
        simp -implicitDefEqProofs [-gInA, d_behind, b_behind, eS, eT, iL, rL, pL, nm_in, nm_row, nm_top, nm_fix, ha, cut_tail, hm, hn1, e1, kd_data e1]
      · rw [e2]
        simp [beh, ha, hm, hn1]
    · by_cases hb : a = .fix
      · obtain ⟨r, e1, e2⟩ := v_without_name s w m hm2 x hx
        refine ⟨r, ?_, ?_⟩
        · simp -implicitDefEqProofs only [eS, eT, iL, rL, pL] at e1
          simp -implicitDefEqProofs [-gInA, d_behind, b_behind, eS, eT, iL, rL, pL, nm_in, nm_row, nm_top, nm_fix, hb, cut_tail, hm, e1, kd_data e1]
        · rw [e2]
          simp [beh, hb, hm]
      · refine ⟨.fr .none, ?_, ?_⟩
        · by_cases hc : a = .top
          · by_cases h0 : 0 ≤ x
            · have h1 : ¬ x < s.k.r.length := fun z => ha ⟨hc, h0, z⟩
              simp -implicitDefEqProofs [-gInA, d_behind, b_behind, eS, eT, iL, rL, pL, nm_in, nm_row, nm_top, nm_fix, hc, cut_tail, hm, h0, h1]
            · simp -implicitDefEqProofs [-gInA, d_behind, b_behind, eS, eT, iL, rL, pL, nm_in, nm_row, nm_top, nm_fix, hc, cut_tail, hm, h0]
          · cases hd : (decide (a = Kd.row) || decide (a = Kd.non)) <;> simp -implicitDefEqProofs [-Bool.or_eq_true, -decide_eq_true_eq, -gInA, d_behind, b_behind, eS, eT, iL, rL, pL, nm_in, nm_row, nm_top, nm_fix, hb, hc, hd, cut_tail, hm]
        · have : beh s (a, [(m : Int), x]) = none := by
            show (if _ then _ else _) = _
            rw [if_pos hj, if_neg ha, if_neg hb]
          rw [this]
          rfl
  · refine ⟨.fr .none, ?_, ?_⟩
    · by_cases h0 : 0 ≤ j
      · have h1 : ¬ j < s.n.length := fun z => hj ⟨h0, z⟩
        cases hb : (decide (a = Kd.row) || decide (a = Kd.non)) <;> simp -implicitDefEqProofs [-Bool.or_eq_true, -decide_eq_true_eq, -gInA, d_behind, b_behind, eS, eT, iL, rL, pL, nm_in, nm_row, hb, cut_tail, h0, h1]
      · cases hb : (decide (a = Kd.row) || decide (a = Kd.non)) <;> simp -implicitDefEqProofs [-Bool.or_eq_true, -decide_eq_true_eq, -gInA, d_behind, b_behind, eS, eT, iL, rL, pL, nm_in, nm_row, hb, cut_tail, h0]
    · have : beh s (a, [j, x]) = none := by
        show (if _ then _ else _) = _
        rw [if_neg hj]
      rw [this]
      rfl
end K80

set_option Elab.async false
set_option linter.all false
set_option maxRecDepth 100000
set_option maxHeartbeats 2000000
namespace K80
open PySem PySem.Spec L2 DL
def off (n m : Nat) : List Nat := (List.range n).filter fun i => !((i : Int) == (m : Int))
theorem off_map {A : Type} (d : A) (f : A → D) (xs : List A) (m : Nat) : (off xs.length m).map (fun i => f (xs.getD i d)) = (xs.eraseIdx m).map f := by
  have h := filt_idx f xs m 0
  rw [← h]
  unfold off
  have e : List.range xs.length = (xs.zipIdx).map Prod.snd := by simp [List.range_eq_range']
  rw [e, List.filter_map, List.map_map]
  refine List.map_congr_left fun p hp => ?_
  have hp' := (List.mem_filter.mp hp).1
  have := zipIdx_lt hp'
  show f (xs.getD p.2 d) = f p.1
  rw [List.getD_eq_getElem?_getD, this.2]
  rfl
theorem off_len (n m : Nat) : (off n m).length ≤ n := by
  have := List.length_filter_le (fun i : Nat => !((i : Int) == (m : Int))) (List.range n)
  rw [List.length_range] at this
  exact this
theorem off_lt {n m i : Nat} (h : i ∈ off n m) : i < n := List.mem_range.mp (List.mem_filter.mp h).1
theorem range_zipG {A B : Type} (da : A) (db : B) (f : A → B → D) : ∀ (xs : List A) (ys : List B), xs.length ≤ ys.length → (List.range xs.length).map (fun k => f (xs.getD k da) (ys.getD k db)) = List.zipWith f xs ys
  | [], _, _ => rfl
  | x :: xs, [], h => by simp at h
  | x :: xs, y :: ys, h => by
    have ih := range_zipG da db f xs ys (by simpa using h)
    rw [List.length_cons, List.range_succ_eq_map, List.map_cons, List.map_map]
    show f x y :: _ = f x y :: _
    rw [← ih]
    rfl
theorem row_atD (k : Tk) {i : Nat} (hi : i < k.r.length) : atI (k.r.map fun x => iL x) (i : Int) = some (iL (k.r.getD i [])) := by
  rw [getD_at _ _ hi]
  exact atI_map_nat (fun x => iL x) _ _ hi
theorem v_lbehind1 (s : Stt) (w : WfS s) (a : Kd) (i : Int) : ∃ r, d_law_behind [eS s, eStep (a, [i])] = some (.ok r) ∧ r.data = eO (beh s (a, [i])) := by
  have h7 := w.r6
  by_cases hi : 0 ≤ i ∧ i < s.k.r.length
  · obtain ⟨n, rfl⟩ := Int.eq_ofNat_of_zero_le hi.1
    have hn : n < s.k.r.length := by omega
    have e1 := v_law_ends s.k w.toWfT n hn
    have a1 := atI_iL s.k.l n (by rw [w.ll]; exact hn)
    simp -implicitDefEqProofs only [eT, iL, rL] at e1
    by_cases ha : a = .row
    · by_cases hc : s.k.l.getD n 0 < K80.hi s.k.r[n] s.k.t
      · refine ⟨.fr .none, ?_, ?_⟩
        · simp -implicitDefEqProofs [-List.getD_eq_getElem?_getD, -gInA, d_law_behind, b_law_behind, eS, eT, iL, rL, pL, nm_inL, nm_row, nm_non, ha, hn, e1, a1, show ¬ K80.hi s.k.r[n] s.k.t ≤ s.k.l.getD n 0 by omega]
        · have : beh s (a, [(n : Int)]) = none := by
            simp [beh, ha, hn] at hc ⊢
            exact hc
          rw [this]
          rfl
      · have c0 : ∀ x9 x10 x11 x12 x13 x14 x15 x17 x18 : Sl, compGo (sName 16) (kB (kBin gNeA (gVar 16) (kIx (kQ (gVar 1)) (kC (.int 1))))) (gVar 16) [.fr (eS s), .fr (eStep (.row, [(n : Int)])), .fr (iL s.n), .fr (eT s.k), .fr (pL s.f), .fr (iL s.k.g), .fr (rL s.k.r), .fr (iL s.k.l), .fr (iL s.k.t), x9, x10, x11, x12, x13, x14, x15, .un, x17, x18] (rangeD 0 1 s.k.r.length) = some ((off s.k.r.length n).map fun i : Nat => .int i) := fun x9 x10 x11 x12 x13 x14 x15 x17 x18 => by
          rw [rangeD_zero]
          refine compGo_map _ _ _ _ _ _ _ _ fun p hp => ⟨_, rfl, ?_, fun _ => ?_⟩ <;> simp -implicitDefEqProofs
        have c1 : ∀ x9 x10 x11 x12 x13 x14 x15 x17 x18 : Sl, compGo (sName 16) kYes (kIx (kQ (gVar 6)) (gVar 16)) [.fr (eS s), .fr (eStep (.row, [(n : Int)])), .fr (iL s.n), .fr (eT s.k), .fr (pL s.f), .fr (iL s.k.g), .fr (rL s.k.r), .fr (iL s.k.l), .fr (iL s.k.t), x9, x10, x11, x12, x13, x14, x15, .un, x17, x18] ((off s.k.r.length n).map fun i : Nat => .int i) = some ((s.k.r.eraseIdx n).map fun x => iL x) := fun x9 x10 x11 x12 x13 x14 x15 x17 x18 => by
          rw [← off_map [] (fun x => iL x)]
          refine compGo_all _ _ _ _ _ _ fun p hp => ⟨_, rfl, ?_⟩
          have := row_atD s.k (off_lt hp)
          simp -implicitDefEqProofs [-List.getD_eq_getElem?_getD, iL, rL, this]
        have c2 : ∀ x9 x10 x11 x12 x13 x14 x15 x17 x18 : Sl, compGo (sName 16) kYes (kIx (kQ (gVar 7)) (gVar 16)) [.fr (eS s), .fr (eStep (.row, [(n : Int)])), .fr (iL s.n), .fr (eT s.k), .fr (pL s.f), .fr (iL s.k.g), .fr (rL s.k.r), .fr (iL s.k.l), .fr (iL s.k.t), x9, x10, x11, x12, x13, x14, x15, .un, x17, x18] ((off s.k.r.length n).map fun i : Nat => .int i) = some ((s.k.l.eraseIdx n).map PyData.int) := fun x9 x10 x11 x12 x13 x14 x15 x17 x18 => by
          rw [← w.ll, ← off_map 0 PyData.int]
          refine compGo_all _ _ _ _ _ _ fun p hp => ⟨_, rfl, ?_⟩
          have := atI_iL s.k.l p (off_lt hp)
          simp -implicitDefEqProofs [-List.getD_eq_getElem?_getD, iL, rL, this]
        have l1 := List.length_eraseIdx_le s.k.r n
        have l2 := List.length_eraseIdx_le s.k.l n
        have l3 := w.ll
        have f0 := fit_of (ys := (off s.k.r.length n).map fun i : Nat => PyData.int i) (by rw [List.length_map]; have := off_len s.k.r.length n; omega)
        have f1 := fit_of (ys := (s.k.r.eraseIdx n).map fun x => iL x) (by rw [List.length_map]; omega)
        have f2 := fit_of (ys := (s.k.l.eraseIdx n).map PyData.int) (by rw [List.length_map]; omega)
        simp -implicitDefEqProofs only [eS, eT, iL, rL, pL] at c0 c1 c2 f1 f2
        refine ⟨.fr (eS (remRow s n)), ?_, ?_⟩
        · simp -implicitDefEqProofs [-List.getD_eq_getElem?_getD, -gInA, d_law_behind, b_law_behind, eS, eT, iL, rL, pL, nm_inL, nm_row, nm_non, ha, hn, e1, a1, show K80.hi s.k.r[n] s.k.t ≤ s.k.l.getD n 0 by omega, sm_of (j := (s.k.r.length : Int)) (by omega) (by omega), c0, c1, c2, f0, f1, f2, remRow]
        · have : beh s (a, [(n : Int)]) = some (remRow s n) := by
            simp [beh, ha, hn] at hc ⊢
            exact hc
          rw [this]
          rfl
    · by_cases hb : a = .non
      · by_cases hc : s.k.l.getD n 0 < lo s.k.r[n] s.k.t
        · refine ⟨.fr (eS s), ?_, ?_⟩
          · simp -implicitDefEqProofs [-List.getD_eq_getElem?_getD, -gInA, d_law_behind, b_law_behind, eS, eT, iL, rL, pL, nm_inL, nm_row, nm_non, ha, hb, hn, e1, a1, hc]
          · have : beh s (a, [(n : Int)]) = some s := by
              simp [beh, hb, hn] at hc ⊢
              exact hc
            rw [this]
            rfl
        · refine ⟨.fr .none, ?_, ?_⟩
          · simp -implicitDefEqProofs [-List.getD_eq_getElem?_getD, -gInA, d_law_behind, b_law_behind, eS, eT, iL, rL, pL, nm_inL, nm_row, nm_non, ha, hb, hn, e1, a1, hc]
          · have : beh s (a, [(n : Int)]) = none := by
              simp [beh, hb, hn] at hc ⊢
              exact hc
            rw [this]
            rfl
      · refine ⟨.fr .none, ?_, ?_⟩
        · simp -implicitDefEqProofs [-gInA, d_law_behind, b_law_behind, eS, eT, iL, rL, pL, nm_inL, nm_row, nm_non, ha, hb, hn]
        · simp [beh, ha, hb, eO]
  · refine ⟨.fr .none, ?_, ?_⟩
    · by_cases h0 : 0 ≤ i
      · have h1 : ¬ i < s.k.r.length := fun z => hi ⟨h0, z⟩
        cases hb : (decide (a = Kd.row) || decide (a = Kd.non)) <;> simp -implicitDefEqProofs [-Bool.or_eq_true, -decide_eq_true_eq, -gInA, d_law_behind, b_law_behind, eS, eT, iL, rL, pL, nm_inL, nm_row, hb, h0, h1]
      · cases hb : (decide (a = Kd.row) || decide (a = Kd.non)) <;> simp -implicitDefEqProofs [-Bool.or_eq_true, -decide_eq_true_eq, -gInA, d_law_behind, b_law_behind, eS, eT, iL, rL, pL, nm_inL, nm_row, hb, h0]
    · have : beh s (a, [i]) = none := by
        show (if _ then _ else _) = _
        rw [if_neg (fun z => hi z.2)]
      rw [this]
      rfl
theorem v_lbehind0 (s : Stt) (w : WfS s) (a : Kd) : ∃ r, d_law_behind [eS s, eStep (a, [])] = some (.ok r) ∧ r.data = eO (beh s (a, [])) := by
  refine ⟨.fr .none, ?_, rfl⟩
  cases hb : (decide (a = Kd.row) || decide (a = Kd.non)) <;> simp -implicitDefEqProofs [-Bool.or_eq_true, -decide_eq_true_eq, -gInA, d_law_behind, b_law_behind, eS, eT, iL, rL, pL, nm_inL, nm_row, hb]
end K80

set_option Elab.async false
set_option linter.all false
set_option maxRecDepth 100000
set_option maxHeartbeats 2000000
namespace K80
open PySem PySem.Spec L2 DL
theorem set_parts (t : List Int) (j : Nat) (v : Int) (h : j < t.length) : (t.map PyData.int).take j ++ ([PyData.int v] ++ (t.map PyData.int).drop (j + 1)) = (t.set j v).map PyData.int := by
  rw [List.set_eq_take_append_cons_drop, if_pos h, List.map_append, List.map_cons, List.map_take, List.map_drop]
  rfl
theorem v_lbehind2 (s : Stt) (w : WfS s) (a : Kd) (j x : Int) (hx : x.natAbs ≤ 1000) : ∃ r, d_law_behind [eS s, eStep (a, [j, x])] = some (.ok r) ∧ r.data = eO (beh s (a, [j, x])) := by
  have h7 := w.r6
  have h6 := w.m6
  have hn := w.ln
  have hg := w.lg
  have hll := w.ll
  have h8 := w.lf
  by_cases hj : 0 ≤ j ∧ j < s.n.length
  · obtain ⟨m, rfl⟩ := Int.eq_ofNat_of_zero_le hj.1
    have hm : m < s.n.length := by omega
    have hm2 : m < s.k.t.length := by omega
    by_cases ha : a = .top ∧ 0 ≤ x ∧ x < s.k.r.length
    · obtain ⟨ha, hx0, hx1⟩ := ha
      obtain ⟨n, rfl⟩ := Int.eq_ofNat_of_zero_le hx0
      have hn1 : n < s.k.r.length := by omega
      have hB : beh s (a, [(m : Int), (n : Int)]) = if canLow s.k m n = true then some (lowTop s m n) else none := by
        simp [beh, ha, hm, hn1]
      have e1 := v_law_ends s.k w.toWfT n hn1
      have a1 := atI_iL s.k.l n (by omega)
      have hr := row_at s.k w.toWfT hn1
      have hmm := List.getElem_mem hn1
      have a2 : atI (s.k.r[n].map PyData.int) (m : Int) = some (.int (coef s.k n m)) := by
        unfold coef
        rw [getD_at _ _ hn1]
        exact atI_iL _ _ (by rw [w.lr _ hmm]; exact hm2)
      have a3 := atI_iL s.k.t m hm2
      have hb := coef_bd w.toWfT hn1 m
      have hrm : s.k.l.getD n 0 - lo s.k.r[n] s.k.t = room s.k n := by
        unfold room
        rw [getD_at s.k.r _ hn1]
      simp -implicitDefEqProofs only [eT, iL, rL] at e1
      by_cases q1 : 0 < coef s.k n m
      · by_cases q2 : 0 ≤ room s.k n
        · by_cases q3 : (room s.k n).fdiv (coef s.k n m) < s.k.t.getD m 0
          · refine ⟨.fr (eS (lowTop s m n)), ?_, ?_⟩
            · simp -implicitDefEqProofs [-List.getD_eq_getElem?_getD, -List.map_set, -gInA, d_law_behind, b_law_behind, eS, eT, iL, rL, pL, nm_inL, nm_row, nm_non, nm_top, nm_fix, ha, hm, hn1, e1, a1, a2, a3, hr, hrm, q1, q2, q3, show coef s.k n m ≠ 0 by omega, show (coef s.k n m).natAbs < 1073741824 by omega, cut_take, cut_drop, show min m s.k.t.length + 1 ≤ 16777216 by omega, show min m s.k.t.length + 1 + (s.k.t.length - (m + 1)) ≤ 16777216 by omega, lowTop]
              have := set_parts s.k.t m ((room s.k n).fdiv (coef s.k n m)) hm2
              simpa -implicitDefEqProofs [-List.map_set] using this
            · rw [hB, if_pos (by unfold canLow; simp only [Bool.and_eq_true, decide_eq_true_iff]; exact ⟨q1, q2, q3⟩)]
              rfl
          · refine ⟨.fr .none, ?_, ?_⟩
            · simp -implicitDefEqProofs [-List.getD_eq_getElem?_getD, -gInA, d_law_behind, b_law_behind, eS, eT, iL, rL, pL, nm_inL, nm_row, nm_non, nm_top, nm_fix, ha, hm, hn1, e1, a1, a2, a3, hr, hrm, q1, q2, q3, show coef s.k n m ≠ 0 by omega, show (coef s.k n m).natAbs < 1073741824 by omega]
            · rw [hB, if_neg (by unfold canLow; simp only [Bool.and_eq_true, decide_eq_true_iff]; exact fun z => q3 z.2.2)]
              rfl
        · refine ⟨.fr .none, ?_, ?_⟩
          · simp -implicitDefEqProofs [-List.getD_eq_getElem?_getD, -gInA, d_law_behind, b_law_behind, eS, eT, iL, rL, pL, nm_inL, nm_row, nm_non, nm_top, nm_fix, ha, hm, hn1, e1, a1, a2, a3, hr, hrm, q1, q2]
          · rw [hB, if_neg (by unfold canLow; simp only [Bool.and_eq_true, decide_eq_true_iff]; exact fun z => q2 z.2.1)]
            rfl
      · refine ⟨.fr .none, ?_, ?_⟩
        · simp -implicitDefEqProofs [-List.getD_eq_getElem?_getD, -gInA, d_law_behind, b_law_behind, eS, eT, iL, rL, pL, nm_inL, nm_row, nm_non, nm_top, nm_fix, ha, hm, hn1, e1, a1, a2, a3, hr, hrm, q1]
        · rw [hB, if_neg (by unfold canLow; simp only [Bool.and_eq_true, decide_eq_true_iff]; exact fun z => q1 z.1)]
          rfl
    · by_cases hb : a = .fix
      · subst hb
        have hB : beh s (.fix, [(m : Int), x]) = if 1 < s.n.length ∧ fixOk s.k m x = true then some (fixName s m x) else none := by
          simp [beh, hm]
        have hf := v_law_fixes s.k w.toWfT m hm2 x
        simp -implicitDefEqProofs only [eT, iL, rL] at hf
        rw [hB]
        by_cases q1 : 1 < s.n.length
        · cases q2 : fixOk s.k m x with
          | false =>
            refine ⟨.fr .none, ?_, by rw [if_neg (by simp)]; rfl⟩
            simp -implicitDefEqProofs [-gInA, d_law_behind, b_law_behind, eS, eT, iL, rL, pL, nm_inL, nm_row, nm_non, nm_top, nm_fix, hm, q1, show (1 : Int) < s.n.length by omega, q2, hf]
          | true =>
            have c0 : ∀ x9 x10 x11 x13 x14 x15 x16 x18 : Sl, compGo (sName 17) (kB (kBin gNeA (gVar 17) (gVar 12))) (gVar 17) [.fr (eS s), .fr (eStep (.fix, [(m : Int), x])), .fr (iL s.n), .fr (eT s.k), .fr (pL s.f), .fr (iL s.k.g), .fr (rL s.k.r), .fr (iL s.k.l), .fr (iL s.k.t), x9, x10, x11, .fr (.int m), x13, x14, x15, x16, .un, x18] (rangeD 0 1 s.n.length) = some ((off s.n.length m).map fun i : Nat => .int i) := fun x9 x10 x11 x13 x14 x15 x16 x18 => by
              rw [rangeD_zero]
              refine compGo_map _ _ _ _ _ _ _ _ fun p hp => ⟨_, rfl, ?_, fun _ => ?_⟩ <;> simp -implicitDefEqProofs
            have cI : ∀ (sl : Nat) (xs : List Int) (ρ : Rho), xs.length = s.n.length → (∀ p : Nat, kQ (gVar sl) (ρ.set 17 (.fr (.int p))) = some (xs.map PyData.int)) → 17 < ρ.length → compGo (sName 17) kYes (kIx (kQ (gVar sl)) (gVar 17)) ρ ((off s.n.length m).map fun i : Nat => .int i) = some ((xs.eraseIdx m).map PyData.int) := fun sl xs ρ hxs hq hlen => by
              rw [← off_map 0 PyData.int, hxs]
              refine compGo_all _ _ _ _ _ _ fun p hp => ⟨_, rfl, ?_⟩
              have := atI_iL xs p (by rw [hxs]; exact off_lt hp)
              simp -implicitDefEqProofs only [kIx, hq p, gVar, List.getElem?_set_self hlen, Option.bind_some, this]
            have c1 : ∀ x9 x10 x11 x13 x15 x17 x18 : Sl, compGo (sName 16) kYes (kBin gSub (kIx (kQ (gVar 7)) (gVar 16)) (kBin gMul (kIx (kQ (kIx (kQ (gVar 6)) (gVar 16))) (gVar 12)) (kIx (kQ (gVar 1)) (kC (.int 2))))) [.fr (eS s), .fr (eStep (.fix, [(m : Int), x])), .fr (iL s.n), .fr (eT s.k), .fr (pL s.f), .fr (iL s.k.g), .fr (rL s.k.r), .fr (iL s.k.l), .fr (iL s.k.t), x9, x10, x11, .fr (.int m), x13, .un, x15, .un, x17, x18] (rangeD 0 1 s.k.r.length) = some ((List.zipWith (fun row l => l - row.getD m 0 * x) s.k.r s.k.l).map PyData.int) := fun x9 x10 x11 x13 x15 x17 x18 => by
              rw [rangeD_zero, List.map_zipWith, ← range_zipG [] 0 (fun row l => PyData.int (l - row.getD m 0 * x)) s.k.r s.k.l (by omega)]
              refine compGo_all _ _ _ _ _ _ fun p hp => ⟨_, rfl, ?_⟩
              have hp' := List.mem_range.mp hp
              have b1 := row_atD s.k hp'
              have hmem : s.k.r.getD p [] ∈ s.k.r := by rw [getD_at _ _ hp']; exact List.getElem_mem hp'
              have b2 := atI_iL (s.k.r.getD p []) m (by rw [w.lr _ hmem]; exact hm2)
              have b3 := atI_iL s.k.l p (by omega)
              have hbd := (w.br _ hmem).get m
              simp -implicitDefEqProofs [-List.getD_eq_getElem?_getD, iL, rL, b1, b2, b3, okMul_of (i := (s.k.r.getD p []).getD m 0) (j := x) (by omega)]
            have c2 : ∀ x9 x10 x13 x14 x15 x16 : Sl, compGo (sName 18) kYes (kData (kComp (List.map (fun x => x.2) ([("j", 17)] : List (Str × Nat))) (kQ (gVar 11)) (sName 17) kYes (kIx (kQ (gVar 18)) (gVar 17)))) [.fr (eS s), .fr (eStep (.fix, [(m : Int), x])), .fr (iL s.n), .fr (eT s.k), .fr (pL s.f), .fr (iL s.k.g), .fr (rL s.k.r), .fr (iL s.k.l), .fr (iL s.k.t), x9, x10, .fr (.list ((off s.n.length m).map fun i : Nat => .int i)), .fr (.int m), x13, x14, x15, x16, .un, .un] (s.k.r.map fun x => iL x) = some (s.k.r.map fun row => iL (row.eraseIdx m)) := fun x9 x10 x13 x14 x15 x16 => by
              refine compGo_all _ _ _ _ _ _ fun row hr => ⟨_, rfl, ?_⟩
              have hl := w.lr _ hr
              have z := cI 18 row [.fr (eS s), .fr (eStep (.fix, [(m : Int), x])), .fr (iL s.n), .fr (eT s.k), .fr (pL s.f), .fr (iL s.k.g), .fr (rL s.k.r), .fr (iL s.k.l), .fr (iL s.k.t), x9, x10, .fr (.list ((off s.n.length m).map fun i : Nat => .int i)), .fr (.int m), x13, x14, x15, x16, .un, .fr (iL row)] (by omega) (fun p => rfl) (by simp)
              have le := List.length_eraseIdx_le row m
              have f := fit_of (ys := (row.eraseIdx m).map PyData.int) (by rw [List.length_map]; omega)
              simp -implicitDefEqProofs [z, f]
            have lim : ∀ xs : List Int, xs.length ≤ 6 → ((xs.eraseIdx m).map PyData.int).length ≤ 1000000 := fun xs hl => by
              have := List.length_eraseIdx_le xs m
              rw [List.length_map]; omega
            have f0 := fit_of (ys := (off s.n.length m).map fun i : Nat => PyData.int i) (by rw [List.length_map]; have := off_len s.n.length m; omega)
            have f1 := fit_of (lim s.n (by omega))
            have f2 := fit_of (lim s.k.g (by omega))
            have f3 := fit_of (lim s.k.t (by omega))
            have f4 := fit_of (ys := (List.zipWith (fun row l => l - row.getD m 0 * x) s.k.r s.k.l).map PyData.int) (by rw [List.length_map, List.length_zipWith]; omega)
            have f5 := fit_of (ys := s.k.r.map fun row => iL (row.eraseIdx m)) (by rw [List.length_map]; omega)
            have so := sort_pairs (s.f ++ [(s.n.getD m 0, x)]) (by rw [List.length_append]; simp; omega)
            rw [List.map_append] at so
            have so2 : gSorted (s.f.map pD ++ [.tuple [.int (s.n.getD m 0), .int x]]) = some (.ow ((srt (s.f ++ [(s.n.getD m 0, x)])).map pD)) := so
            have a1 := atI_iL s.n m hm
            have cG : ∀ (x9 x10 x13 x14 x15 x16 x18 : Sl), compGo (sName 17) kYes (kIx (kQ (gVar 5)) (gVar 17)) [.fr (eS s), .fr (eStep (.fix, [(m : Int), x])), .fr (iL s.n), .fr (eT s.k), .fr (pL s.f), .fr (iL s.k.g), .fr (rL s.k.r), .fr (iL s.k.l), .fr (iL s.k.t), x9, x10, .fr (.list ((off s.n.length m).map fun i : Nat => .int i)), .fr (.int m), x13, x14, x15, x16, .un, x18] ((off s.n.length m).map fun i : Nat => .int i) = some ((s.k.g.eraseIdx m).map PyData.int) := fun x9 x10 x13 x14 x15 x16 x18 => cI 5 s.k.g _ (by omega) (fun p => rfl) (by simp)
            have cT : ∀ (x9 x10 x13 x14 x15 x16 x18 : Sl), compGo (sName 17) kYes (kIx (kQ (gVar 8)) (gVar 17)) [.fr (eS s), .fr (eStep (.fix, [(m : Int), x])), .fr (iL s.n), .fr (eT s.k), .fr (pL s.f), .fr (iL s.k.g), .fr (rL s.k.r), .fr (iL s.k.l), .fr (iL s.k.t), x9, x10, .fr (.list ((off s.n.length m).map fun i : Nat => .int i)), .fr (.int m), x13, x14, x15, x16, .un, x18] ((off s.n.length m).map fun i : Nat => .int i) = some ((s.k.t.eraseIdx m).map PyData.int) := fun x9 x10 x13 x14 x15 x16 x18 => cI 8 s.k.t _ (by omega) (fun p => rfl) (by simp)
            have cN : ∀ (x9 x10 x13 x14 x15 x16 x18 : Sl), compGo (sName 17) kYes (kIx (kQ (gVar 2)) (gVar 17)) [.fr (eS s), .fr (eStep (.fix, [(m : Int), x])), .fr (iL s.n), .fr (eT s.k), .fr (pL s.f), .fr (iL s.k.g), .fr (rL s.k.r), .fr (iL s.k.l), .fr (iL s.k.t), x9, x10, .fr (.list ((off s.n.length m).map fun i : Nat => .int i)), .fr (.int m), x13, x14, x15, x16, .un, x18] ((off s.n.length m).map fun i : Nat => .int i) = some ((s.n.eraseIdx m).map PyData.int) := fun x9 x10 x13 x14 x15 x16 x18 => cI 2 s.n _ rfl (fun p => rfl) (by simp)
            simp -implicitDefEqProofs only [eS, eT, iL, rL, pL] at c0 c1 c2 cG cT cN f1 f2 f3 f4 f5
            simp only [List.map_cons, List.map_nil] at c2
            refine ⟨.tp ((s.n.eraseIdx m).map .int) [eT (fixName s m x).k, pL (fixName s m x).f], ?_, by rw [if_pos ⟨by omega, rfl⟩]; rfl⟩
            simp -implicitDefEqProofs [-List.getD_eq_getElem?_getD, -List.map_zipWith, -kComp, -gInA, d_law_behind, b_law_behind, eS, eT, iL, rL, pL, nm_inL, nm_row, nm_non, nm_top, nm_fix, hm, q1, show (1 : Int) < s.n.length by omega, Function.comp_def, q2, hf, sm_of (j := (s.n.length : Int)) (by omega) (by omega), sm_of (j := (s.k.r.length : Int)) (by omega) (by omega), kComp, c0, c1, c2, cG, cT, cN, f0, f1, f2, f3, f4, f5, so2, a1, show s.f.length + 1 ≤ 16777216 by omega, fixName]
        · refine ⟨.fr .none, ?_, by rw [if_neg (fun z => q1 z.1)]; rfl⟩
          simp -implicitDefEqProofs [-gInA, d_law_behind, b_law_behind, eS, eT, iL, rL, pL, nm_inL, nm_row, nm_non, nm_top, nm_fix, hm, show ¬ (1 : Int) < s.n.length by omega]
      · refine ⟨.fr .none, ?_, ?_⟩
        · by_cases hc : a = .top
          · by_cases h0 : 0 ≤ x
            · have h1 : ¬ x < s.k.r.length := fun z => ha ⟨hc, h0, z⟩
              simp -implicitDefEqProofs [-gInA, d_law_behind, b_law_behind, eS, eT, iL, rL, pL, nm_inL, nm_row, nm_non, nm_top, nm_fix, hc, hm, h0, h1]
            · simp -implicitDefEqProofs [-gInA, d_law_behind, b_law_behind, eS, eT, iL, rL, pL, nm_inL, nm_row, nm_non, nm_top, nm_fix, hc, hm, h0]
          · cases hd : (decide (a = Kd.row) || decide (a = Kd.non)) <;> simp -implicitDefEqProofs [-Bool.or_eq_true, -decide_eq_true_eq, -gInA, d_law_behind, b_law_behind, eS, eT, iL, rL, pL, nm_inL, nm_row, nm_non, nm_top, nm_fix, hb, hc, hd, hm]
        · have : beh s (a, [(m : Int), x]) = none := by
            show (if _ then _ else _) = _
            rw [if_pos hj, if_neg ha, if_neg hb]
          rw [this]
          rfl
  · refine ⟨.fr .none, ?_, ?_⟩
    · by_cases h0 : 0 ≤ j
      · have h1 : ¬ j < s.n.length := fun z => hj ⟨h0, z⟩
        cases hb : (decide (a = Kd.row) || decide (a = Kd.non)) <;> simp -implicitDefEqProofs [-Bool.or_eq_true, -decide_eq_true_eq, -gInA, d_law_behind, b_law_behind, eS, eT, iL, rL, pL, nm_inL, nm_row, hb, h0, h1]
      · cases hb : (decide (a = Kd.row) || decide (a = Kd.non)) <;> simp -implicitDefEqProofs [-Bool.or_eq_true, -decide_eq_true_eq, -gInA, d_law_behind, b_law_behind, eS, eT, iL, rL, pL, nm_inL, nm_row, hb, h0]
    · have : beh s (a, [j, x]) = none := by
        show (if _ then _ else _) = _
        rw [if_neg hj]
      rw [this]
      rfl
end K80

set_option Elab.async false
set_option linter.all false
set_option maxRecDepth 100000
set_option maxHeartbeats 2000000
namespace DL
open PySem PySem.Spec L2
theorem forGo_ix {A S : Type} (f : A → D) (g : D → Rho → Option Rho) (b : Rho → Option Fl) (E : Nat → S → Rho → Prop) (step : S → A → S) : ∀ (L : List A) (i : Nat) (s : S) (ρ : Rho), E i s ρ →
    (∀ (j : Nat) (a : A), L[j]? = some a → ∀ (s : S) (ρ : Rho), E (i + j) s ρ → ∃ ρ1 ρ2, g (f a) ρ = some ρ1 ∧ b ρ1 = some (.nx ρ2) ∧ E (i + j + 1) (step s a) ρ2) → ∃ ρ', forGo g b (L.map f) ρ = some (.nx ρ') ∧ E (i + L.length) (L.foldl step s) ρ'
  | [], i, s, ρ, e, _ => ⟨ρ, rfl, e⟩
  | a :: L, i, s, ρ, e, h => by
    obtain ⟨ρ1, ρ2, h1, h2, h3⟩ := h 0 a rfl s ρ e
    obtain ⟨ρ', h4, h5⟩ := forGo_ix f g b E step L (i + 1) _ ρ2 h3 fun j c hc s ρ e => by
      have := h (j + 1) c (by simpa using hc) s ρ (by rw [show i + (j + 1) = i + 1 + j by omega]; exact e)
      rw [show i + 1 + j + 1 = i + (j + 1) + 1 by omega]
      exact this
    refine ⟨ρ', ?_, by rw [List.length_cons, show i + (L.length + 1) = i + 1 + L.length by omega]; exact h5⟩
    show (g (f a) ρ).bind _ = _
    rw [h1, Option.bind_some, h2, Option.bind_some]
    exact h4
theorem compGo2_all {A : Type} (f : A → D) (g : D → Rho → Option Rho) (src1 : Rho → Option (List D)) (vs1 : List Nat) (g1 : D → Rho → Option Rho) (te : Rho → Option D) (ρ0 : Rho) (Y : A → List D) : ∀ (L : List A),
    (∀ a ∈ L, ∃ ρ1 us, g (f a) ρ0 = some ρ1 ∧ src1 ρ1 = some us ∧ compGo g1 kYes te (wipeE ρ1 vs1) us = some (Y a)) → compGo2 g kYes src1 vs1 g1 kYes te ρ0 (L.map f) = some (L.flatMap Y)
  | [], _ => rfl
  | a :: L, h => by
    obtain ⟨ρ1, us, h1, h2, h3⟩ := h a List.mem_cons_self
    have ih := compGo2_all f g src1 vs1 g1 te ρ0 Y L fun b hb => h b (List.mem_cons_of_mem _ hb)
    show (g (f a) ρ0).bind _ = _
    rw [h1, Option.bind_some, show kYes ρ1 = some true from rfl, Option.bind_some, if_pos rfl, h2, Option.bind_some, h3, Option.bind_some, ih]
    rfl
theorem forGo_find {A : Type} (f : A → D) (g : D → Rho → Option Rho) (b : Rho → Option Fl) (E : Rho → Prop) (P : A → Bool) (R : A → Rv) : ∀ (L : List A), (∀ a ∈ L, ∀ ρ, E ρ → ∃ ρ1, g (f a) ρ = some ρ1 ∧ (P a = true → b ρ1 = some (.rt (R a))) ∧ (P a = false → ∃ ρ2, b ρ1 = some (.nx ρ2) ∧ E ρ2)) →
    ∀ ρ, E ρ → (∀ a, L.find? P = some a → forGo g b (L.map f) ρ = some (.rt (R a))) ∧ (L.find? P = none → ∃ ρ', forGo g b (L.map f) ρ = some (.nx ρ') ∧ E ρ')
  | [], _, ρ, e => ⟨fun a h => (nomatch h), fun _ => ⟨ρ, rfl, e⟩⟩
  | a :: L, h, ρ, e => by
    obtain ⟨ρ1, h1, h2, h3⟩ := h a List.mem_cons_self ρ e
    cases hp : P a with
    | true =>
      rw [List.find?_cons_of_pos hp]
      refine ⟨fun c hc => ?_, fun z => (nomatch z)⟩
      cases hc
      show (g (f a) ρ).bind _ = _
      rw [h1, Option.bind_some, h2 hp]
      rfl
    | false =>
      obtain ⟨ρ2, h4, h5⟩ := h3 hp
      rw [List.find?_cons_of_neg (by rw [hp]; exact Bool.false_ne_true)]
      have ih := forGo_find f g b E P R L (fun c hc => h c (List.mem_cons_of_mem _ hc)) ρ2 h5
      have e1 : forGo g b ((a :: L).map f) ρ = forGo g b (L.map f) ρ2 := by
        show (g (f a) ρ).bind _ = _
        rw [h1, Option.bind_some, h4]
        rfl
      rw [e1]
      exact ih
theorem foldl_app {A B : Type} (h : A → List B) : ∀ (L : List A) (init : List B), L.foldl (fun acc a => acc ++ h a) init = init ++ L.flatMap h
  | [], init => by simp
  | a :: L, init => by rw [List.foldl_cons, foldl_app h L, List.flatMap_cons, List.append_assoc]
end DL
namespace K80
open PySem PySem.Spec L2 DL
def tNon (R : Nat) : List Step := (List.range R).map fun i : Nat => (.non, [(i : Int)])
def tRow (R : Nat) : List Step := (List.range R).map fun i : Nat => (.row, [(i : Int)])
def tTop (R k : Nat) : List Step := (List.range R).map fun i : Nat => (.top, [(k : Int), (i : Int)])
def tFix (t : List Int) (k : Nat) : List Step := [(.fix, [(k : Int), t.getD k 0]), (.fix, [(k : Int), 0])]
def tried (s : Stt) : List Step := ((tNon s.k.r.length ++ tRow s.k.r.length) ++ (List.range s.n.length).flatMap (tTop s.k.r.length)) ++ (List.range s.n.length).flatMap (tFix s.k.t)
theorem range_get {n j a : Nat} (h : (List.range n)[j]? = some a) : j < n ∧ a = j := by
  have h1 := (List.getElem?_eq_some_iff.mp h).1
  rw [List.length_range] at h1
  rw [List.getElem?_range h1] at h
  cases h
  exact ⟨h1, rfl⟩
theorem v_tried (s : Stt) (w : WfS s) : d_law_tried [eS s] = some (.ok (.fr (.list ((tried s).map eStep)))) := by
  have h7 := w.r6
  have h6 := w.m6
  have hn := w.ln
  have lc : ∀ (nm : Str) (u v x : Sl) (k : Kd), K80.nm k = nm → compGo (sName 7) kYes (kTup (kCons (kC (.str nm)) (kCons (gVar 7) kNil))) [.fr (eS s), .fr (iL s.n), .fr (eT s.k), .fr (pL s.f), .fr (.list ((List.range s.k.r.length).map fun i : Nat => .int i)), u, v, .un] ((List.range s.k.r.length).map fun i : Nat => .int i) = some ((List.range s.k.r.length).map fun i : Nat => eStep (k, [(i : Int)])) := fun nm u v x k hk => by
    refine compGo_all _ _ _ _ _ _ fun i hi => ⟨_, rfl, ?_⟩
    simp -implicitDefEqProofs [eStep, hk]
  have lt : ∀ (k : Nat) (u : Sl), compGo (sName 7) kYes (kTup (kCons (kC (.str "top")) (kCons (gVar 6) (kCons (gVar 7) kNil)))) [.fr (eS s), .fr (iL s.n), .fr (eT s.k), .fr (pL s.f), .fr (.list ((List.range s.k.r.length).map fun i : Nat => .int i)), u, .fr (.int k), .un] ((List.range s.k.r.length).map fun i : Nat => .int i) = some ((tTop s.k.r.length k).map eStep) := fun k u => by
    unfold tTop
    rw [List.map_map]
    refine compGo_all _ _ _ _ _ _ fun i hi => ⟨_, rfl, ?_⟩
    simp -implicitDefEqProofs [eStep, nm]
  have fR : ∀ f : Nat → D, fit ((List.range s.k.r.length).map f) = some (.ow ((List.range s.k.r.length).map f)) := fun f => fit_of (by simp; omega)
  have fT : ∀ k : Nat, fit ((tTop s.k.r.length k).map eStep) = some (.ow ((tTop s.k.r.length k).map eStep)) := fun k => fit_of (by unfold tTop; simp; omega)
  have L1 := forGo_ix (fun i : Nat => PyData.int (i : Int)) (sName 6) (zSet 5 (kBin gAdd (gVar 5) (kData (kComp (List.map (fun x => x.2) ([("i", 7)] : List (Str × Nat))) (kQ (gVar 4)) (sName 7) kYes (kTup (kCons (kC (.str "top")) (kCons (gVar 6) (kCons (gVar 7) kNil)))))))) (fun i (acc : List Step) ρ => acc.length ≤ 12 + 6 * i ∧ ∃ u v, ρ = [.fr (eS s), .fr (iL s.n), .fr (eT s.k), .fr (pL s.f), .fr (.list ((List.range s.k.r.length).map fun i : Nat => .int i)), .fr (.list (acc.map eStep)), u, v]) (fun acc k => acc ++ tTop s.k.r.length k) (List.range s.n.length) 0 (tNon s.k.r.length ++ tRow s.k.r.length) [.fr (eS s), .fr (iL s.n), .fr (eT s.k), .fr (pL s.f), .fr (.list ((List.range s.k.r.length).map fun i : Nat => .int i)), .fr (.list ((tNon s.k.r.length ++ tRow s.k.r.length).map eStep)), .un, .un]
    ⟨by unfold tNon tRow; simp; omega, _, _, rfl⟩ fun j a ha acc ρ ⟨hl, u, v, e⟩ => by
    subst e
    obtain ⟨hj, rfl⟩ := range_get ha
    have hl2 : (tTop s.k.r.length a).length = s.k.r.length := by unfold tTop; simp
    refine ⟨_, _, rfl, ?_, by rw [List.length_append, hl2]; omega, .fr (.int a), v, rfl⟩
    have l0 := lt a (.fr (.list (acc.map eStep)))
    simp -implicitDefEqProofs only [eS, eT, iL, rL, pL] at l0
    simp -implicitDefEqProofs [l0, fT a, hl2, show acc.length + s.k.r.length ≤ 16777216 by omega, eS, eT, iL, rL, pL]
  obtain ⟨ρ1, g1, b1, u1, v1, rfl⟩ := L1
  rw [foldl_app] at g1 b1
  have L2 := forGo_ix (fun i : Nat => PyData.int (i : Int)) (sName 6) (zSet 5 (kBin gAdd (gVar 5) (kData (kLst (kCons (kTup (kCons (kC (.str "fix")) (kCons (gVar 6) (kCons (kIx (kQ (kIx (kQ (gVar 2)) (kC (.int 3)))) (gVar 6)) kNil)))) (kCons (kTup (kCons (kC (.str "fix")) (kCons (gVar 6) (kCons (kC (.int 0)) kNil)))) kNil)))))) (fun i (acc : List Step) ρ => acc.length ≤ 100 + 6 * i ∧ ∃ u v, ρ = [.fr (eS s), .fr (iL s.n), .fr (eT s.k), .fr (pL s.f), .fr (.list ((List.range s.k.r.length).map fun i : Nat => .int i)), .fr (.list (acc.map eStep)), u, v]) (fun acc k => acc ++ tFix s.k.t k) (List.range s.n.length) 0 ((tNon s.k.r.length ++ tRow s.k.r.length) ++ (List.range s.n.length).flatMap (tTop s.k.r.length)) [.fr (eS s), .fr (iL s.n), .fr (eT s.k), .fr (pL s.f), .fr (.list ((List.range s.k.r.length).map fun i : Nat => .int i)), .fr (.list (((tNon s.k.r.length ++ tRow s.k.r.length) ++ (List.range s.n.length).flatMap (tTop s.k.r.length)).map eStep)), u1, v1]
    ⟨by rw [List.length_range] at b1; omega, u1, v1, rfl⟩ fun j a ha acc ρ ⟨hl, u, v, e⟩ => by
    subst e
    obtain ⟨hj, rfl⟩ := range_get ha
    have a1 := atI_iL s.k.t a (by omega)
    refine ⟨_, _, rfl, ?_, by rw [List.length_append]; show acc.length + 2 ≤ _; omega, .fr (.int a), v, rfl⟩
    simp -implicitDefEqProofs [-List.getD_eq_getElem?_getD, a1, show acc.length + 2 ≤ 16777216 by omega, eS, eT, iL, rL, pL, tFix, nm]
  obtain ⟨ρ2, g2, b2, u2, v2, rfl⟩ := L2
  rw [foldl_app] at g2 b2
  have c1 := lc "none" .un .un .un .non rfl
  have c2 := lc "row" .un .un .un .row rfl
  simp -implicitDefEqProofs only [eS, eT, iL, rL, pL, tNon, tRow, List.map_append, List.map_cons, List.map_nil, List.map_map, Function.comp_def] at c1 c2 g1 g2
  simp -implicitDefEqProofs [-List.append_assoc, d_law_tried, b_law_tried, eS, eT, iL, rL, pL, sm_of (j := (s.k.r.length : Int)) (by omega) (by omega), sm_of (j := (s.n.length : Int)) (by omega) (by omega), show (s.k.r.length : Int) ≤ 16777216 by omega, rangeD_zero, c1, c2, fR, show s.k.r.length + s.k.r.length ≤ 16777216 by omega, g1, g2, tried, tNon, tRow, Function.comp_def]
end K80

set_option Elab.async false
set_option linter.all false
set_option maxRecDepth 100000
set_option maxHeartbeats 2000000
namespace K80
open PySem PySem.Spec L2 DL
/-- a step that is asked about -/
def WfP (st : Step) : Prop := st.2.length ≤ 2 ∧ ∀ x ∈ st.2, x.natAbs ≤ 1000
theorem v_behind (s : Stt) (w : WfS s) (st : Step) (h : WfP st) : ∃ r, d_behind [eS s, eStep st] = some (.ok r) ∧ r.data = eO (beh s st) := by
  obtain ⟨a, xs⟩ := st
  match xs, h with
  | [], _ => exact v_behind0 s w a
  | [i], _ => exact v_behind1 s w a i
  | [j, x], h => exact v_behind2 s w a j x (h.2 x (by simp))
  | _ :: _ :: _ :: _, h => have := h.1; simp at this
theorem v_lbehind (s : Stt) (w : WfS s) (st : Step) (h : WfP st) : ∃ r, d_law_behind [eS s, eStep st] = some (.ok r) ∧ r.data = eO (beh s st) := by
  obtain ⟨a, xs⟩ := st
  match xs, h with
  | [], _ => exact v_lbehind0 s w a
  | [i], _ => exact v_lbehind1 s w a i
  | [j, x], h => exact v_lbehind2 s w a j x (h.2 x (by simp))
  | _ :: _ :: _ :: _, h => have := h.1; simp at this
theorem tried_wf (s : Stt) (w : WfS s) : ∀ st ∈ tried s, WfP st := by
  have h7 := w.r6
  have h6 := w.m6
  have hn := w.ln
  intro st hst
  unfold tried at hst
  rcases List.mem_append.mp hst with hst | hst
  · rcases List.mem_append.mp hst with hst | hst
    · rcases List.mem_append.mp hst with hst | hst
      · obtain ⟨i, hi, rfl⟩ := List.mem_map.mp hst
        have := List.mem_range.mp hi
        exact ⟨by simp, fun x hx => by simp at hx; omega⟩
      · obtain ⟨i, hi, rfl⟩ := List.mem_map.mp hst
        have := List.mem_range.mp hi
        exact ⟨by simp, fun x hx => by simp at hx; omega⟩
    · obtain ⟨k, hk, hst⟩ := List.mem_flatMap.mp hst
      obtain ⟨i, hi, rfl⟩ := List.mem_map.mp hst
      have := List.mem_range.mp hi
      have := List.mem_range.mp hk
      exact ⟨by simp, fun x hx => by simp at hx; omega⟩
  · obtain ⟨k, hk, hst⟩ := List.mem_flatMap.mp hst
    have := List.mem_range.mp hk
    have hk2 : k < s.k.t.length := by omega
    have hb := w.bt _ (List.getElem_mem hk2)
    have e := getD_at s.k.t 0 hk2
    unfold tFix at hst
    rcases List.mem_cons.mp hst with hst | hst
    · subst hst
      refine ⟨by simp, fun x hx => ?_⟩
      simp only [List.mem_cons, List.not_mem_nil, or_false] at hx
      rcases hx with hx | hx
      · omega
      · rw [hx, e]; omega
    · simp at hst
      subst hst
      exact ⟨by simp, fun x hx => by simp at hx; omega⟩
theorem flat_len {A B : Type} (h : A → List B) (c : Nat) : ∀ (L : List A), (∀ a ∈ L, (h a).length ≤ c) → (L.flatMap h).length ≤ c * L.length
  | [], _ => by simp
  | a :: L, hh => by
    have ih := flat_len h c L fun b hb => hh b (List.mem_cons_of_mem _ hb)
    have := hh a List.mem_cons_self
    rw [List.flatMap_cons, List.length_append, List.length_cons, Nat.mul_succ]
    omega
theorem v_steps_at (s : Stt) (w : WfS s) : d_steps_at [eS s] = some (.ok (.ow ((tried s).map eStep))) := by
  have h7 := w.r6
  have h6 := w.m6
  have hn := w.ln
  have ht := w.m1
  have lc : ∀ (nm : Str) (u v x y z : Sl) (k : Kd), K80.nm k = nm → compGo (sName 8) kYes (kTup (kCons (kC (.str nm)) (kCons (gVar 8) kNil))) [.fr (eS s), .fr (iL s.n), .fr (eT s.k), .fr (pL s.f), u, v, x, y, .un] (rangeD 0 1 s.k.r.length) = some ((List.range s.k.r.length).map fun i : Nat => eStep (k, [(i : Int)])) := fun nm u v x y z k hk => by
    rw [rangeD_zero]
    refine compGo_all _ _ _ _ _ _ fun i hi => ⟨_, rfl, ?_⟩
    simp -implicitDefEqProofs [eStep, hk]
  have sR := sm_of (j := (s.k.r.length : Int)) (by omega) (by omega)
  have sN := sm_of (j := (s.n.length : Int)) (by omega) (by omega)
  have s0 := sm_of (j := (0 : Int)) (by omega) (by omega)
  have l2 : ∀ (u v : Sl), compGo2 (sName 6) kYes (gRg 4) [8] (sName 8) kYes (kTup (kCons (kC (.str "top")) (kCons (gVar 6) (kCons (gVar 8) kNil)))) [.fr (eS s), .fr (iL s.n), .fr (eT s.k), .fr (pL s.f), .rg 0 s.k.r.length, u, .un, v, .un] (rangeD 0 1 s.n.length) = some ((List.range s.n.length).flatMap fun k => (tTop s.k.r.length k).map eStep) := fun u v => by
    rw [rangeD_zero]
    refine compGo2_all _ _ _ _ _ _ _ _ _ fun k hk => ⟨_, rangeD 0 1 s.k.r.length, rfl, ?_, ?_⟩
    · simp -implicitDefEqProofs [gRg, sR, s0]
    · unfold tTop
      rw [rangeD_zero, List.map_map]
      refine compGo_all _ _ _ _ _ _ fun i hi => ⟨_, rfl, ?_⟩
      simp -implicitDefEqProofs [eStep, nm]
  have fR : ∀ f : Nat → D, fit ((List.range s.k.r.length).map f) = some (.ow ((List.range s.k.r.length).map f)) := fun f => fit_of (by simp; omega)
  have lenT : ((List.range s.n.length).flatMap (tTop s.k.r.length)).length ≤ 36 := by
    have := flat_len (tTop s.k.r.length) 6 (List.range s.n.length) fun k _ => by unfold tTop; simp; exact h7
    rw [List.length_range] at this
    omega
  have e2 : ((List.range s.n.length).flatMap fun k => (tTop s.k.r.length k).map eStep) = ((List.range s.n.length).flatMap (tTop s.k.r.length)).map eStep := by rw [List.map_flatMap]
  have fT : fit (((List.range s.n.length).flatMap (tTop s.k.r.length)).map eStep) = some (.ow (((List.range s.n.length).flatMap (tTop s.k.r.length)).map eStep)) := fit_of (by rw [List.length_map]; omega)
  rw [e2] at l2
  generalize hTT : (List.range s.n.length).flatMap (tTop s.k.r.length) = TT at l2 fT lenT
  have L2 := forGo_ix (fun p : Int × Nat => PyData.tuple [.int (p.2 : Int), .int p.1]) (sTup 2 (sCons (sName 6) (sCons (sName 7) sNil))) (zExt 5 (kRL (kLst (kCons (kTup (kCons (kC (.str "fix")) (kCons (gVar 6) (kCons (gVar 7) kNil)))) (kCons (kTup (kCons (kC (.str "fix")) (kCons (gVar 6) (kCons (kC (.int 0)) kNil)))) kNil))))) (fun i (acc : List Step) ρ => acc.length ≤ 100 + 6 * i ∧ ∃ u v x, ρ = [.fr (eS s), .fr (iL s.n), .fr (eT s.k), .fr (pL s.f), .rg 0 s.k.r.length, .ow (acc.map eStep), u, v, x]) (fun acc p => acc ++ tFix s.k.t p.2) s.k.t.zipIdx 0 ((tNon s.k.r.length ++ tRow s.k.r.length) ++ TT) [.fr (eS s), .fr (iL s.n), .fr (eT s.k), .fr (pL s.f), .rg 0 s.k.r.length, .ow (((tNon s.k.r.length ++ tRow s.k.r.length) ++ TT).map eStep), .un, .un, .un]
    ⟨by unfold tNon tRow; simp; omega, .un, .un, .un, rfl⟩ fun j p hp acc ρ ⟨hl, u, v, x, e⟩ => by
    subst e
    have hmem := zipIdx_lt (List.mem_of_getElem? hp)
    have hj : j < s.k.t.length := by have := (List.getElem?_eq_some_iff.mp hp).1; simpa using this
    have ep : p.1 = s.k.t.getD p.2 0 := by rw [List.getD_eq_getElem?_getD, hmem.2]; rfl
    refine ⟨_, _, rfl, ?_, by rw [List.length_append]; show acc.length + 2 ≤ _; omega, .fr (.int p.2), .fr (.int p.1), x, rfl⟩
    simp -implicitDefEqProofs [-List.getD_eq_getElem?_getD, ← ep, show acc.length + 2 ≤ 16777216 by omega, eS, eT, iL, rL, pL, tFix, nm]
  obtain ⟨ρ2, g2, b2, u2, v2, x2, rfl⟩ := L2
  rw [foldl_app (fun p : Int × Nat => tFix s.k.t p.2)] at g2 b2
  have e3 : s.k.t.zipIdx.flatMap (fun p : Int × Nat => tFix s.k.t p.2) = (List.range s.n.length).flatMap (tFix s.k.t) := by
    rw [hn, show List.range s.k.t.length = s.k.t.zipIdx.map Prod.snd by simp [List.range_eq_range'], List.flatMap_map]
  rw [e3] at g2 b2
  have c1 := fun u v x y => lc "none" u v x y y .non rfl
  have c2 := fun u v x y => lc "row" u v x y y .row rfl
  have g3 : forGo (sTup 2 (sCons (sName 6) (sCons (sName 7) sNil))) (zExt 5 (kRL (kLst (kCons (kTup (kCons (kC (.str "fix")) (kCons (gVar 6) (kCons (gVar 7) kNil)))) (kCons (kTup (kCons (kC (.str "fix")) (kCons (gVar 6) (kCons (kC (.int 0)) kNil)))) kNil))))) (enumD 0 (s.k.t.map PyData.int)) [.fr (eS s), .fr (iL s.n), .fr (eT s.k), .fr (pL s.f), .rg 0 s.k.r.length, .ow (((tNon s.k.r.length ++ tRow s.k.r.length) ++ TT).map eStep), .un, .un, .un] = some (.nx [.fr (eS s), .fr (iL s.n), .fr (eT s.k), .fr (pL s.f), .rg 0 s.k.r.length, .ow ((((tNon s.k.r.length ++ tRow s.k.r.length) ++ TT) ++ (List.range s.n.length).flatMap (tFix s.k.t)).map eStep), u2, v2, x2]) := by
    rw [enumD_map]
    exact g2
  simp -implicitDefEqProofs only [eS, eT, iL, rL, pL, tNon, tRow, List.map_append, List.map_cons, List.map_nil, List.map_map, Function.comp_def] at c1 c2 l2 g3
  unfold tried
  rw [hTT]
  simp -implicitDefEqProofs [-List.append_assoc, d_steps_at, b_steps_at, eS, eT, iL, rL, pL, gRg, sR, sN, s0, c1, c2, l2, g3, fR, fT, show s.k.r.length + s.k.r.length ≤ 16777216 by omega, show s.k.r.length + s.k.r.length + TT.length ≤ 16777216 by omega, tNon, tRow, Function.comp_def]
end K80

set_option Elab.async false
set_option linter.all false
set_option maxRecDepth 100000
set_option maxHeartbeats 2000000
namespace K80
open PySem PySem.Spec L2 DL
def fs (s : Stt) : Option Step := (tried s).find? fun st => (beh s st).isSome
def eF : Option Step → D
  | none => .none
  | some st => eStep st
theorem isNot_eO (o : Option Stt) : gIsNot (eO o) .none = some (.bool o.isSome) := by cases o <;> rfl
theorem v_first_step (s : Stt) (w : WfS s) : d_first_step [eS s] = some (.ok (.fr (eF (fs s)))) := by
  have hs := v_steps_at s w
  have F := forGo_find (fun st : Step => eStep st) (sName 1) (zIf (kB (kBin gIsNot (kData (kCallD d_behind (kCons (gVar 0) (kCons (gVar 1) kNil)))) (kC .none))) (zRet (kFr (gVar 1))) zNext) (fun ρ => ∃ u, ρ = [.fr (eS s), u]) (fun st => (beh s st).isSome) (fun st => .fr (eStep st)) (tried s) (fun st hst ρ ⟨u, e⟩ => by
    subst e
    obtain ⟨r, e1, e2⟩ := v_behind s w st (tried_wf s w st hst)
    have e3 : kB (kBin gIsNot (kData (kCallD d_behind (kCons (gVar 0) (kCons (gVar 1) kNil)))) (kC .none)) [.fr (eS s), .fr (eStep st)] = some (beh s st).isSome := by
      show (((((d_behind [eS s, eStep st]).bind _).bind fun r : Rv => some r.data).bind fun x => (some PyData.none).bind fun y => gIsNot x y).bind asB) = _
      rw [e1]
      show ((gIsNot r.data .none).bind asB) = _
      rw [e2, isNot_eO]
      rfl
    refine ⟨_, rfl, fun hp => ?_, fun hp => ?_⟩
    · show ((kB _ [.fr (eS s), .fr (eStep st)]).bind _) = _
      rw [e3, hp]
      rfl
    · refine ⟨[.fr (eS s), .fr (eStep st)], ?_, _, rfl⟩
      show ((kB _ [.fr (eS s), .fr (eStep st)]).bind _) = _
      rw [e3, hp]
      rfl) [.fr (eS s), .un] ⟨_, rfl⟩
  unfold fs
  cases hf : (tried s).find? fun st => (beh s st).isSome with
  | some st =>
    have := F.1 st hf
    simp -implicitDefEqProofs only [eS, eT, iL, rL, pL] at this hs
    simp -implicitDefEqProofs [d_first_step, b_first_step, eS, eT, iL, rL, pL, hs, this, eF]
  | none =>
    obtain ⟨ρ', h1, u, rfl⟩ := F.2 hf
    simp -implicitDefEqProofs only [eS, eT, iL, rL, pL] at h1 hs
    simp -implicitDefEqProofs [d_first_step, b_first_step, eS, eT, iL, rL, pL, hs, h1, eF]
end K80

set_option Elab.async false
set_option linter.all false
set_option maxRecDepth 100000
set_option maxHeartbeats 2000000
namespace K80
open PySem PySem.Spec L2 DL
def Dr (ds : List Int) : Prop := ds.length ≤ 4000 ∧ ∀ x ∈ ds, 0 ≤ x ∧ x < 65536
theorem fmod_in {a b : Int} (h : 0 < b) : 0 ≤ a.fmod b ∧ a.fmod b < b := ⟨Int.fmod_nonneg_of_pos a h, Int.fmod_lt_of_pos a h⟩
theorem v_mix (ds : List Int) (h : Dr ds) (k many : Int) (hk : 0 ≤ k ∧ k ≤ 1000000) (hm : 0 < many ∧ many ≤ 1000000) : ∃ z, d_law_mix [iL ds, .int k, .int many] = some (.ok (.fr (.int z))) ∧ 0 ≤ z ∧ z < many := by
  by_cases h0 : (0 : Int) < ds.length
  · have hne : ds ≠ [] := fun z => by rw [z] at h0; simp at h0
    have h0n : 0 < ds.length := by omega
    have hq := fmod_in (a := k) h0
    obtain ⟨q, hq2⟩ := Int.eq_ofNat_of_zero_le hq.1
    have hql : q < ds.length := by omega
    have a1 := atI_iL ds q hql
    have hv := h.2 _ (List.getElem_mem hql)
    rw [← getD_at ds 0 hql] at hv
    by_cases h1 : k < ds.length
    · refine ⟨(ds.getD q 0).fmod many, ?_, fmod_in hm.1⟩
      simp -implicitDefEqProofs [-List.getD_eq_getElem?_getD, d_law_mix, b_law_mix, iL, h0n, hne, hq2, a1, h1, show many ≠ 0 by omega]
    · refine ⟨((((ds.getD q 0) * 7919 + k * 104729).fdiv 3)).fmod many, ?_, fmod_in hm.1⟩
      simp -implicitDefEqProofs [-List.getD_eq_getElem?_getD, d_law_mix, b_law_mix, iL, h0n, hne, hq2, a1, h1, show many ≠ 0 by omega, okMul_of (i := ds.getD q 0) (j := 7919) (by omega), okMul_of (i := k) (j := 104729) (by omega)]
  · have e : ds = [] := List.eq_nil_of_length_eq_zero (by omega)
    subst e
    refine ⟨((k * 104729 : Int).fdiv 3).fmod many, ?_, fmod_in hm.1⟩
    simp -implicitDefEqProofs [d_law_mix, b_law_mix, iL, show ¬ k < 0 by omega, show many ≠ 0 by omega, okMul_of (i := (0 : Int)) (j := 7919) (by omega), okMul_of (i := k) (j := 104729) (by omega)]
/-- the value that is mixed -/
noncomputable def mx (ds : List Int) (k many : Int) : Int := by
  classical exact if h : Dr ds ∧ (0 ≤ k ∧ k ≤ 1000000) ∧ (0 < many ∧ many ≤ 1000000) then (v_mix ds h.1 k many h.2.1 h.2.2).choose else 0
theorem mx_spec {ds : List Int} (h : Dr ds) {k many : Int} (hk : 0 ≤ k ∧ k ≤ 1000000) (hm : 0 < many ∧ many ≤ 1000000) : d_law_mix [iL ds, .int k, .int many] = some (.ok (.fr (.int (mx ds k many)))) ∧ 0 ≤ mx ds k many ∧ mx ds k many < many := by
  unfold mx
  rw [dif_pos ⟨h, hk, hm⟩]
  exact (v_mix ds h k many hk hm).choose_spec
end K80

set_option Elab.async false
set_option linter.all false
set_option maxRecDepth 100000
set_option maxHeartbeats 2000000
namespace K80
open PySem PySem.Spec L2 DL
theorem at3 (a b c : Int) {z : Int} (h : 0 ≤ z ∧ z < 3) : ∃ w, atI [PyData.int a, .int b, .int c] z = some (.int w) ∧ (w = a ∨ w = b ∨ w = c) := by
  have : z = 0 ∨ z = 1 ∨ z = 2 := by omega
  rcases this with rfl | rfl | rfl
  · exact ⟨a, by simp, .inl rfl⟩
  · exact ⟨b, by simp, .inr (.inl rfl)⟩
  · exact ⟨c, by simp, .inr (.inr rfl)⟩
theorem at2 (a b : Int) {z : Int} (h : 0 ≤ z ∧ z < 2) : ∃ w, atI [PyData.int a, .int b] z = some (.int w) ∧ (w = a ∨ w = b) := by
  have : z = 0 ∨ z = 1 := by omega
  rcases this with rfl | rfl
  · exact ⟨a, by simp, .inl rfl⟩
  · exact ⟨b, by simp, .inr rfl⟩
theorem prodT_app (ts : List Int) (t : Int) : prodT (ts ++ [t]) = prodT ts * (t + 1) := by
  unfold prodT
  rw [List.foldl_append]
  rfl
theorem v_law_task (ds : List Int) (h : Dr ds) : ∃ k : Tk, Ckd k ∧ k.t.length ≤ 5 ∧ k.r.length ≤ 4 ∧ prodT k.t ≤ 300 ∧ d_law_task [iL ds, .int 10, .int 5, .int 300] = some (.ok (.fr (eT k))) := by
  obtain ⟨q0, q1, q2⟩ := mx_spec h (k := 10) (many := 5) (by omega) (by omega)
  obtain ⟨p0, p1, p2⟩ := mx_spec h (k := 11) (many := 5) (by omega) (by omega)
  obtain ⟨m, hm⟩ := Int.eq_ofNat_of_zero_le (show 0 ≤ 1 + mx ds 10 5 by omega)
  obtain ⟨R, hR⟩ := Int.eq_ofNat_of_zero_le p1
  have hm1 : 1 ≤ m ∧ m ≤ 5 := by omega
  have hR1 : R ≤ 4 := by omega
  obtain ⟨w0, w1, w2⟩ := mx_spec h (k := 12) (many := 3) (by omega) (by omega)
  obtain ⟨wd, hw, hw2⟩ := at3 3 7 41 ⟨w1, w2⟩
  obtain ⟨l0, l1, l2⟩ := mx_spec h (k := 13) (many := 2) (by omega) (by omega)
  obtain ⟨lm, hl, hl2⟩ := at2 8 40 ⟨l1, l2⟩
  obtain ⟨t0, t1, t2⟩ := mx_spec h (k := 14) (many := 2) (by omega) (by omega)
  obtain ⟨tm, ht, ht2⟩ := at2 3 13 ⟨t1, t2⟩
  obtain ⟨g0, g1, g2⟩ := mx_spec h (k := 15) (many := 2) (by omega) (by omega)
  have hgg : ∃ ga gb, atI [PyData.int 5, .int 41] (mx ds 15 2) = some (.int ga) ∧ atI [PyData.int 1, .int 20] (mx ds 15 2) = some (.int gb) ∧ ((ga = 5 ∧ gb = 1) ∨ (ga = 41 ∧ gb = 20)) := by
    have : mx ds 15 2 = 0 ∨ mx ds 15 2 = 1 := by omega
    rcases this with e | e
    · rw [e]; exact ⟨5, 1, by simp, by simp, .inl ⟨rfl, rfl⟩⟩
    · rw [e]; exact ⟨41, 20, by simp, by simp, .inr ⟨rfl, rfl⟩⟩
  obtain ⟨ga, gb, hga, hgb, hg2⟩ := hgg
  have wdb : 0 < wd ∧ wd ≤ 1000000 := by omega
  simp -implicitDefEqProofs only [iL] at q0 p0 w0 l0 t0 g0
  have sR := sm_of (j := (R : Int)) (by omega) (by omega)
  have sM := sm_of (j := (m : Int)) (by omega) (by omega)
  -- a row
  have rowc : ∀ (i : Nat) (x5 x6 x9 x10 x12 x13 : Sl), i < R → compGo (sName 11) kYes (kBin gSub (kData (kCallD d_law_mix (kCons (gVar 0) (kCons (kBin gAdd (kBin gAdd (kBin gAdd (gVar 1) (kC (.int 10))) (kBin gMul (kC (.int 8)) (gVar 7))) (gVar 11)) (kCons (gVar 8) kNil))))) (kBin gDiv (gVar 8) (kC (.int 2))))
      [.fr (iL ds), .fr (.int 10), .fr (.int 5), .fr (.int 300), .fr (.int m), x5, x6, .fr (.int i), .fr (.int wd), x9, x10, .un, x12, x13] (rangeD 0 1 m) = some (((List.range m).map fun k : Nat => mx ds (20 + 8 * i + k) wd - wd.fdiv 2).map PyData.int) := fun i x5 x6 x9 x10 x12 x13 hi => by
    rw [rangeD_zero, List.map_map]
    refine compGo_all _ _ _ _ _ _ fun k hk => ⟨_, rfl, ?_⟩
    have hk' := List.mem_range.mp hk
    have z := (mx_spec h (k := 20 + 8 * i + k) (many := wd) (by omega) wdb).1
    simp -implicitDefEqProofs only [iL] at z
    simp -implicitDefEqProofs [iL, z, okMul_of (i := (8 : Int)) (j := (i : Int)) (by omega)]
  have frow : ∀ i : Nat, fit (((List.range m).map fun k : Nat => mx ds (20 + 8 * i + k) wd - wd.fdiv 2).map PyData.int) = some (.ow (((List.range m).map fun k : Nat => mx ds (20 + 8 * i + k) wd - wd.fdiv 2).map PyData.int)) := fun i => fit_of (by simp; omega)
  obtain ⟨ρ1, e1, rows, lims, x7, x8, x11, x12, rfl, hrl, hll, hrow, hlim⟩ := forGo_ix (S := Unit) (fun i : Nat => PyData.int (i : Int)) (sName 7) (zSeq (zSet 8 (kIx (kQ (kData (kLst (kCons (kC (.int 3)) (kCons (kC (.int 7)) (kCons (kC (.int 41)) kNil)))))) (kData (kCallD d_law_mix (kCons (gVar 0) (kCons (kBin gAdd (gVar 1) (kC (.int 2))) (kCons (kC (.int 3)) kNil)))))))
      (zSeq (zApp 5 (kData (kComp (List.map (fun x => x.2) ([("k", 11)] : List (Str × Nat))) (kRange1 (kCons (gVar 4) kNil)) (sName 11) kYes (kBin gSub (kData (kCallD d_law_mix (kCons (gVar 0) (kCons (kBin gAdd (kBin gAdd (kBin gAdd (gVar 1) (kC (.int 10))) (kBin gMul (kC (.int 8)) (gVar 7))) (gVar 11)) (kCons (gVar 8) kNil))))) (kBin gDiv (gVar 8) (kC (.int 2)))))))
      (zApp 6 (kBin gSub (kData (kCallD d_law_mix (kCons (gVar 0) (kCons (kBin gAdd (kBin gAdd (gVar 1) (kC (.int 60))) (gVar 7)) (kCons (kIx (kQ (kData (kLst (kCons (kC (.int 8)) (kCons (kC (.int 40)) kNil))))) (kData (kCallD d_law_mix (kCons (gVar 0) (kCons (kBin gAdd (gVar 1) (kC (.int 3))) (kCons (kC (.int 2)) kNil)))))) kNil))))) (kIx (kQ (kData (kLst (kCons (kC (.int 0)) (kCons (kC (.int 0)) (kCons (kC (.int 4)) kNil)))))) (kData (kCallD d_law_mix (kCons (gVar 0) (kCons (kBin gAdd (kBin gAdd (gVar 1) (kC (.int 70))) (gVar 7)) (kCons (kC (.int 3)) kNil)))))))))) 
      (fun i _ ρ => ∃ (rows : List (List Int)) (lims : List Int) (x7 x8 x11 x12 : Sl), ρ = [.fr (iL ds), .fr (.int 10), .fr (.int 5), .fr (.int 300), .fr (.int m), .ow (rows.map fun x => iL x), .ow (lims.map PyData.int), x7, x8, .un, .un, x11, x12, .un] ∧ rows.length = i ∧ lims.length = i ∧ (∀ r ∈ rows, r.length = m ∧ Bd 20 r) ∧ Bd 200 lims)
      (fun _ _ => ()) (List.range R) 0 () [.fr (iL ds), .fr (.int 10), .fr (.int 5), .fr (.int 300), .fr (.int m), .ow [], .ow [], .un, .un, .un, .un, .un, .un, .un] ⟨[], [], _, _, _, _, rfl, rfl, rfl, fun r hr => (nomatch hr), fun r hr => (nomatch hr)⟩ fun j a ha _ ρ ⟨rows, lims, x7, x8, x11, x12, e, hrl, hll, hrow, hlim⟩ => by
    subst e
    obtain ⟨hj, rfl⟩ := range_get ha
    obtain ⟨u0, u1, u2⟩ := mx_spec h (k := 70 + a) (many := lm) (by omega) (by omega)
    obtain ⟨v0, v1, v2⟩ := mx_spec h (k := 80 + a) (many := 3) (by omega) (by omega)
    obtain ⟨sb, hsb, hsb2⟩ := at3 0 0 4 ⟨v1, v2⟩
    simp -implicitDefEqProofs only [iL] at u0 v0
    have rc := fun x12 => rowc a (.ow (rows.map fun x => iL x)) (.ow (lims.map PyData.int)) .un .un x12 .un hj
    have fr := frow a
    simp -implicitDefEqProofs only [iL] at rc
    refine ⟨_, [.fr (iL ds), .fr (.int 10), .fr (.int 5), .fr (.int 300), .fr (.int m), .ow ((rows ++ [(List.range m).map fun k : Nat => mx ds (20 + 8 * a + k) wd - wd.fdiv 2]).map fun x => iL x), .ow ((lims ++ [mx ds (70 + a) lm - sb]).map PyData.int), .fr (.int a), .fr (.int wd), .un, .un, x11, x12, .un], rfl, ?_, _, _, _, _, _, _, rfl, by simp; omega, by simp; omega, ?_, ?_⟩
    · simp -implicitDefEqProofs [-List.map_map, iL, w0, hw, sM, rc, fr, u0, v0, l0, hl, hsb, show rows.length < 16777216 by omega, show lims.length < 16777216 by omega, okMul_of (i := (8 : Int)) (j := (a : Int)) (by omega)]
    · intro r hr
      rcases List.mem_append.mp hr with hr | hr
      · exact hrow r hr
      · simp at hr
        subst hr
        refine ⟨by simp, fun y hy => ?_⟩
        obtain ⟨k, hk, rfl⟩ := List.mem_map.mp hy
        have hk' := List.mem_range.mp hk
        obtain ⟨z0, z1, z2⟩ := mx_spec h (k := 20 + 8 * a + k) (many := wd) (by omega) wdb
        have e3 : wd.fdiv 2 = if wd = 3 then 1 else if wd = 7 then 3 else 20 := by
          rcases hw2 with rfl | rfl | rfl <;> decide
        rw [e3]
        rcases hw2 with rfl | rfl | rfl <;> simp <;> omega
    · intro y hy
      rcases List.mem_append.mp hy with hy | hy
      · exact hlim y hy
      · simp at hy
        subst hy
        omega
  obtain ⟨ρ2, e2, tops, rm, y7, y8, y11, y12, rfl, htl, htb, hrm, hpr⟩ := forGo_ix (S := Unit) (fun i : Nat => PyData.int (i : Int)) (sName 11) (zSeq (zSet 12 (kData (kCallD d_law_mix (kCons (gVar 0) (kCons (kBin gAdd (kBin gAdd (gVar 1) (kC (.int 80))) (gVar 11)) (kCons (kIx (kQ (kData (kLst (kCons (kC (.int 3)) (kCons (kC (.int 13)) kNil))))) (kData (kCallD d_law_mix (kCons (gVar 0) (kCons (kBin gAdd (gVar 1) (kC (.int 4))) (kCons (kC (.int 2)) kNil)))))) kNil))))))
      (zSeq (zSet 12 (kData (kCall gMin2 (kCons (gVar 12) (kCons (kBin gSub (gVar 10) (kC (.int 1))) kNil)))))
      (zSeq (zSet 10 (kBin gDiv (gVar 10) (kBin gAdd (gVar 12) (kC (.int 1)))))
      (zApp 9 (gVar 12)))))
      (fun i _ ρ => ∃ (tops : List Int) (rm : Int) (x7 x8 x11 x12 : Sl), ρ = [.fr (iL ds), .fr (.int 10), .fr (.int 5), .fr (.int 300), .fr (.int m), .ow (rows.map fun x => iL x), .ow (lims.map PyData.int), x7, x8, .ow (tops.map PyData.int), .fr (.int rm), x11, x12, .un] ∧ tops.length = i ∧ (∀ t ∈ tops, 0 ≤ t ∧ t ≤ 12) ∧ 1 ≤ rm ∧ (1 ≤ prodT tops ∧ prodT tops * rm ≤ 300))
      (fun _ _ => ()) (List.range m) 0 () [.fr (iL ds), .fr (.int 10), .fr (.int 5), .fr (.int 300), .fr (.int m), .ow (rows.map fun x => iL x), .ow (lims.map PyData.int), x7, x8, .ow [], .fr (.int 300), x11, x12, .un] ⟨[], 300, _, _, _, _, rfl, rfl, fun r hr => (nomatch hr), by omega, by decide, by decide⟩ fun j a ha _ ρ ⟨tops, rm, x7, x8, x11, x12, e, htl, htb, hrm, hpr1, hpr⟩ => by
    subst e
    obtain ⟨hj, rfl⟩ := range_get ha
    obtain ⟨u0, u1, u2⟩ := mx_spec h (k := 90 + a) (many := tm) (by omega) (by omega)
    simp -implicitDefEqProofs only [iL] at u0
    generalize hz : mx ds (90 + a) tm = z at u0 u1 u2
    have hmn : ∃ t, (if rm - 1 < z then rm - 1 else z) = t ∧ 0 ≤ t ∧ t ≤ 12 ∧ t + 1 ≤ rm := by
      by_cases c : rm - 1 < z
      · exact ⟨rm - 1, if_pos c, by omega, by omega, by omega⟩
      · exact ⟨z, if_neg c, by omega, by omega, by omega⟩
    obtain ⟨t, ht0, ht1, ht2', ht3⟩ := hmn
    have hq : 1 ≤ rm.fdiv (t + 1) ∧ rm.fdiv (t + 1) * (t + 1) ≤ rm := by
      rw [Int.fdiv_eq_ediv_of_nonneg _ (by omega)]
      refine ⟨Int.le_ediv_of_mul_le (by omega) (by omega), Int.ediv_mul_le _ (by omega)⟩
    refine ⟨_, [.fr (iL ds), .fr (.int 10), .fr (.int 5), .fr (.int 300), .fr (.int m), .ow (rows.map fun x => iL x), .ow (lims.map PyData.int), x7, x8, .ow ((tops ++ [t]).map PyData.int), .fr (.int (rm.fdiv (t + 1))), .fr (.int a), .fr (.int t), .un], rfl, ?_, _, _, _, _, _, _, rfl, by simp; omega, ?_, hq.1, ?_, ?_⟩
    · simp -implicitDefEqProofs [iL, t0, ht, u0, ht0, show t + 1 ≠ 0 by omega, show (t + 1).natAbs < 1073741824 by omega, show tops.length < 16777216 by omega]
    · intro y hy
      rcases List.mem_append.mp hy with hy | hy
      · exact htb y hy
      · simp at hy
        subst hy
        exact ⟨ht1, ht2'⟩
    · rw [prodT_app]
      have := Int.mul_le_mul_of_nonneg_left (show 1 ≤ t + 1 by omega) (show 0 ≤ prodT tops by omega)
      omega
    · rw [prodT_app, Int.mul_assoc, Int.mul_comm (t + 1)]
      exact Int.le_trans (Int.mul_le_mul_of_nonneg_left hq.2 (by omega)) hpr
  obtain ⟨hp1, hp2⟩ := hpr
  have hgc : ∀ (x12 : Sl), compGo (sName 11) kYes (kBin gSub (kData (kCallD d_law_mix (kCons (gVar 0) (kCons (kBin gAdd (kBin gAdd (gVar 1) (kC (.int 90))) (gVar 11)) (kCons (kIx (kQ (kData (kLst (kCons (kC (.int 5)) (kCons (kC (.int 41)) kNil))))) (kData (kCallD d_law_mix (kCons (gVar 0) (kCons (kBin gAdd (gVar 1) (kC (.int 5))) (kCons (kC (.int 2)) kNil)))))) kNil))))) (kIx (kQ (kData (kLst (kCons (kC (.int 1)) (kCons (kC (.int 20)) kNil))))) (kData (kCallD d_law_mix (kCons (gVar 0) (kCons (kBin gAdd (gVar 1) (kC (.int 5))) (kCons (kC (.int 2)) kNil)))))))
      [.fr (iL ds), .fr (.int 10), .fr (.int 5), .fr (.int 300), .fr (.int m), .ow (rows.map fun x => iL x), .ow (lims.map PyData.int), y7, y8, .ow (tops.map PyData.int), .fr (.int rm), .un, x12, .un] (rangeD 0 1 m) = some (((List.range m).map fun k : Nat => mx ds (100 + k) ga - gb).map PyData.int) := fun x12 => by
    rw [rangeD_zero, List.map_map]
    refine compGo_all _ _ _ _ _ _ fun k hk => ⟨_, rfl, ?_⟩
    have hk' := List.mem_range.mp hk
    have z := (mx_spec h (k := 100 + k) (many := ga) (by omega) (by omega)).1
    simp -implicitDefEqProofs only [iL] at z
    simp -implicitDefEqProofs [iL, g0, hga, hgb, z]
  have fg := fit_of (ys := ((List.range m).map fun k : Nat => mx ds (100 + k) ga - gb).map PyData.int) (by simp; omega)
  rw [List.length_range, Nat.zero_add] at hrl hll htl
  refine ⟨⟨(List.range m).map fun k : Nat => mx ds (100 + k) ga - gb, rows, lims, tops⟩, ⟨⟨?_, ?_, ?_, ?_, ?_, ?_, ?_, ?_, ?_, ?_⟩, ?_, ?_⟩, ?_, ?_, ?_, ?_⟩
  · simp [htl]
  · intro r hr; show r.length = tops.length; rw [htl]; exact (hrow r hr).1
  · show lims.length = rows.length; omega
  · show 1 ≤ tops.length; omega
  · show tops.length ≤ 6; omega
  · show rows.length ≤ 6; omega
  · intro y hy
    obtain ⟨k, hk, rfl⟩ := List.mem_map.mp hy
    have hk' := List.mem_range.mp hk
    obtain ⟨z0, z1, z2⟩ := mx_spec h (k := 100 + k) (many := ga) (by omega) (by omega)
    omega
  · exact fun r hr => (hrow r hr).2
  · exact hlim.mono (by decide)
  · exact htb
  · exact hlim
  · have := Int.mul_le_mul_of_nonneg_left hrm (show 0 ≤ prodT tops by omega)
    show prodT tops ≤ 20000
    omega
  · show tops.length ≤ 5; omega
  · show rows.length ≤ 4; omega
  · have := Int.mul_le_mul_of_nonneg_left hrm (show 0 ≤ prodT tops by omega)
    show prodT tops ≤ 300
    omega
  · simp -implicitDefEqProofs only [iL, List.map_cons, List.map_nil, rangeD_zero] at e1 e2 hgc
    simp -implicitDefEqProofs [-List.map_map, d_law_task, b_law_task, eT, iL, rL, q0, hm, p0, hR, sR, sM, rangeD_zero, e1, e2, hgc, fg]
end K80

set_option Elab.async false
set_option linter.all false
set_option maxRecDepth 100000
set_option maxHeartbeats 2000000
namespace K80
open PySem PySem.Spec L2 DL
abbrev tL (xs : List Int) : D := .tuple (xs.map PyData.int)
theorem v_sum_byT (row told : List Int) (h : row.length ≤ told.length) (hl : row.length ≤ 1000) (hb : Bd 1000000 row) : d_law_sum_by [iL row, tL told] = some (.ok (.fr (.int (dot row told)))) := by
  have hc : compGo (sName 2) kYes (kBin gMul (kIx (kQ (gVar 0)) (gVar 2)) (kIx (kQ (gVar 1)) (gVar 2))) [.fr (iL row), .fr (tL told), .un] (rangeD 0 1 row.length) = some (List.zipWith (fun a b => PyData.int (a * b)) row told) := by
    rw [rangeD_zero, ← range_zip (fun a b => PyData.int (a * b)) row told h]
    refine compGo_all _ _ _ _ _ _ fun k hk => ⟨_, rfl, ?_⟩
    have hk' := List.mem_range.mp hk
    simp -implicitDefEqProofs [-List.getD_eq_getElem?_getD, -List.map_zipWith, iL, tL, atI_iL _ _ hk', atI_iL told k (by omega), okMul_of (Nat.le_trans (hb.get k) (by decide))]
  simp -implicitDefEqProofs [-List.getD_eq_getElem?_getD, -List.map_zipWith, d_law_sum_by, b_law_sum_by, iL, tL, sm_of (j := (row.length : Int)) (by omega) (by omega)]
  rw [hc, Option.bind_some, fit_of (by simp; omega), zipWith_int]
  simp -implicitDefEqProofs [gSum, -List.getD_eq_getElem?_getD, -List.map_zipWith, dot]
def boxOk (p t : List Int) (j : Nat) : Bool := decide (0 ≤ p.getD j 0) && decide (p.getD j 0 ≤ t.getD j 0)
def isPl (k : Tk) (p : List Int) : Bool := (decide (p.length = k.t.length) && (List.range k.t.length).all (boxOk p k.t)) && (List.range k.r.length).all fun i => decide (dot (k.r.getD i []) p ≤ k.l.getD i 0)
theorem filt_none {q : Nat → Bool} (L : List Nat) : ((L.filter q).length = 0) ↔ (L.all fun i => !q i) = true := by
  rw [List.length_eq_zero_iff, List.filter_eq_nil_iff, List.all_eq_true]
  simp
theorem v_is_plan (k : Tk) (w : WfT k) (p : List Int) : d_law_is_plan [eT k, tL p] = some (.ok (.fr (.bool (isPl k p)))) := by
  have h6 := w.m6
  have h7 := w.r6
  unfold isPl
  by_cases hp : p.length = k.t.length
  · have c1 : ∀ x7, compGo (sName 6) (kNot (kB (kChain gLe gLe (kC (.int 0)) (kIx (kQ (gVar 1)) (gVar 6)) (kIx (kQ (gVar 5)) (gVar 6))))) (gVar 6) [.fr (eT k), .fr (tL p), .fr (iL k.g), .fr (rL k.r), .fr (iL k.l), .fr (iL k.t), .un, x7] (rangeD 0 1 k.t.length) = some (((List.range k.t.length).filter fun j => !boxOk p k.t j).map fun i : Nat => .int i) := fun x7 => by
      rw [rangeD_zero]
      refine compGo_map _ _ _ _ _ _ _ _ fun j hj => ⟨_, rfl, ?_, fun _ => ?_⟩
      · have hj' := List.mem_range.mp hj
        have a1 := atI_iL p j (by omega)
        have a2 := atI_iL k.t j hj'
        unfold boxOk
        by_cases q : 0 ≤ p.getD j 0 <;> simp -implicitDefEqProofs [-List.getD_eq_getElem?_getD, iL, tL, a1, a2, q]
      · simp -implicitDefEqProofs
    have c2 : ∀ x6, compGo (sName 7) (kB (kBin gGt (kData (kCallD d_law_sum_by (kCons (kIx (kQ (gVar 3)) (gVar 7)) (kCons (gVar 1) kNil)))) (kIx (kQ (gVar 4)) (gVar 7)))) (gVar 7) [.fr (eT k), .fr (tL p), .fr (iL k.g), .fr (rL k.r), .fr (iL k.l), .fr (iL k.t), x6, .un] (rangeD 0 1 k.r.length) = some (((List.range k.r.length).filter fun i => !decide (dot (k.r.getD i []) p ≤ k.l.getD i 0)).map fun i : Nat => .int i) := fun x6 => by
      rw [rangeD_zero]
      refine compGo_map _ _ _ _ _ _ _ _ fun i hi => ⟨_, rfl, ?_, fun _ => ?_⟩
      · have hi' := List.mem_range.mp hi
        have a1 := row_atD k hi'
        have a2 := atI_iL k.l i (by rw [w.ll]; exact hi')
        have hmem : k.r.getD i [] ∈ k.r := by rw [getD_at _ _ hi']; exact List.getElem_mem hi'
        have a3 := v_sum_byT (k.r.getD i []) p (by rw [w.lr _ hmem, hp]; exact Nat.le_refl _) (by rw [w.lr _ hmem]; omega) ((w.br _ hmem).mono (by decide))
        simp -implicitDefEqProofs only [iL, rL, tL] at a1 a2 a3
        simp -implicitDefEqProofs [-List.getD_eq_getElem?_getD, iL, rL, tL, a1, a2, a3]
        rw [Bool.eq_iff_iff]
        simp
      · simp -implicitDefEqProofs
    have f1 := fit_of (ys := ((List.range k.t.length).filter fun j => !boxOk p k.t j).map fun i : Nat => PyData.int i) (by rw [List.length_map]; have := List.length_filter_le (fun j => !boxOk p k.t j) (List.range k.t.length); rw [List.length_range] at this; omega)
    have f2 := fit_of (ys := ((List.range k.r.length).filter fun i => !decide (dot (k.r.getD i []) p ≤ k.l.getD i 0)).map fun i : Nat => PyData.int i) (by rw [List.length_map]; have := List.length_filter_le (fun i => !decide (dot (k.r.getD i []) p ≤ k.l.getD i 0)) (List.range k.r.length); rw [List.length_range] at this; omega)
    have n1 := filt_none (q := fun j => !boxOk p k.t j) (List.range k.t.length)
    have n2 := filt_none (q := fun i => !decide (dot (k.r.getD i []) p ≤ k.l.getD i 0)) (List.range k.r.length)
    simp only [Bool.not_not] at n1 n2
    generalize hA : (List.range k.t.length).filter (fun j => !boxOk p k.t j) = A at c1 f1 n1
    generalize hB : (List.range k.r.length).filter (fun i => !decide (dot (k.r.getD i []) p ≤ k.l.getD i 0)) = B at c2 f2 n2
    simp -implicitDefEqProofs only [eT, iL, rL, tL] at c1 c2
    rw [decide_eq_true hp, Bool.true_and]
    by_cases q1 : A.length = 0
    · rw [n1.mp q1, Bool.true_and]
      have e2 : ((List.range k.r.length).all fun i => decide (dot (k.r.getD i []) p ≤ k.l.getD i 0)) = ((B.length : Int) == 0) := by
        rw [Bool.eq_iff_iff, ← n2, beq_iff_eq]
        omega
      rw [e2]
      simp -implicitDefEqProofs [-beq_iff_eq, -Int.natCast_eq_zero, d_law_is_plan, b_law_is_plan, eT, iL, rL, tL, hp, sm_of (j := (k.t.length : Int)) (by omega) (by omega), sm_of (j := (k.r.length : Int)) (by omega) (by omega), c1, c2, f1, f2, show ¬ 0 < A.length by omega]
    · have e1 : ((List.range k.t.length).all (boxOk p k.t)) = false := by
        cases z : (List.range k.t.length).all (boxOk p k.t) with
        | false => rfl
        | true => exact absurd (n1.mpr z) q1
      rw [e1, Bool.false_and]
      simp -implicitDefEqProofs [d_law_is_plan, b_law_is_plan, eT, iL, rL, tL, hp, sm_of (j := (k.t.length : Int)) (by omega) (by omega), c1, f1, show 0 < A.length by omega]
  · rw [decide_eq_false hp, Bool.false_and, Bool.false_and]
    have hp' : ((p.length : Int) == (k.t.length : Int)) = false := beq_eq_false_iff_ne.mpr (by omega)
    simp -implicitDefEqProofs [d_law_is_plan, b_law_is_plan, eT, iL, rL, tL, hp', hp]
end K80

set_option Elab.async false
set_option linter.all false
set_option maxRecDepth 100000
set_option maxHeartbeats 2000000
namespace K80
open PySem PySem.Spec L2 DL
def ext (top : Int) (told : List Int) : List (List Int) := (List.range (top + 1).toNat).map fun i : Nat => told ++ [(i : Int)]
def boxes (t : List Int) : List (List Int) := t.foldl (fun found top => found.flatMap (ext top)) [[]]
def plansL (k : Tk) : List (List Int) := (boxes k.t).filter (isPl k)
theorem ext_len (top : Int) (told : List Int) (h : 0 ≤ top ∧ top ≤ 12) : (ext top told).length ≤ 13 := by
  unfold ext
  simp
  omega
theorem fit_line {ys : List D} (h : ys.length ≤ 16777216) : fit ys = some (.ow ys) := by
  unfold fit
  rw [if_pos h]
theorem pow13 {i : Nat} (h : i ≤ 6) : 13 ^ i ≤ 4826809 := by
  have : 13 ^ i ≤ 13 ^ 6 := Nat.pow_le_pow_right (by decide) h
  exact Nat.le_trans this (by decide)
theorem v_plans (k : Tk) (w : WfT k) : d_law_plans [eT k] = some (.ok (.ow ((plansL k).map tL))) := by
  have h6 := w.m6
  have cN : ∀ (top : Int) (told : List Int) (x1 x3 : Sl), (0 ≤ top ∧ top ≤ 12) → told.length ≤ 100 → compGo (sName 5) kYes (kBin gAdd (gVar 4) (kTup (kCons (gVar 5) kNil))) [.fr (eT k), x1, .fr (.int top), x3, .fr (tL told), .un] (rangeD 0 1 (top + 1).toNat) = some ((ext top told).map tL) := fun top told x1 x3 ht hl => by
    unfold ext
    rw [rangeD_zero, List.map_map]
    refine compGo_all _ _ _ _ _ _ fun i hi => ⟨_, rfl, ?_⟩
    simp -implicitDefEqProofs [tL, show told.length + 1 ≤ 16777216 by omega]
  have IN : ∀ (top : Int) (found : List (List Int)) (x4 x5 : Sl), (0 ≤ top ∧ top ≤ 12) → (∀ p ∈ found, p.length ≤ 100) → 13 * found.length ≤ 4826809 → ∃ x4', forGo (sName 4) (zSet 3 (kBin gAdd (gVar 3) (kData (kComp (List.map (fun x => x.2) ([("number", 5)] : List (Str × Nat))) (kRange1 (kCons (kBin gAdd (gVar 2) (kC (.int 1))) kNil)) (sName 5) kYes (kBin gAdd (gVar 4) (kTup (kCons (gVar 5) kNil))))))) (found.map tL)
      [.fr (eT k), .fr (.list (found.map tL)), .fr (.int top), .fr (.list []), x4, .un] = some (.nx [.fr (eT k), .fr (.list (found.map tL)), .fr (.int top), .fr (.list ((found.flatMap (ext top)).map tL)), x4', .un]) := fun top found x4 x5 ht hf hl => by
    obtain ⟨ρ1, e1, hb, x4', rfl⟩ := forGo_ix (fun p : List Int => (tL p : D)) (sName 4) (zSet 3 (kBin gAdd (gVar 3) (kData (kComp (List.map (fun x => x.2) ([("number", 5)] : List (Str × Nat))) (kRange1 (kCons (kBin gAdd (gVar 2) (kC (.int 1))) kNil)) (sName 5) kYes (kBin gAdd (gVar 4) (kTup (kCons (gVar 5) kNil)))))))
      (fun i (acc : List (List Int)) ρ => acc.length ≤ 13 * i ∧ ∃ x4, ρ = [.fr (eT k), .fr (.list (found.map tL)), .fr (.int top), .fr (.list (acc.map tL)), x4, .un]) (fun acc p => acc ++ ext top p) found 0 [] [.fr (eT k), .fr (.list (found.map tL)), .fr (.int top), .fr (.list []), x4, .un] ⟨Nat.le_refl _, x4, rfl⟩ fun j p hp acc ρ ⟨hb, x4, e⟩ => by
      subst e
      have hj := (List.getElem?_eq_some_iff.mp hp).1
      have hpl := hf p (List.mem_of_getElem? hp)
      have he := ext_len top p ht
      have hc := cN top p (.fr (.list (found.map tL))) (.fr (.list (acc.map tL))) ht hpl
      have hfit := fit_line (ys := (ext top p).map tL) (by rw [List.length_map]; omega)
      simp -implicitDefEqProofs only [eT, iL, rL, tL] at hc hfit
      refine ⟨_, _, rfl, ?_, by rw [List.length_append]; omega, .fr (tL p), rfl⟩
      simp -implicitDefEqProofs [eT, iL, rL, tL, sm_of (j := top + 1) (by omega) (by omega), hc, hfit, show acc.length + (ext top p).length ≤ 16777216 by omega]
    rw [foldl_app (ext top), List.nil_append] at e1
    exact ⟨x4', e1⟩
  obtain ⟨ρ2, e2, ⟨hb, hfl⟩, x2, x3, x4, rfl⟩ := forGo_ix PyData.int (sName 2) (zSeq (zSet 3 (kData (kLst kNil)))
      (zSeq (zFor (kQ (gVar 1)) (sName 4) (zSet 3 (kBin gAdd (gVar 3) (kData (kComp (List.map (fun x => x.2) ([("number", 5)] : List (Str × Nat))) (kRange1 (kCons (kBin gAdd (gVar 2) (kC (.int 1))) kNil)) (sName 5) kYes (kBin gAdd (gVar 4) (kTup (kCons (gVar 5) kNil))))))))
      (zSet 1 (gVar 3)))) (fun i (found : List (List Int)) ρ => (found.length ≤ 13 ^ i ∧ ∀ p ∈ found, p.length = i) ∧ ∃ x2 x3 x4, ρ = [.fr (eT k), .fr (.list (found.map tL)), x2, x3, x4, .un]) (fun found top => found.flatMap (ext top)) k.t 0 [[]] [.fr (eT k), .fr (.list [.tuple []]), .un, .un, .un, .un] ⟨⟨Nat.le_refl _, fun p hp => by simp at hp; simp [hp]⟩, .un, .un, .un, rfl⟩ fun j top hp found ρ ⟨⟨hb, hfl⟩, x2, x3, x4, e⟩ => by
    subst e
    have hj := (List.getElem?_eq_some_iff.mp hp).1
    have htop := w.bt _ (List.mem_of_getElem? hp)
    have hp6 := pow13 (i := 0 + j + 1) (by omega)
    rw [Nat.pow_succ] at hp6
    obtain ⟨x4', hin⟩ := IN top found x4 .un htop (fun p hp => by rw [hfl p hp]; omega) (by omega)
    simp -implicitDefEqProofs only [eT, iL, rL, List.map_cons, List.map_nil] at hin
    refine ⟨_, _, rfl, ?_, ⟨?_, ?_⟩, .fr (.int top), .fr (.list ((found.flatMap (ext top)).map tL)), x4', rfl⟩
    · simp -implicitDefEqProofs [eT, iL, rL, hin]
    · have := flat_len (ext top) 13 found fun p _ => ext_len top p htop
      rw [Nat.pow_succ]
      omega
    · intro q hq
      obtain ⟨p, hp, hq⟩ := List.mem_flatMap.mp hq
      unfold ext at hq
      obtain ⟨i, _, rfl⟩ := List.mem_map.mp hq
      simp [hfl p hp]
  have e3 : k.t.foldl (fun found top => found.flatMap (ext top)) [[]] = boxes k.t := rfl
  rw [e3] at e2 hb hfl
  have cF : compGo (sName 4) (kB (kData (kCallD d_law_is_plan (kCons (gVar 0) (kCons (gVar 4) kNil))))) (gVar 4) [.fr (eT k), .fr (.list ((boxes k.t).map tL)), x2, x3, .un, .un] ((boxes k.t).map tL) = some ((plansL k).map tL) := by
    refine compGo_map _ _ _ _ _ _ _ _ fun p hp => ⟨_, rfl, ?_, fun _ => ?_⟩
    · have := v_is_plan k w p
      simp -implicitDefEqProofs only [eT, iL, rL, tL] at this
      simp -implicitDefEqProofs [eT, iL, rL, tL, this]
    · simp -implicitDefEqProofs
  have hp6 := pow13 (i := 0 + k.t.length) (by omega)
  have hF := fit_line (ys := (plansL k).map tL) (by
    rw [List.length_map]
    have := List.length_filter_le (isPl k) (boxes k.t)
    unfold plansL
    omega)
  simp -implicitDefEqProofs only [eT, iL, rL, List.map_cons, List.map_nil] at e2 cF hF
  simp -implicitDefEqProofs [d_law_plans, b_law_plans, eT, iL, rL, e2, cF, hF]
end K80

set_option Elab.async false
set_option linter.all false
set_option maxRecDepth 100000
set_option maxHeartbeats 2000000
namespace K80
open PySem PySem.Spec L2 DL
def best (k : Tk) : Int := (maxI ((plansL k).map (dot k.g) ++ [-100000])).getD 0
theorem plan_len {k : Tk} {p : List Int} (h : p ∈ plansL k) : p.length = k.t.length := by
  have := (List.mem_filter.mp h).2
  unfold isPl at this
  simp only [Bool.and_eq_true, decide_eq_true_iff] at this
  exact this.1.1
theorem plans_le {k : Tk} (w : WfT k) : (plansL k).length ≤ 4826809 := by
  have h6 := w.m6
  have : ∀ (ts : List Int) (acc : List (List Int)) , (∀ x ∈ ts, 0 ≤ x ∧ x ≤ 12) → (ts.foldl (fun found top => found.flatMap (ext top)) acc).length ≤ 13 ^ ts.length * acc.length := by
    intro ts
    induction ts with
    | nil => intro acc _; simp
    | cons t ts ih =>
      intro acc h
      rw [List.foldl_cons]
      have h1 := ih (acc.flatMap (ext t)) fun x hx => h x (List.mem_cons_of_mem _ hx)
      have h2 := flat_len (ext t) 13 acc fun p _ => ext_len t p (h t List.mem_cons_self)
      have h3 := Nat.mul_le_mul_left (13 ^ ts.length) h2
      rw [List.length_cons, Nat.pow_succ, Nat.mul_assoc]
      exact Nat.le_trans h1 h3
  have h1 := this k.t [[]] w.bt
  have h2 := List.length_filter_le (isPl k) (boxes k.t)
  have h3 := pow13 (i := k.t.length) (by omega)
  unfold plansL
  unfold boxes at h2 ⊢
  simp at h1
  omega
theorem v_best (k : Tk) (w : WfT k) : d_law_best [eT k] = some (.ok (.fr (.int (best k)))) := by
  have h6 := w.m6
  have hp := v_plans k w
  have hle := plans_le w
  have c1 : ∀ u, compGo (sName 2) kYes (kData (kCallD d_law_sum_by (kCons (kIx (kQ (gVar 0)) (kC (.int 0))) (kCons (gVar 2) kNil)))) [.fr (eT k), u, .un] ((plansL k).map tL) = some (((plansL k).map (dot k.g)).map PyData.int) := fun u => by
    rw [List.map_map]
    refine compGo_all _ _ _ _ _ _ fun p hp => ⟨_, rfl, ?_⟩
    have hl := plan_len hp
    have := v_sum_byT k.g p (by rw [w.lg, hl]; exact Nat.le_refl _) (by rw [w.lg]; omega) (w.bg.mono (by decide))
    simp -implicitDefEqProofs only [iL, tL] at this
    simp -implicitDefEqProofs [iL, tL, this]
  have f1 := fit_line (ys := ((plansL k).map (dot k.g)).map PyData.int) (by rw [List.length_map, List.length_map]; omega)
  have hm : ∃ m, maxI ((plansL k).map (dot k.g) ++ [-100000]) = some m := by
    generalize hL : (plansL k).map (dot k.g) ++ [-100000] = L
    cases L with
    | nil => simp at hL
    | cons n ns => exact ⟨_, rfl⟩
  obtain ⟨m, hm⟩ := hm
  have hg : gMax (((plansL k).map (dot k.g)).map PyData.int ++ [.int (-100000)]) = some (.fr (.int m)) := by
    rw [show ((plansL k).map (dot k.g)).map PyData.int ++ [.int (-100000)] = ((plansL k).map (dot k.g) ++ [-100000]).map PyData.int by simp]
    unfold gMax
    rw [intsOf_map, Option.bind_some, hm]
    rfl
  unfold best
  rw [hm]
  simp -implicitDefEqProofs only [eT, iL, rL] at hp c1
  simp -implicitDefEqProofs [-List.map_map, d_law_best, b_law_best, eT, iL, rL, hp, c1, f1, show (plansL k).length + 1 ≤ 16777216 by omega, hg]
def base (k0 : Tk) (f : List (Int × Int)) : Int := (f.map fun p => k0.g.getD p.1.toNat 0 * p.2).sum
/-- the names of fixed ones -/
def NmF (m : Nat) (f : List (Int × Int)) : Prop := f.length ≤ 6 ∧ ∀ p ∈ f, 0 ≤ p.1 ∧ p.1 < m
theorem name_at {k0 : Tk} (w : WfT k0) {x : Int} (h : 0 ≤ x ∧ x < k0.t.length) : atI (k0.g.map PyData.int) x = some (.int (k0.g.getD x.toNat 0)) := by
  obtain ⟨n, rfl⟩ := Int.eq_ofNat_of_zero_le h.1
  have := w.lg
  exact atI_iL k0.g n (by omega)
theorem v_fixed_gain (k0 : Tk) (w : Ckd k0) (s : Stt) (h : NmF k0.t.length s.f) : d_fixed_gain [eT k0, eS s] = some (.ok (.fr (.int (base k0 s.f)))) := by
  have c1 : compGo (sTup 2 (sCons (sName 2) (sCons (sName 3) sNil))) kYes (kBin gMul (kIx (kQ (kIx (kQ (gVar 0)) (kC (.int 0)))) (gVar 2)) (gVar 3)) [.fr (eT k0), .fr (eS s), .un, .un] (s.f.map pD) = some (s.f.map fun p => .int (k0.g.getD p.1.toNat 0 * p.2)) := by
    refine compGo_all _ _ _ _ _ _ fun p hp => ⟨_, rfl, ?_⟩
    have := name_at w.toWfT (h.2 p hp)
    have hb := (w.bg).get p.1.toNat
    simp -implicitDefEqProofs [-List.getD_eq_getElem?_getD, eT, iL, this, okMul_of (i := k0.g.getD p.1.toNat 0) (j := p.2) (by omega)]
  have f1 := fit_of (ys := s.f.map fun p => PyData.int (k0.g.getD p.1.toNat 0 * p.2)) (by rw [List.length_map]; have := h.1; omega)
  have ck := v_check_task k0 w
  simp -implicitDefEqProofs only [eS, eT, iL, rL, pL] at c1 ck
  simp -implicitDefEqProofs [-List.getD_eq_getElem?_getD, d_fixed_gain, b_fixed_gain, eS, eT, iL, rL, pL, ck, c1, f1, base]
theorem v_kept_non (k0 : Tk) (s s' : Stt) (w : WfS s) (i : Int) (h : plansL s.k = []) : d_law_kept [eT k0, eS s, eStep (.non, [i]), eS s'] = some (.ok (.fr (.bool true))) := by
  have hp := v_plans s.k w.toWfT
  rw [h] at hp
  have e : gEq (.list []) (.list []) = some (.bool true) := by
    unfold gEq
    rw [if_pos ⟨by decide +kernel, by decide +kernel⟩]
    rfl
  simp -implicitDefEqProofs only [eT, iL, rL, List.map_nil] at hp
  simp -implicitDefEqProofs [d_law_kept, b_law_kept, eS, eT, iL, rL, pL, nm, hp, e]
theorem v_kept (k0 : Tk) (w0 : WfT k0) (s s' : Stt) (w : WfS s) (w' : WfS s') (st : Step) (hst : st.1 ≠ .non) (h : NmF k0.t.length s.f) (h' : NmF k0.t.length s'.f)
    (hk : (best s.k = -100000 ∧ best s'.k = -100000) ∨ (best s.k + base k0 s.f = best s'.k + base k0 s'.f ∧ -100000 < best s'.k)) : d_law_kept [eT k0, eS s, eStep st, eS s'] = some (.ok (.fr (.bool true))) := by
  have c1 : ∀ x4 x5 x6 x7, compGo (sTup 2 (sCons (sName 8) (sCons (sName 9) sNil))) kYes (kBin gMul (kIx (kQ (kIx (kQ (gVar 0)) (kC (.int 0)))) (gVar 8)) (gVar 9)) [.fr (eT k0), .fr (eS s), .fr (eStep st), .fr (eS s'), x4, x5, x6, x7, .un, .un] (s.f.map pD) = some (s.f.map fun p => .int (k0.g.getD p.1.toNat 0 * p.2)) := fun x4 x5 x6 x7 => by
    refine compGo_all _ _ _ _ _ _ fun p hp => ⟨_, rfl, ?_⟩
    have := name_at w0 (h.2 p hp)
    have hb := (w0.bg).get p.1.toNat
    simp -implicitDefEqProofs [-List.getD_eq_getElem?_getD, eT, iL, this, okMul_of (i := k0.g.getD p.1.toNat 0) (j := p.2) (by omega)]
  have c2 : ∀ x4 x5 x6 x7, compGo (sTup 2 (sCons (sName 8) (sCons (sName 9) sNil))) kYes (kBin gMul (kIx (kQ (kIx (kQ (gVar 0)) (kC (.int 0)))) (gVar 8)) (gVar 9)) [.fr (eT k0), .fr (eS s), .fr (eStep st), .fr (eS s'), x4, x5, x6, x7, .un, .un] (s'.f.map pD) = some (s'.f.map fun p => .int (k0.g.getD p.1.toNat 0 * p.2)) := fun x4 x5 x6 x7 => by
    refine compGo_all _ _ _ _ _ _ fun p hp => ⟨_, rfl, ?_⟩
    have := name_at w0 (h'.2 p hp)
    have hb := (w0.bg).get p.1.toNat
    simp -implicitDefEqProofs [-List.getD_eq_getElem?_getD, eT, iL, this, okMul_of (i := k0.g.getD p.1.toNat 0) (j := p.2) (by omega)]
  have f1 := fit_of (ys := s.f.map fun p => PyData.int (k0.g.getD p.1.toNat 0 * p.2)) (by rw [List.length_map]; have := h.1; omega)
  have f2 := fit_of (ys := s'.f.map fun p => PyData.int (k0.g.getD p.1.toNat 0 * p.2)) (by rw [List.length_map]; have := h'.1; omega)
  have b1 := v_best s.k w.toWfT
  have b2 := v_best s'.k w'.toWfT
  simp -implicitDefEqProofs only [eS, eT, iL, rL, pL] at c1 c2 b1 b2
  have hn : (nm st.1 == ("none" : Str)) = false := by rw [nm_non, decide_eq_false hst]
  rcases hk with ⟨k1, k2⟩ | ⟨k1, k2⟩
  · simp -implicitDefEqProofs [-List.getD_eq_getElem?_getD, d_law_kept, b_law_kept, eS, eT, iL, rL, pL, hn, c1, c2, f1, f2, b1, b2, k1, k2]
  · simp -implicitDefEqProofs [-List.getD_eq_getElem?_getD, d_law_kept, b_law_kept, eS, eT, iL, rL, pL, hn, c1, c2, f1, f2, b1, b2]
    have e1 : (best s'.k == -100000) = false := beq_eq_false_iff_ne.mpr (by omega)
    have e2 : decide (-100000 < best s'.k) = true := decide_eq_true k2
    have e3 : (best s.k + (List.map (fun a => k0.g.getD a.fst.toNat 0 * a.snd) s.f).sum == best s'.k + (List.map (fun a => k0.g.getD a.fst.toNat 0 * a.snd) s'.f).sum) = true := beq_iff_eq.mpr k1
    rw [e1, e2, e3]
    cases (best s.k == -100000) <;> rfl
end K80

set_option Elab.async false
set_option linter.all false
set_option maxRecDepth 100000
set_option maxHeartbeats 2000000
namespace K80
open PySem PySem.Spec L2 DL
/-! ### plans -/
structure IsP (k : Tk) (p : List Int) : Prop where
  len : p.length = k.t.length
  box : ∀ x ∈ p.zip k.t, 0 ≤ x.1 ∧ x.1 ≤ x.2
  row : ∀ x ∈ k.r.zip k.l, dot x.1 p ≤ x.2
theorem mem_zip_get {A B : Type} {xs : List A} {ys : List B} {x : A × B} (h : x ∈ xs.zip ys) : ∃ i : Nat, xs[i]? = some x.1 ∧ ys[i]? = some x.2 := by
  obtain ⟨i, hi⟩ := List.mem_iff_getElem?.mp h
  rw [List.getElem?_zip_eq_some] at hi
  exact ⟨i, hi.1, hi.2⟩
theorem zip_get_mem {A B : Type} {xs : List A} {ys : List B} {i : Nat} {a : A} {b : B} (h : xs[i]? = some a) (h2 : ys[i]? = some b) : (a, b) ∈ xs.zip ys := by
  refine List.mem_iff_getElem?.mpr ⟨i, ?_⟩
  rw [List.getElem?_zip_eq_some]
  exact ⟨h, h2⟩
theorem getD_of {A : Type} {xs : List A} {d a : A} {i : Nat} (h : xs[i]? = some a) : xs.getD i d = a := by rw [List.getD_eq_getElem?_getD, h]; rfl
theorem get_of {A : Type} {xs : List A} {d : A} {i : Nat} (h : i < xs.length) : xs[i]? = some (xs.getD i d) := by
  rw [List.getElem?_eq_getElem h, getD_at _ _ h]
theorem isPl_iff {k : Tk} (ll : k.l.length = k.r.length) (p : List Int) : isPl k p = true ↔ IsP k p := by
  unfold isPl boxOk
  simp only [Bool.and_eq_true, decide_eq_true_iff, List.all_eq_true, List.mem_range]
  constructor
  · rintro ⟨⟨h1, h2⟩, h3⟩
    refine ⟨h1, fun x hx => ?_, fun x hx => ?_⟩
    · obtain ⟨i, e1, e2⟩ := mem_zip_get hx
      have hi := (List.getElem?_eq_some_iff.mp e2).1
      have := h2 i hi
      rw [getD_of e1, getD_of e2] at this
      exact this
    · obtain ⟨i, e1, e2⟩ := mem_zip_get hx
      have hi := (List.getElem?_eq_some_iff.mp e1).1
      have := h3 i hi
      rw [getD_of e1, getD_of e2] at this
      exact this
  · intro h
    refine ⟨⟨h.len, fun i hi => ?_⟩, fun i hi => ?_⟩
    · exact h.box (p.getD i 0, k.t.getD i 0) (zip_get_mem (get_of (by rw [h.len]; exact hi)) (get_of hi))
    · exact h.row (k.r.getD i [], k.l.getD i 0) (zip_get_mem (get_of hi) (get_of (by omega)))
theorem mem_boxes : ∀ (t : List Int) (p : List Int), p ∈ boxes t ↔ p.length = t.length ∧ ∀ x ∈ p.zip t, 0 ≤ x.1 ∧ x.1 ≤ x.2 := by
  have go : ∀ (t : List Int) (acc : List (List Int)) (q : List Int), q ∈ t.foldl (fun found top => found.flatMap (ext top)) acc ↔ ∃ a ∈ acc, ∃ p : List Int, q = a ++ p ∧ p.length = t.length ∧ ∀ x ∈ p.zip t, 0 ≤ x.1 ∧ x.1 ≤ x.2 := by
    intro t
    induction t with
    | nil =>
      intro acc q
      constructor
      · intro h
        exact ⟨q, h, [], by simp, rfl, fun x hx => by simp at hx⟩
      · rintro ⟨a, ha, p, rfl, hp, _⟩
        have : p = [] := List.eq_nil_of_length_eq_zero hp
        subst this
        simpa using ha
    | cons top t ih =>
      intro acc q
      rw [List.foldl_cons, ih]
      constructor
      · rintro ⟨b, hb, p, rfl, hp, hx⟩
        obtain ⟨a, ha, hb⟩ := List.mem_flatMap.mp hb
        unfold ext at hb
        obtain ⟨i, hi, rfl⟩ := List.mem_map.mp hb
        have := List.mem_range.mp hi
        refine ⟨a, ha, (i : Int) :: p, by simp, by simp [hp], fun x hx' => ?_⟩
        rw [List.zip_cons_cons] at hx'
        rcases List.mem_cons.mp hx' with rfl | hx'
        · show 0 ≤ (i : Int) ∧ (i : Int) ≤ top
          omega
        · exact hx x hx'
      · rintro ⟨a, ha, p, rfl, hp, hx⟩
        cases p with
        | nil => simp at hp
        | cons y p =>
          have hy := hx (y, top) (by simp)
          simp only at hy
          refine ⟨a ++ [y], List.mem_flatMap.mpr ⟨a, ha, ?_⟩, p, by simp, by simpa using hp, fun x hx' => hx x (by simp [hx'])⟩
          unfold ext
          refine List.mem_map.mpr ⟨y.toNat, List.mem_range.mpr (by omega), ?_⟩
          rw [Int.toNat_of_nonneg hy.1]
  intro t p
  unfold boxes
  rw [go]
  simp
theorem mem_plans {k : Tk} (ll : k.l.length = k.r.length) (p : List Int) : p ∈ plansL k ↔ IsP k p := by
  unfold plansL
  rw [List.mem_filter, mem_boxes, isPl_iff ll]
  exact ⟨fun h => h.2, fun h => ⟨⟨h.len, h.box⟩, h⟩⟩
/-! ### the best -/
theorem maxI_spec : ∀ (L : List Int), L ≠ [] → ∃ m, maxI L = some m ∧ m ∈ L ∧ ∀ y ∈ L, y ≤ m
  | [], h => absurd rfl h
  | n :: ns, _ => by
    obtain ⟨h1, h2⟩ := foldl_max_le ns n
    refine ⟨ns.foldl max n, rfl, ?_, fun y hy => ?_⟩
    · rcases foldl_max_mem ns n with e | e
      · rw [e]; exact List.mem_cons_self
      · exact List.mem_cons_of_mem _ e
    · rcases List.mem_cons.mp hy with e | hy
      · rw [e]; exact h1
      · exact h2 y hy
theorem best_spec (k : Tk) : (best k = -100000 ∨ ∃ p ∈ plansL k, best k = dot k.g p) ∧ -100000 ≤ best k ∧ ∀ p ∈ plansL k, dot k.g p ≤ best k := by
  obtain ⟨m, h1, h2, h3⟩ := maxI_spec ((plansL k).map (dot k.g) ++ [-100000]) (by simp)
  have e : best k = m := by unfold best; rw [h1]; rfl
  rw [e]
  refine ⟨?_, h3 _ (by simp), fun p hp => h3 _ (List.mem_append_left _ (List.mem_map.mpr ⟨p, hp, rfl⟩))⟩
  rcases List.mem_append.mp h2 with h | h
  · obtain ⟨p, hp, e⟩ := List.mem_map.mp h
    exact .inr ⟨p, hp, e.symm⟩
  · simp at h
    exact .inl h
theorem dot_nil_r (xs : List Int) : dot xs [] = 0 := by unfold dot; simp
theorem dot_cons (a b : Int) (xs ys : List Int) : dot (a :: xs) (b :: ys) = a * b + dot xs ys := by unfold dot; simp
theorem dot_app : ∀ (A C B E : List Int), A.length = C.length → dot (A ++ B) (C ++ E) = dot A C + dot B E
  | [], [], B, E, _ => by unfold dot; simp
  | a :: A, c :: C, B, E, h => by
    rw [List.cons_append, List.cons_append, dot_cons, dot_cons, dot_app A C B E (by simpa using h)]
    omega
  | [], _ :: _, _, _, h => by simp at h
  | _ :: _, [], _, _, h => by simp at h
theorem split_at {A : Type} (d : A) (xs : List A) {j : Nat} (h : j < xs.length) : xs = xs.take j ++ xs.getD j d :: xs.drop (j + 1) := by
  rw [getD_at _ _ h, List.getElem_cons_drop, List.take_append_drop]
theorem dot_erase (row p : List Int) {j : Nat} (hl : row.length = p.length) (h : j < p.length) : dot row p = row.getD j 0 * p.getD j 0 + dot (row.eraseIdx j) (p.eraseIdx j) := by
  have e1 := split_at 0 row (j := j) (by omega)
  have e2 := split_at 0 p h
  have hl2 : (row.take j).length = (p.take j).length := by simp [hl]
  rw [List.eraseIdx_eq_take_drop_succ, List.eraseIdx_eq_take_drop_succ, dot_app _ _ _ _ hl2]
  conv => lhs; rw [e1, e2, dot_app _ _ _ _ hl2, dot_cons]
  omega
/-- the least and the greatest sum of a row -/
theorem dot_lo_hi : ∀ (row p t : List Int), row.length = t.length → p.length = t.length → (∀ x ∈ p.zip t, 0 ≤ x.1 ∧ x.1 ≤ x.2) → lo row t ≤ dot row p ∧ dot row p ≤ hi row t
  | [], [], [], _, _, _ => by unfold lo hi dot; simp
  | a :: row, b :: p, c :: t, h1, h2, h3 => by
    have ih := dot_lo_hi row p t (by simpa using h1) (by simpa using h2) fun x hx => h3 x (by simp [hx])
    have hb := h3 (b, c) (by simp)
    simp only at hb
    have e1 : lo (a :: row) (c :: t) = min 0 (a * c) + lo row t := by unfold lo; simp
    have e2 : hi (a :: row) (c :: t) = max 0 (a * c) + hi row t := by unfold hi; simp
    rw [e1, e2, dot_cons]
    by_cases ha : 0 ≤ a
    · have q1 := Int.mul_nonneg ha hb.1
      have q2 := Int.mul_le_mul_of_nonneg_left hb.2 ha
      omega
    · have q1 := Int.mul_nonpos_of_nonpos_of_nonneg (show a ≤ 0 by omega) hb.1
      have q2 := Int.mul_le_mul_of_nonpos_left (show a ≤ 0 by omega) hb.2
      omega
  | [], _ :: _, [], _, h, _ => by simp at h
  | [], [], _ :: _, h, _, _ => by simp at h
  | [], _ :: _, _ :: _, h, _, _ => by simp at h
  | _ :: _, _, [], h, _, _ => by simp at h
  | _ :: _, [], _ :: _, _, h, _ => by simp at h
end K80

set_option Elab.async false
set_option linter.all false
set_option maxRecDepth 100000
set_option maxHeartbeats 2000000
namespace K80
open PySem PySem.Spec L2 DL
theorem zip_erase {A B : Type} : ∀ (xs : List A) (ys : List B) (i : Nat), (xs.eraseIdx i).zip (ys.eraseIdx i) = (xs.zip ys).eraseIdx i
  | [], ys, i => by simp
  | _ :: _, [], i => by cases i <;> simp
  | x :: xs, y :: ys, 0 => by simp
  | x :: xs, y :: ys, i + 1 => by simp [zip_erase xs ys i]
/-- a row that all in the box keep goes -/
theorem plan_row {k : Tk} (w : WfT k) {i : Nat} (h : i < k.r.length) (hh : ¬ k.l.getD i 0 < hi (k.r.getD i []) k.t) (p : List Int) : IsP ⟨k.g, k.r.eraseIdx i, k.l.eraseIdx i, k.t⟩ p ↔ IsP k p := by
  constructor
  · intro q
    refine ⟨q.len, q.box, fun x hx => ?_⟩
    obtain ⟨n, hn⟩ := List.mem_iff_getElem?.mp hx
    by_cases e : n = i
    · subst e
      rw [List.getElem?_zip_eq_some] at hn
      have e1 := getD_of (d := []) hn.1
      have e2 := getD_of (d := 0) hn.2
      have hm := List.mem_of_getElem? hn.1
      have := (dot_lo_hi x.1 p k.t (w.lr _ hm) q.len q.box).2
      rw [e1, e2] at hh
      omega
    · refine q.row x ?_
      show x ∈ (k.r.eraseIdx i).zip (k.l.eraseIdx i)
      rw [zip_erase, List.mem_eraseIdx_iff_getElem?]
      exact ⟨n, e, hn⟩
  · intro q
    refine ⟨q.len, q.box, fun x hx => q.row x ?_⟩
    have hx : x ∈ (k.r.eraseIdx i).zip (k.l.eraseIdx i) := hx
    rw [zip_erase] at hx
    exact List.mem_of_mem_eraseIdx hx
theorem lo_erase (row t : List Int) {j : Nat} (hl : row.length = t.length) (h : j < t.length) : lo row t = min 0 (row.getD j 0 * t.getD j 0) + lo (row.eraseIdx j) (t.eraseIdx j) := by
  induction row generalizing t j with
  | nil => cases t with
    | nil => simp at h
    | cons b t => simp at hl
  | cons a row ih => cases t with
    | nil => simp at hl
    | cons b t =>
      have e : ∀ (a b : Int) (row t : List Int), lo (a :: row) (b :: t) = min 0 (a * b) + lo row t := fun a b row t => by unfold lo; simp
      cases j with
      | zero => rw [e]; rfl
      | succ j =>
        rw [List.eraseIdx_cons_succ, List.eraseIdx_cons_succ, e, e, ih t (by simpa using hl) (by simpa using h)]
        simp only [List.getD_cons_succ]
        omega
theorem box_ix {p t : List Int} : (∀ x ∈ p.zip t, 0 ≤ x.1 ∧ x.1 ≤ x.2) ↔ ∀ (n : Nat) (a b : Int), p[n]? = some a → t[n]? = some b → 0 ≤ a ∧ a ≤ b :=
  ⟨fun h n a b e1 e2 => h (a, b) (zip_get_mem e1 e2), fun h x hx => let ⟨n, e1, e2⟩ := mem_zip_get hx; h n x.1 x.2 e1 e2⟩
theorem box_erase {p t : List Int} (j : Nat) (h : ∀ x ∈ p.zip t, 0 ≤ x.1 ∧ x.1 ≤ x.2) : ∀ x ∈ (p.eraseIdx j).zip (t.eraseIdx j), 0 ≤ x.1 ∧ x.1 ≤ x.2 := fun x hx => by
  rw [zip_erase] at hx
  exact h x (List.mem_of_mem_eraseIdx hx)
/-- a top goes down to what a row leaves -/
theorem plan_top {k : Tk} (w : WfT k) {i j : Nat} (h : i < k.r.length) (hj : j < k.t.length) (hc : canLow k j i = true) (p : List Int) : IsP ⟨k.g, k.r, k.l, k.t.set j ((room k i).fdiv (coef k i j))⟩ p ↔ IsP k p := by
  unfold canLow at hc
  simp only [Bool.and_eq_true, decide_eq_true_iff] at hc
  obtain ⟨c1, c2, c3⟩ := hc
  constructor
  · intro q
    refine ⟨by have := q.len; simpa using this, box_ix.mpr fun n a b e1 e2 => ?_, q.row⟩
    have hb := box_ix.mp q.box
    by_cases e : n = j
    · subst e
      have := hb n a ((room k i).fdiv (coef k i n)) e1 (by show (k.t.set n _)[n]? = _; rw [List.getElem?_set_self hj])
      have := getD_of (d := 0) e2
      omega
    · exact hb n a b e1 (by show (k.t.set j _)[n]? = _; rw [List.getElem?_set_ne (Ne.symm e)]; exact e2)
  · intro q
    refine ⟨by have := q.len; simpa using this, box_ix.mpr fun n a b e1 e2 => ?_, q.row⟩
    have hb := box_ix.mp q.box
    have e2 : (k.t.set j ((room k i).fdiv (coef k i j)))[n]? = some b := e2
    by_cases e : n = j
    · subst e
      rw [List.getElem?_set_self hj] at e2
      cases e2
      have hpn := hb n a _ e1 (get_of (d := 0) hj)
      refine ⟨hpn.1, ?_⟩
      have hr := q.row (k.r.getD i [], k.l.getD i 0) (zip_get_mem (get_of h) (get_of (by rw [w.ll]; exact h)))
      simp only at hr
      have hm : k.r.getD i [] ∈ k.r := by rw [getD_at _ _ h]; exact List.getElem_mem h
      have hlr := w.lr _ hm
      have d1 := dot_erase (k.r.getD i []) p (j := n) (by rw [hlr, q.len]) (by rw [q.len]; exact hj)
      have d2 := lo_erase (k.r.getD i []) k.t (j := n) hlr hj
      have d3 := (dot_lo_hi ((k.r.getD i []).eraseIdx n) (p.eraseIdx n) (k.t.eraseIdx n) (by rw [List.length_eraseIdx_of_lt (by omega), List.length_eraseIdx_of_lt hj, hlr]) (by rw [List.length_eraseIdx_of_lt (by rw [q.len]; exact hj), List.length_eraseIdx_of_lt hj, q.len]) (box_erase n q.box)).1
      have e3 := getD_of (d := 0) e1
      rw [e3] at d1
      have t0 : 0 ≤ k.t.getD n 0 := by omega
      have d4 : 0 ≤ (k.r.getD i []).getD n 0 * k.t.getD n 0 := Int.mul_nonneg (Int.le_of_lt c1) t0
      have hroom : coef k i n * a ≤ room k i := by
        unfold room coef
        omega
      rw [Int.fdiv_eq_ediv_of_nonneg _ (Int.le_of_lt c1)]
      exact Int.le_ediv_of_mul_le c1 (by rw [Int.mul_comm]; exact hroom)
    · rw [List.getElem?_set_ne (Ne.symm e)] at e2
      exact hb n a b e1 e2
/-- the task with the unknown at j fixed at v -/
def fixT (k : Tk) (j : Nat) (v : Int) : Tk := ⟨k.g.eraseIdx j, k.r.map fun row => row.eraseIdx j, List.zipWith (fun row l => l - row.getD j 0 * v) k.r k.l, k.t.eraseIdx j⟩
theorem plan_fix {k : Tk} (w : WfT k) {j : Nat} (hj : j < k.t.length) {v : Int} (p : List Int) (hp : p.length = k.t.length) (hv : p.getD j 0 = v) (hv0 : 0 ≤ v ∧ v ≤ k.t.getD j 0) : IsP (fixT k j v) (p.eraseIdx j) ↔ IsP k p := by
  have dr : ∀ row ∈ k.r, dot row p = row.getD j 0 * v + dot (row.eraseIdx j) (p.eraseIdx j) := fun row hr => by
    have := dot_erase row p (j := j) (by rw [w.lr _ hr, hp]) (by rw [hp]; exact hj)
    rw [hv] at this
    exact this
  constructor
  · intro q
    refine ⟨hp, fun x hx => ?_, fun x hx => ?_⟩
    · obtain ⟨n, hn⟩ := List.mem_iff_getElem?.mp hx
      by_cases e : n = j
      · subst e
        rw [List.getElem?_zip_eq_some] at hn
        have e1 := getD_of (d := 0) hn.1
        have e2 := getD_of (d := 0) hn.2
        omega
      · refine q.box x ?_
        show x ∈ (p.eraseIdx j).zip (k.t.eraseIdx j)
        rw [zip_erase, List.mem_eraseIdx_iff_getElem?]
        exact ⟨n, e, hn⟩
    · obtain ⟨n, e1, e2⟩ := mem_zip_get hx
      have hm := List.mem_of_getElem? e1
      have z : (x.1.eraseIdx j, x.2 - x.1.getD j 0 * v) ∈ (fixT k j v).r.zip (fixT k j v).l := by
        refine zip_get_mem (i := n) ?_ ?_
        · show (k.r.map _)[n]? = _
          rw [List.getElem?_map, e1]
          rfl
        · show (List.zipWith _ k.r k.l)[n]? = _
          rw [List.getElem?_zipWith, e1, e2]
      have := q.row _ z
      simp only at this
      rw [dr x.1 hm]
      omega
  · intro q
    refine ⟨?_, box_erase j q.box, fun x hx => ?_⟩
    · show (p.eraseIdx j).length = (k.t.eraseIdx j).length
      rw [List.length_eraseIdx_of_lt (by omega), List.length_eraseIdx_of_lt hj, hp]
    · obtain ⟨n, e1, e2⟩ := mem_zip_get hx
      have e1 : (k.r.map fun row => row.eraseIdx j)[n]? = some x.1 := e1
      have e2 : (List.zipWith (fun row l => l - row.getD j 0 * v) k.r k.l)[n]? = some x.2 := e2
      rw [List.getElem?_map] at e1
      rw [List.getElem?_zipWith] at e2
      cases f1 : k.r[n]? with
      | none => rw [f1] at e1; simp at e1
      | some row =>
        cases f2 : k.l[n]? with
        | none => rw [f1, f2] at e2; simp at e2
        | some l =>
          rw [f1] at e1
          rw [f1, f2] at e2
          simp only [Option.map_some, Option.some.injEq] at e1 e2
          have hr := q.row (row, l) (zip_get_mem f1 f2)
          simp only at hr
          rw [dr row (List.mem_of_getElem? f1)] at hr
          rw [← e1, ← e2]
          omega
end K80

set_option Elab.async false
set_option linter.all false
set_option maxRecDepth 100000
set_option maxHeartbeats 2000000
namespace K80
open PySem PySem.Spec L2 DL
theorem getD_set {xs : List Int} {j : Nat} (h : j < xs.length) (v : Int) : (xs.set j v).getD j 0 = v := getD_of (List.getElem?_set_self h)
theorem dot_set (row p : List Int) {j : Nat} (hl : row.length = p.length) (h : j < p.length) (v : Int) : dot row (p.set j v) = row.getD j 0 * v + dot (row.eraseIdx j) (p.eraseIdx j) := by
  have := dot_erase row (p.set j v) (j := j) (by rw [hl, List.length_set]) (by rw [List.length_set]; exact h)
  rw [getD_set h, List.eraseIdx_set_eq] at this
  exact this
theorem fix_range {k : Tk} (w : WfT k) {j : Nat} (hj : j < k.t.length) {v : Int} (hc : fixOk k j v = true) : 0 ≤ v ∧ v ≤ k.t.getD j 0 := by
  have ht := w.bt _ (List.getElem_mem hj)
  rw [← getD_at k.t 0 hj] at ht
  unfold fixOk at hc
  simp only [Bool.or_eq_true, Bool.and_eq_true, beq_iff_eq] at hc
  rcases hc with ⟨h, _⟩ | ⟨h, _⟩ <;> omega
theorem fix_better {k : Tk} (w : WfT k) {j : Nat} (hj : j < k.t.length) {v : Int} (hc : fixOk k j v = true) {p : List Int} (q : IsP k p) : IsP k (p.set j v) ∧ dot k.g p ≤ dot k.g (p.set j v) := by
  have hv := fix_range w hj hc
  have hpj := box_ix.mp q.box j _ _ (get_of (d := 0) (by rw [q.len]; exact hj)) (get_of (d := 0) hj)
  have hjp : j < p.length := by rw [q.len]; exact hj
  have key : (∀ row ∈ k.r, row.getD j 0 * v ≤ row.getD j 0 * p.getD j 0) ∧ k.g.getD j 0 * p.getD j 0 ≤ k.g.getD j 0 * v := by
    unfold fixOk colAny at hc
    simp only [Bool.or_eq_true, Bool.and_eq_true, beq_iff_eq, decide_eq_true_iff, Bool.not_eq_true', List.any_eq_false] at hc
    rcases hc with ⟨h1, h2 | ⟨h2, h3⟩⟩ | ⟨h1, h2, h3⟩
    · have e : p.getD j 0 = v := by omega
      rw [e]
      exact ⟨fun _ _ => Int.le_refl _, Int.le_refl _⟩
    · refine ⟨fun row hr => ?_, Int.mul_le_mul_of_nonneg_left (by omega) h2⟩
      have := h3 row hr
      exact Int.mul_le_mul_of_nonpos_left (by omega) (by omega)
    · refine ⟨fun row hr => ?_, ?_⟩
      · have := h3 row hr
        exact Int.mul_le_mul_of_nonneg_left (by omega) (by omega)
      · exact Int.mul_le_mul_of_nonpos_left h2 (by omega)
  refine ⟨⟨by rw [List.length_set]; exact q.len, box_ix.mpr fun n a b e1 e2 => ?_, fun x hx => ?_⟩, ?_⟩
  · by_cases e : n = j
    · subst e
      rw [List.getElem?_set_self hjp] at e1
      cases e1
      have := getD_of (d := 0) e2
      omega
    · rw [List.getElem?_set_ne (Ne.symm e)] at e1
      exact box_ix.mp q.box n a b e1 e2
  · have hm := (List.of_mem_zip (show (x.1, x.2) ∈ k.r.zip k.l from hx)).1
    have d1 := dot_set x.1 p (by rw [w.lr _ hm, q.len]) hjp v
    have d2 := dot_erase x.1 p (by rw [w.lr _ hm, q.len]) hjp
    have := key.1 x.1 hm
    have := q.row x hx
    omega
  · have d1 := dot_set k.g p (by rw [w.lg, q.len]) hjp v
    have d2 := dot_erase k.g p (by rw [w.lg, q.len]) hjp
    have := key.2
    omega
/-- a plan of the task with v at j -/
theorem plan_back {k : Tk} (w : WfT k) {j : Nat} (hj : j < k.t.length) {v : Int} (hv : 0 ≤ v ∧ v ≤ k.t.getD j 0) {p : List Int} (q : IsP (fixT k j v) p) : IsP k (p.insertIdx j v) ∧ dot k.g (p.insertIdx j v) = k.g.getD j 0 * v + dot (k.g.eraseIdx j) p := by
  have hl : p.length = k.t.length - 1 := by
    have := q.len
    rw [this]
    show (k.t.eraseIdx j).length = _
    rw [List.length_eraseIdx_of_lt hj]
  have hl2 : (p.insertIdx j v).length = k.t.length := by rw [List.length_insertIdx, if_pos (by omega)]; omega
  have hg : (p.insertIdx j v).getD j 0 = v := getD_of (by rw [List.getElem?_insertIdx_self, if_pos (by omega)])
  have he : (p.insertIdx j v).eraseIdx j = p := List.eraseIdx_insertIdx_self v
  refine ⟨(plan_fix w hj _ hl2 hg hv).mp (by rw [he]; exact q), ?_⟩
  have := dot_erase k.g (p.insertIdx j v) (j := j) (by rw [w.lg, hl2]) (by rw [hl2]; exact hj)
  rw [hg, he] at this
  exact this
theorem lo_bd : ∀ (row t : List Int), Bd 20 row → (∀ x ∈ t, 0 ≤ x ∧ x ≤ 12) → -240 * (t.length : Int) ≤ lo row t
  | [], t, _, _ => by unfold lo; simp; omega
  | _ :: _, [], _, _ => by unfold lo; simp
  | a :: row, b :: t, h1, h2 => by
    have ih := lo_bd row t (fun x hx => h1 x (List.mem_cons_of_mem _ hx)) fun x hx => h2 x (List.mem_cons_of_mem _ hx)
    have ha := natAbs_le (h1 a List.mem_cons_self)
    have hb := h2 b List.mem_cons_self
    have e : lo (a :: row) (b :: t) = min 0 (a * b) + lo row t := by unfold lo; simp
    have q : -20 * b ≤ a * b := Int.mul_le_mul_of_nonneg_right (by omega) hb.1
    rw [e, List.length_cons]
    omega
theorem plan_gain {k : Tk} (w : WfT k) {p : List Int} (q : IsP k p) : -100000 < dot k.g p := by
  have h6 := w.m6
  have h1 := (dot_lo_hi k.g p k.t w.lg q.len q.box).1
  have h2 := lo_bd k.g k.t w.bg w.bt
  omega
theorem best_none {k : Tk} (h : plansL k = []) : best k = -100000 := by
  rcases (best_spec k).1 with e | ⟨p, hp, _⟩
  · exact e
  · rw [h] at hp; cases hp
theorem best_le {k k' : Tk} {c : Int} (hc : ∀ p ∈ plansL k, ∃ q ∈ plansL k', dot k.g p ≤ dot k'.g q + c) (hk : best k = -100000 → -100000 ≤ best k' + c) : best k ≤ best k' + c := by
  rcases (best_spec k).1 with e | ⟨p, hp, e⟩
  · have := hk e; omega
  · obtain ⟨q, hq, h⟩ := hc p hp
    have := (best_spec k').2.2 q hq
    omega
theorem best_same {k k' : Tk} (hg : k.g = k'.g) (h : ∀ p, p ∈ plansL k ↔ p ∈ plansL k') : best k = best k' := by
  have h1 := best_le (k := k) (k' := k') (c := 0) (fun p hp => ⟨p, (h p).mp hp, by rw [hg]; omega⟩) fun _ => by have := (best_spec k').2.1; omega
  have h2 := best_le (k := k') (k' := k) (c := 0) (fun p hp => ⟨p, (h p).mpr hp, by rw [hg]; omega⟩) fun _ => by have := (best_spec k).2.1; omega
  omega
theorem fixT_ll (k : Tk) (w : WfT k) (j : Nat) (v : Int) : (fixT k j v).l.length = (fixT k j v).r.length := by
  show (List.zipWith _ k.r k.l).length = (k.r.map _).length
  rw [List.length_zipWith, List.length_map, w.ll, Nat.min_self]
theorem best_fix {k : Tk} (w : WfT k) {j : Nat} (hj : j < k.t.length) {v : Int} (hc : fixOk k j v = true) (wf : WfT (fixT k j v)) : (best k = -100000 ∧ best (fixT k j v) = -100000) ∨ (best k = best (fixT k j v) + k.g.getD j 0 * v ∧ -100000 < best (fixT k j v)) := by
  have hv := fix_range w hj hc
  have ll' := fixT_ll k w j v
  cases hP : plansL k with
  | nil =>
    refine .inl ⟨best_none hP, best_none ?_⟩
    cases hQ : plansL (fixT k j v) with
    | nil => rfl
    | cons p ps =>
      have hp : p ∈ plansL (fixT k j v) := by rw [hQ]; exact List.mem_cons_self
      have := (plan_back w hj hv ((mem_plans ll' p).mp hp)).1
      have := (mem_plans w.ll _).mpr this
      rw [hP] at this
      cases this
  | cons p ps =>
    have hp : p ∈ plansL k := by rw [hP]; exact List.mem_cons_self
    have down : ∀ p ∈ plansL k, ∃ q ∈ plansL (fixT k j v), dot k.g p ≤ dot (fixT k j v).g q + k.g.getD j 0 * v := fun p hp => by
      have q := (mem_plans w.ll p).mp hp
      obtain ⟨b1, b2⟩ := fix_better w hj hc q
      have hjp : j < p.length := by rw [q.len]; exact hj
      have z := (plan_fix w hj (p.set j v) b1.len (getD_set hjp v) hv).mpr b1
      rw [List.eraseIdx_set_eq] at z
      refine ⟨p.eraseIdx j, (mem_plans ll' _).mpr z, ?_⟩
      have := dot_set k.g p (by rw [w.lg, q.len]) hjp v
      show _ ≤ dot (k.g.eraseIdx j) (p.eraseIdx j) + _
      omega
    have up : ∀ q ∈ plansL (fixT k j v), ∃ p ∈ plansL k, dot (fixT k j v).g q ≤ dot k.g p + -(k.g.getD j 0 * v) := fun q hq => by
      obtain ⟨b1, b2⟩ := plan_back w hj hv ((mem_plans ll' q).mp hq)
      refine ⟨_, (mem_plans w.ll _).mpr b1, ?_⟩
      show dot (k.g.eraseIdx j) q ≤ _
      omega
    obtain ⟨q, hq, _⟩ := down p hp
    have g1 := plan_gain w ((mem_plans w.ll p).mp hp)
    have g2 := plan_gain wf ((mem_plans ll' q).mp hq)
    have m1 := (best_spec k).2.2 p hp
    have m2 := (best_spec (fixT k j v)).2.2 q hq
    have e1 := best_le down fun z => by omega
    have e2 := best_le up fun z => by omega
    exact .inr ⟨by omega, by omega⟩
/-- no plan where a row's least sum is more than its limit -/
theorem plan_non {k : Tk} (w : WfT k) {i : Nat} (h : i < k.r.length) (hh : k.l.getD i 0 < lo (k.r.getD i []) k.t) : plansL k = [] := by
  cases hQ : plansL k with
  | nil => rfl
  | cons p ps =>
    have q := (mem_plans w.ll p).mp (by rw [hQ]; exact List.mem_cons_self)
    have hr := q.row (k.r.getD i [], k.l.getD i 0) (zip_get_mem (get_of h) (get_of (by rw [w.ll]; exact h)))
    have hm : k.r.getD i [] ∈ k.r := by rw [getD_at _ _ h]; exact List.getElem_mem h
    have := (dot_lo_hi (k.r.getD i []) p k.t (w.lr _ hm) q.len q.box).1
    simp only at hr
    omega
end K80

set_option Elab.async false
set_option linter.all false
set_option maxRecDepth 100000
set_option maxHeartbeats 2000000
namespace K80
open PySem PySem.Spec L2 DL
def names (m : Nat) : List Int := (List.range m).map fun i : Nat => (i : Int)
def IsDue (m : Nat) (ps : List (Int × Int)) (d : List Int) : Prop := d.length = m ∧ ∀ q ∈ ps, 0 ≤ q.1 ∧ q.1 < m ∧ d.getD q.1.toNat 0 = q.2
structure Inv (k0 : Tk) (s : Stt) : Prop where
  wf : WfS s
  bl : Bd (200 + 300 * s.f.length) s.k.l
  cnt : s.n.length + s.f.length = k0.t.length
  five : k0.t.length ≤ 5
  perm : (s.n ++ s.f.map (·.1)).Perm (names k0.t.length)
  gn : s.k.g = s.n.map fun n => k0.g.getD n.toNat 0
  vals : ∀ p ∈ s.f, p.2.natAbs ≤ 12
  whole : ∀ (p d : List Int), IsP s.k p → IsDue k0.t.length (s.f ++ s.n.zip p) d → IsP k0 d
theorem srt_perm (f : List (Int × Int)) : (srt f).Perm f := List.mergeSort_perm f _
theorem perm_erase {A : Type} (d : A) (xs : List A) {j : Nat} (h : j < xs.length) : (xs.getD j d :: xs.eraseIdx j).Perm xs := by
  have e := split_at d xs h
  rw [List.eraseIdx_eq_take_drop_succ]
  conv => rhs; rw [e]
  exact List.perm_middle.symm
theorem map_erase {A B : Type} (f : A → B) (xs : List A) (j : Nat) : (xs.map f).eraseIdx j = (xs.eraseIdx j).map f := by
  rw [List.eraseIdx_eq_take_drop_succ, List.eraseIdx_eq_take_drop_succ, List.map_append, List.map_take, List.map_drop]
theorem mem_names {m : Nat} {x : Int} : x ∈ names m ↔ 0 ≤ x ∧ x < m := by
  unfold names
  rw [List.mem_map]
  constructor
  · rintro ⟨i, hi, rfl⟩
    have := List.mem_range.mp hi
    omega
  · rintro ⟨h1, h2⟩
    exact ⟨x.toNat, List.mem_range.mpr (by omega), by omega⟩
theorem Inv.nmF {k0 : Tk} {s : Stt} (h : Inv k0 s) : NmF k0.t.length s.f := by
  refine ⟨h.wf.lf, fun p hp => mem_names.mp (h.perm.mem_iff.mp (List.mem_append_right _ (List.mem_map.mpr ⟨p, hp, rfl⟩)))⟩
theorem inv_start {k0 : Tk} (w : Ckd k0) (h5 : k0.t.length ≤ 5) : Inv k0 ⟨names k0.t.length, k0, []⟩ := by
  have ln : (names k0.t.length).length = k0.t.length := by unfold names; simp
  refine ⟨⟨w.toWfT, ln, by simp⟩, w.bl2, by show (names _).length + 0 = _; omega, h5, by simp, ?_, fun p hp => (nomatch hp), ?_⟩
  · show k0.g = (names k0.t.length).map _
    unfold names
    rw [List.map_map, ← w.lg]
    have := range_one (0 : Int) PyData.int k0.g
    apply List.ext_getElem (by simp)
    intro i h1 h2
    simp [List.getElem?_eq_getElem h1]
  · intro p d hp hd
    have hd2 : ∀ q ∈ (names k0.t.length).zip p, 0 ≤ q.1 ∧ q.1 < k0.t.length ∧ d.getD q.1.toNat 0 = q.2 := hd.2
    have e : d = p := by
      apply List.ext_getElem (by rw [hd.1, hp.len])
      intro i h1 h2
      have hi : i < k0.t.length := by rw [← hd.1]; exact h1
      have z := hd2 ((i : Int), p[i]) (zip_get_mem (i := i) (by unfold names; simp [hi]) (List.getElem?_eq_getElem h2))
      have := z.2.2
      simp only [Int.toNat_natCast] at this
      rw [getD_at _ _ h1] at this
      exact this
    rw [e]
    exact hp
theorem perm_sum {xs ys : List Int} (h : xs.Perm ys) : xs.sum = ys.sum := by
  induction h with
  | nil => rfl
  | cons x _ ih => simp [ih]
  | swap x y l => simp; omega
  | trans _ _ i1 i2 => exact i1.trans i2
def mu (s : Stt) : Nat := s.n.length + s.k.r.length + (s.k.t.map Int.toNat).sum
theorem sum_set (xs : List Int) {j : Nat} (h : j < xs.length) {v : Int} (hv : v < xs.getD j 0) (h0 : 0 ≤ v) : ((xs.set j v).map Int.toNat).sum < (xs.map Int.toNat).sum := by
  induction xs generalizing j with
  | nil => simp at h
  | cons x xs ih =>
    cases j with
    | zero =>
      have hv : v < x := hv
      simp
      omega
    | succ j =>
      have := ih (j := j) (by simpa using h) hv
      simp at this ⊢
      omega
theorem sum_erase (xs : List Int) (j : Nat) : ((xs.eraseIdx j).map Int.toNat).sum ≤ (xs.map Int.toNat).sum := by
  induction xs generalizing j with
  | nil => simp
  | cons x xs ih =>
    cases j with
    | zero => simp
    | succ j =>
      have := ih j
      simp at this ⊢
      omega
def Kept (k0 : Tk) (s s' : Stt) : Prop := (best s.k = -100000 ∧ best s'.k = -100000) ∨ (best s.k + base k0 s.f = best s'.k + base k0 s'.f ∧ -100000 < best s'.k)
theorem kept_same {k0 : Tk} {s s' : Stt} (w : WfT s.k) (w' : WfT s'.k) (hf : s.f = s'.f) (hg : s.k.g = s'.k.g) (h : ∀ p, IsP s'.k p ↔ IsP s.k p) : Kept k0 s s' := by
  have e := best_same hg fun p => by rw [mem_plans w.ll, mem_plans w'.ll, h]
  cases hP : plansL s'.k with
  | nil => exact .inl ⟨by rw [e]; exact best_none hP, best_none hP⟩
  | cons p ps =>
    have hp : p ∈ plansL s'.k := by rw [hP]; exact List.mem_cons_self
    have g1 := plan_gain w' ((mem_plans w'.ll p).mp hp)
    have g2 := (best_spec s'.k).2.2 p hp
    exact .inr ⟨by rw [e, hf], by omega⟩
theorem row_inv {k0 : Tk} {s : Stt} (h : Inv k0 s) {i : Nat} (hi : i < s.k.r.length) (hh : ¬ s.k.l.getD i 0 < K80.hi (s.k.r.getD i []) s.k.t) : Inv k0 (remRow s i) ∧ Kept k0 s (remRow s i) ∧ mu (remRow s i) < mu s := by
  have w := h.wf
  have hp := plan_row w.toWfT hi hh
  have le := List.length_eraseIdx_of_lt hi
  have wt : WfT (remRow s i).k :=
    { lg := w.lg, lr := fun r hr => w.lr r (List.mem_of_mem_eraseIdx hr), ll := by show (s.k.l.eraseIdx i).length = (s.k.r.eraseIdx i).length; rw [le, List.length_eraseIdx_of_lt (by rw [w.ll]; exact hi), w.ll], m1 := w.m1, m6 := w.m6, r6 := by show (s.k.r.eraseIdx i).length ≤ 6; have := w.r6; omega,
      bg := w.bg, br := fun r hr => w.br r (List.mem_of_mem_eraseIdx hr), bl := fun x hx => w.bl x (List.mem_of_mem_eraseIdx hx), bt := w.bt }
  refine ⟨⟨⟨wt, w.ln, w.lf⟩, fun x hx => h.bl x (List.mem_of_mem_eraseIdx hx), h.cnt, h.five, h.perm, h.gn, h.vals, fun p d q => h.whole p d ((hp p).mp q)⟩, kept_same w.toWfT wt rfl rfl hp, ?_⟩
  show s.n.length + (s.k.r.eraseIdx i).length + _ < s.n.length + s.k.r.length + _
  show s.n.length + (s.k.r.eraseIdx i).length + (s.k.t.map Int.toNat).sum < _
  omega
theorem top_inv {k0 : Tk} {s : Stt} (h : Inv k0 s) {i j : Nat} (hi : i < s.k.r.length) (hj : j < s.k.t.length) (hc : canLow s.k j i = true) : Inv k0 (lowTop s j i) ∧ Kept k0 s (lowTop s j i) ∧ mu (lowTop s j i) < mu s := by
  have w := h.wf
  have hp := plan_top w.toWfT hi hj hc
  have hc' := hc
  unfold canLow at hc'
  simp only [Bool.and_eq_true, decide_eq_true_iff] at hc'
  obtain ⟨c1, c2, c3⟩ := hc'
  have hq : 0 ≤ (room s.k i).fdiv (coef s.k i j) := by
    rw [Int.fdiv_eq_ediv_of_nonneg _ (Int.le_of_lt c1)]
    exact Int.ediv_nonneg c2 (Int.le_of_lt c1)
  have ht := w.bt _ (List.getElem_mem hj)
  rw [← getD_at s.k.t 0 hj] at ht
  have wt : WfT (lowTop s j i).k :=
    { lg := by show s.k.g.length = (s.k.t.set j _).length; rw [List.length_set]; exact w.lg, lr := fun r hr => by show r.length = (s.k.t.set j _).length; rw [List.length_set]; exact w.lr r hr, ll := w.ll,
      m1 := by show 1 ≤ (s.k.t.set j _).length; rw [List.length_set]; exact w.m1, m6 := by show (s.k.t.set j _).length ≤ 6; rw [List.length_set]; exact w.m6, r6 := w.r6, bg := w.bg, br := w.br, bl := w.bl,
      bt := fun x hx => by
        rcases List.mem_or_eq_of_mem_set hx with hx | hx
        · exact w.bt x hx
        · rw [hx]; omega }
  refine ⟨⟨⟨wt, by show s.n.length = (s.k.t.set j _).length; rw [List.length_set]; exact w.ln, w.lf⟩, h.bl, h.cnt, h.five, h.perm, h.gn, h.vals, fun p d q => h.whole p d ((hp p).mp q)⟩, kept_same w.toWfT wt rfl rfl hp, ?_⟩
  show s.n.length + s.k.r.length + ((s.k.t.set j _).map Int.toNat).sum < s.n.length + s.k.r.length + (s.k.t.map Int.toNat).sum
  have := sum_set s.k.t hj c3 hq
  omega
theorem fix_inv {k0 : Tk} {s : Stt} (h : Inv k0 s) {j : Nat} {v : Int} (hn : 1 < s.n.length) (hj : j < s.k.t.length) (hc : fixOk s.k j v = true) : Inv k0 (fixName s j v) ∧ Kept k0 s (fixName s j v) ∧ mu (fixName s j v) < mu s := by
  have w := h.wf
  have hv := fix_range w.toWfT hj hc
  have ht := w.bt _ (List.getElem_mem hj)
  rw [← getD_at s.k.t 0 hj] at ht
  have ln := w.ln
  have cnt := h.cnt
  have five := h.five
  have lt := List.length_eraseIdx_of_lt hj
  have lnn := List.length_eraseIdx_of_lt (l := s.n) (i := j) (by omega)
  have lf : (srt (s.f ++ [(s.n.getD j 0, v)])).length = s.f.length + 1 := by rw [(srt_perm _).length_eq]; simp
  have blf : Bd (200 + 300 * (s.f.length + 1)) (List.zipWith (fun row l => l - row.getD j 0 * v) s.k.r s.k.l) := fun x hx => by
    obtain ⟨n, hn⟩ := List.mem_iff_getElem?.mp hx
    rw [List.getElem?_zipWith] at hn
    cases f1 : s.k.r[n]? with
    | none => rw [f1] at hn; simp at hn
    | some row =>
      cases f2 : s.k.l[n]? with
      | none => rw [f1, f2] at hn; simp at hn
      | some l =>
        rw [f1, f2] at hn
        simp only [Option.some.injEq] at hn
        have b1 := natAbs_le ((w.br _ (List.mem_of_getElem? f1)).get j)
        have b2 := h.bl l (List.mem_of_getElem? f2)
        have b3 : -20 * v ≤ row.getD j 0 * v := Int.mul_le_mul_of_nonneg_right (by omega) hv.1
        have b4 : row.getD j 0 * v ≤ 20 * v := Int.mul_le_mul_of_nonneg_right (by omega) hv.1
        omega
  have wt : WfT (fixT s.k j v) :=
    { lg := by show (s.k.g.eraseIdx j).length = (s.k.t.eraseIdx j).length; rw [lt, List.length_eraseIdx_of_lt (by rw [w.lg]; exact hj), w.lg],
      lr := fun r hr => by
        obtain ⟨row, hrow, rfl⟩ := List.mem_map.mp hr
        show (row.eraseIdx j).length = (s.k.t.eraseIdx j).length
        rw [lt, List.length_eraseIdx_of_lt (by rw [w.lr _ hrow]; exact hj), w.lr _ hrow],
      ll := fixT_ll s.k w.toWfT j v,
      m1 := by show 1 ≤ (s.k.t.eraseIdx j).length; omega, m6 := by show (s.k.t.eraseIdx j).length ≤ 6; omega, r6 := by show (s.k.r.map _).length ≤ 6; rw [List.length_map]; exact w.r6,
      bg := fun x hx => w.bg x (List.mem_of_mem_eraseIdx hx),
      br := fun r hr => by
        obtain ⟨row, hrow, rfl⟩ := List.mem_map.mp hr
        exact fun x hx => w.br _ hrow x (List.mem_of_mem_eraseIdx hx),
      bl := blf.mono (by omega), bt := fun x hx => w.bt x (List.mem_of_mem_eraseIdx hx) }
  have memf : ∀ q, q ∈ srt (s.f ++ [(s.n.getD j 0, v)]) ↔ q ∈ s.f ∨ q = (s.n.getD j 0, v) := fun q => by rw [(srt_perm _).mem_iff]; simp
  have nname : 0 ≤ s.n.getD j 0 ∧ s.n.getD j 0 < k0.t.length := mem_names.mp (h.perm.mem_iff.mp (List.mem_append_left _ (by rw [getD_at _ _ (by omega : j < s.n.length)]; exact List.getElem_mem _)))
  have hg : s.k.g.getD j 0 = k0.g.getD (s.n.getD j 0).toNat 0 := by
    have := congrArg (fun z : List Int => z[j]?) h.gn
    simp only [List.getElem?_map] at this
    rw [get_of (d := 0) (show j < s.n.length by omega), get_of (d := 0) (show j < s.k.g.length by rw [w.lg]; exact hj)] at this
    simpa using this
  have hbase : base k0 (srt (s.f ++ [(s.n.getD j 0, v)])) = base k0 s.f + k0.g.getD (s.n.getD j 0).toNat 0 * v := by
    unfold base
    rw [perm_sum ((srt_perm _).map _)]
    simp
  refine ⟨⟨⟨wt, by show (s.n.eraseIdx j).length = (s.k.t.eraseIdx j).length; omega, by show (srt _).length ≤ 6; omega⟩, by show Bd (200 + 300 * (srt _).length) _; rw [lf]; exact blf, by show (s.n.eraseIdx j).length + (srt _).length = _; omega, h.five, ?_, ?_, ?_, ?_⟩, ?_, ?_⟩
  · show (s.n.eraseIdx j ++ (srt (s.f ++ [(s.n.getD j 0, v)])).map (·.1)).Perm _
    refine List.Perm.trans ?_ h.perm
    have p1 : ((srt (s.f ++ [(s.n.getD j 0, v)])).map (·.1)).Perm (s.f.map (·.1) ++ [s.n.getD j 0]) := by
      have := (srt_perm (s.f ++ [(s.n.getD j 0, v)])).map (·.1)
      simpa using this
    refine (p1.append_left _).trans ?_
    have p2 := (perm_erase 0 s.n (j := j) (by omega)).append_right (s.f.map (·.1))
    refine List.Perm.trans ?_ p2
    rw [← List.append_assoc]
    exact List.perm_append_singleton _ _
  · show s.k.g.eraseIdx j = (s.n.eraseIdx j).map _
    rw [h.gn, map_erase]
  · intro p hp
    rcases (memf p).mp hp with hp | hp
    · exact h.vals p hp
    · rw [hp]
      show v.natAbs ≤ 12
      omega
  · intro p d hp hd
    obtain ⟨q1, _⟩ := plan_back w.toWfT hj hv hp
    refine h.whole _ d q1 ⟨hd.1, fun q hq => hd.2 q ?_⟩
    show q ∈ srt (s.f ++ [(s.n.getD j 0, v)]) ++ (s.n.eraseIdx j).zip p
    rcases List.mem_append.mp hq with hq | hq
    · exact List.mem_append_left _ ((memf q).mpr (.inl hq))
    · obtain ⟨n, hnq⟩ := List.mem_iff_getElem?.mp hq
      by_cases e : n = j
      · subst e
        rw [List.getElem?_zip_eq_some] at hnq
        have e1 := getD_of (d := 0) hnq.1
        have pl : p.length = s.k.t.length - 1 := by
          have := hp.len
          rw [this]
          exact lt
        have e2 : (p.insertIdx n v)[n]? = some v := by rw [List.getElem?_insertIdx_self, if_pos (by omega)]
        rw [e2] at hnq
        have e3 := hnq.2
        cases e3
        exact List.mem_append_left _ ((memf q).mpr (.inr (by rw [e1])))
      · refine List.mem_append_right _ ?_
        have e2 : (p.insertIdx j v).eraseIdx j = p := List.eraseIdx_insertIdx_self v
        have z : q ∈ (s.n.eraseIdx j).zip ((p.insertIdx j v).eraseIdx j) := by
          rw [zip_erase, List.mem_eraseIdx_iff_getElem?]
          exact ⟨n, e, hnq⟩
        rw [e2] at z
        exact z
  · have hb := best_fix w.toWfT hj hc wt
    rcases hb with ⟨b1, b2⟩ | ⟨b1, b2⟩
    · exact .inl ⟨b1, b2⟩
    · refine .inr ⟨?_, b2⟩
      show best s.k + base k0 s.f = best (fixT s.k j v) + base k0 (srt (s.f ++ [(s.n.getD j 0, v)]))
      rw [hbase, b1, hg]
      omega
  · show (s.n.eraseIdx j).length + (s.k.r.map _).length + ((s.k.t.eraseIdx j).map Int.toNat).sum < s.n.length + s.k.r.length + (s.k.t.map Int.toNat).sum
    have := sum_erase s.k.t j
    rw [List.length_map]
    omega
end K80

set_option Elab.async false
set_option linter.all false
set_option maxRecDepth 100000
set_option maxHeartbeats 2000000
namespace K80
open PySem PySem.Spec L2 DL
theorem beh_inv {k0 : Tk} {s s' : Stt} (h : Inv k0 s) {st : Step} (e : beh s st = some s') : Inv k0 s' ∧ ((st.1 = .non ∧ s' = s ∧ plansL s.k = [] ∧ ∃ i, st.2 = [i]) ∨ (st.1 ≠ .non ∧ Kept k0 s s' ∧ mu s' < mu s)) := by
  obtain ⟨a, xs⟩ := st
  match xs, e with
  | [], e => cases e
  | [i], e =>
    have e : (if (a = .row ∨ a = .non) ∧ 0 ≤ i ∧ i < s.k.r.length then _ else _) = _ := e
    split at e
    · rename_i hc
      obtain ⟨hor, h0, h1⟩ := hc
      have hi : i.toNat < s.k.r.length := by omega
      split at e
      · rename_i ha
        split at e
        · cases e
        · rename_i hh
          cases e
          obtain ⟨q1, q2, q3⟩ := row_inv h hi hh
          exact ⟨q1, .inr ⟨(fun z => by have z : a = .non := z; rw [ha] at z; cases z), q2, q3⟩⟩
      · rename_i ha
        split at e
        · rename_i hh
          cases e
          have : a = .non := hor.resolve_left ha
          exact ⟨h, .inl ⟨this, rfl, plan_non h.wf.toWfT hi hh, i, rfl⟩⟩
        · cases e
    · cases e
  | [j, x], e =>
    have e : (if 0 ≤ j ∧ j < s.n.length then _ else _) = _ := e
    split at e
    · rename_i hj
      have hj' : j.toNat < s.k.t.length := by have := h.wf.ln; omega
      split at e
      · rename_i hc
        split at e
        · rename_i hl
          cases e
          obtain ⟨q1, q2, q3⟩ := top_inv h (i := x.toNat) (by omega) hj' hl
          exact ⟨q1, .inr ⟨(fun z => by have z : a = .non := z; rw [hc.1] at z; cases z), q2, q3⟩⟩
        · cases e
      · split at e
        · rename_i ha
          split at e
          · rename_i hf
            cases e
            obtain ⟨q1, q2, q3⟩ := fix_inv h hf.1 hj' hf.2
            exact ⟨q1, .inr ⟨(fun z => by have z : a = .non := z; rw [ha] at z; cases z), q2, q3⟩⟩
          · cases e
        · cases e
    · cases e
  | _ :: _ :: _ :: _, e => cases e
def wear : Nat → Stt → List Step → List Step × Stt
  | 0, s, acc => (acc, s)
  | n + 1, s, acc => match fs s with
    | none => (acc, s)
    | some st => match beh s st with
      | none => (acc, s)
      | some s' => if st.1 = .non then (acc ++ [st], s') else wear n s' (acc ++ [st])
theorem fs_some {s : Stt} {st : Step} (h : fs s = some st) : st ∈ tried s ∧ ∃ s', beh s st = some s' := by
  have h1 := List.mem_of_find?_eq_some h
  have h2 := List.find?_some h
  exact ⟨h1, Option.isSome_iff_exists.mp h2⟩
abbrev wT : Rho → Option Bool := kB (kBin gIsNot (gVar 3) (kC .none))
noncomputable abbrev wB : Rho → Option Fl := (zSeq (zApp 2 (gVar 3))
  (zSeq (zSet 1 (kData (kCallD d_behind (kCons (gVar 1) (kCons (gVar 3) kNil)))))
  (zSet 3 (kIf (kB (kBin gEqA (kIx (kQ (gVar 3)) (kC (.int 0))) (kC (.str "none")))) (kC .none) (kData (kCallD d_first_step (kCons (gVar 1) kNil)))))))
theorem worn_loop {k0 : Tk} : ∀ (n : Nat) (s : Stt) (acc : List Step) (N : Nat), Inv k0 s → mu s < n → acc.length + n ≤ 1000 → n + 1 ≤ N →
    whileGo wT wB N [.fr (eT k0), .fr (eS s), .ow (acc.map eStep), .fr (eF (fs s))] = some (.nx [.fr (eT k0), .fr (eS (wear n s acc).2), .ow ((wear n s acc).1.map eStep), .fr .none])
  | 0, s, acc, N, _, h, _, _ => by omega
  | n + 1, s, acc, 0, _, _, _, h => by omega
  | n + 1, s, acc, N + 1, h, hm, hl, hN => by
    show (wT _).bind _ = _
    cases hf : fs s with
    | none =>
      have e1 : wear (n + 1) s acc = (acc, s) := by unfold wear; rw [hf]
      rw [e1]
      rfl
    | some st =>
      obtain ⟨hmem, s', hs'⟩ := fs_some hf
      obtain ⟨h', hcase⟩ := beh_inv h hs'
      obtain ⟨r, v1, v2⟩ := v_behind s h.wf st (tried_wf s h.wf st hmem)
      rw [hs'] at v2
      have hT : wT [.fr (eT k0), .fr (eS s), .ow (acc.map eStep), .fr (eStep st)] = some true := rfl
      have hA : zApp 2 (gVar 3) [.fr (eT k0), .fr (eS s), .ow (acc.map eStep), .fr (eStep st)] = some (.nx [.fr (eT k0), .fr (eS s), .ow ((acc ++ [st]).map eStep), .fr (eStep st)]) := by
        have : (acc.map eStep).length < line := by rw [List.length_map]; show acc.length < 16777216; omega
        show (if (acc.map eStep).length < line then _ else _) = _
        rw [if_pos this, List.map_append]
        rfl
      have hB : zSet 1 (kData (kCallD d_behind (kCons (gVar 1) (kCons (gVar 3) kNil)))) [.fr (eT k0), .fr (eS s), .ow ((acc ++ [st]).map eStep), .fr (eStep st)] = some (.nx [.fr (eT k0), .fr (eS s'), .ow ((acc ++ [st]).map eStep), .fr (eStep st)]) := by
        show ((((d_behind [eS s, eStep st]).bind fun res => match res with | .ok r => some r | _ => none).bind fun r : Rv => some r.data).bind _) = _
        rw [v1]
        show (some r.data).bind _ = _
        rw [v2]
        rfl
      have hg : kB (kBin gEqA (kIx (kQ (gVar 3)) (kC (.int 0))) (kC (.str "none"))) [.fr (eT k0), .fr (eS s'), .ow ((acc ++ [st]).map eStep), .fr (eStep st)] = some (decide (st.1 = .non)) := by
        simp -implicitDefEqProofs [eStep, nm_non]
      have hC : zSet 3 (kIf (kB (kBin gEqA (kIx (kQ (gVar 3)) (kC (.int 0))) (kC (.str "none")))) (kC .none) (kData (kCallD d_first_step (kCons (gVar 1) kNil)))) [.fr (eT k0), .fr (eS s'), .ow ((acc ++ [st]).map eStep), .fr (eStep st)] = some (.nx [.fr (eT k0), .fr (eS s'), .ow ((acc ++ [st]).map eStep), .fr (if st.1 = .non then .none else eF (fs s'))]) := by
        have hfs := v_first_step s' h'.wf
        by_cases hn : st.1 = .non
        · rw [decide_eq_true hn] at hg
          rw [if_pos hn]
          simp -implicitDefEqProofs only [zSet, kIf, hg, Option.bind_some, if_true, kC]
          rfl
        · rw [decide_eq_false hn] at hg
          rw [if_neg hn]
          have e1 : kData (kCallD d_first_step (kCons (gVar 1) kNil)) [.fr (eT k0), .fr (eS s'), .ow ((acc ++ [st]).map eStep), .fr (eStep st)] = some (eF (fs s')) := by
            simp -implicitDefEqProofs [hfs]
          simp -implicitDefEqProofs only [zSet, kIf, hg, Option.bind_some, e1]
          rfl
      have hW : wB [.fr (eT k0), .fr (eS s), .ow (acc.map eStep), .fr (eStep st)] = some (.nx [.fr (eT k0), .fr (eS s'), .ow ((acc ++ [st]).map eStep), .fr (if st.1 = .non then .none else eF (fs s'))]) := by
        show (zApp 2 (gVar 3) _).bind _ = _
        rw [hA]
        show (zSet 1 _ _).bind _ = _
        rw [hB]
        exact hC
      rw [show (eF (some st) : D) = eStep st from rfl, hT, Option.bind_some, if_pos rfl, hW, Option.bind_some]
      show whileGo wT wB N _ = _
      by_cases hn : st.1 = .non
      · have e1 : wear (n + 1) s acc = (acc ++ [st], s') := by unfold wear; rw [hf]; simp only [hs', if_pos hn]
        rw [e1, if_pos hn]
        cases N with
        | zero => omega
        | succ N => rfl
      · have e1 : wear (n + 1) s acc = wear n s' (acc ++ [st]) := by
          conv => lhs; unfold wear
          rw [hf]
          simp only [hs', if_neg hn]
        have hmu : mu s' < mu s := by
          rcases hcase with ⟨z, _⟩ | ⟨_, _, z⟩
          · exact absurd z hn
          · exact z
        rw [e1, if_neg hn]
        exact worn_loop n s' (acc ++ [st]) N h' (by omega) (by rw [List.length_append]; simp; omega) (by omega)
end K80

set_option Elab.async false
set_option linter.all false
set_option maxRecDepth 100000
set_option maxHeartbeats 2000000
namespace K80
open PySem PySem.Spec L2 DL
theorem rangeD_names (m : Nat) : rangeD 0 1 m = (names m).map PyData.int := by
  unfold names
  rw [rangeD_zero, List.map_map]
  rfl
abbrev s0 (k0 : Tk) : Stt := ⟨names k0.t.length, k0, []⟩
theorem start_data (k0 : Tk) : (Rv.tp (rangeD 0 1 k0.t.length) [eT k0, .list []]).data = eS (s0 k0) := by rw [rangeD_names]; rfl
theorem mu_start {k0 : Tk} (w : Ckd k0) (h5 : k0.t.length ≤ 5) : mu (s0 k0) < 200 := by
  have h7 := w.r6
  have hs : ∀ (xs : List Int), (∀ x ∈ xs, 0 ≤ x ∧ x ≤ 12) → (xs.map Int.toNat).sum ≤ 12 * xs.length := fun xs => by
    induction xs with
    | nil => intro _; simp
    | cons x xs ih =>
      intro h
      have := ih fun y hy => h y (List.mem_cons_of_mem _ hy)
      have := h x List.mem_cons_self
      rw [List.map_cons, List.sum_cons, List.length_cons]
      omega
  have := hs k0.t w.bt
  have ln : (names k0.t.length).length = k0.t.length := by unfold names; simp
  show (names k0.t.length).length + k0.r.length + (k0.t.map Int.toNat).sum < 200
  omega
noncomputable def fin0 (k0 : Tk) : List Step × Stt := wear 200 (s0 k0) []
theorem v_worn_of {k0 : Tk} (w : Ckd k0) (h5 : k0.t.length ≤ 5) (hl : (fin0 k0).1.length ≤ 1000) : d_worn_of [eT k0] = some (.ok (.tp ((fin0 k0).1.map eStep) [eS (fin0 k0).2])) := by
  have I := inv_start w h5
  have L := worn_loop 200 (s0 k0) [] wN I (mu_start w h5) (by simp) (by unfold wN; omega)
  have hs := v_start_of k0 w.toWfT
  have hf := v_first_step (s0 k0) I.wf
  have hd := start_data k0
  have e1 : zSet 1 (kData (kCallD d_start_of (kCons (gVar 0) kNil))) [.fr (eT k0), .un, .un, .un] = some (.nx [.fr (eT k0), .fr (eS (s0 k0)), .un, .un]) := by
    simp -implicitDefEqProofs only [zSet, kData, kCallD, kCons, kNil, gVar, List.getElem?_cons_zero, Option.bind_some, hs, hd]
    rfl
  have e2 : zSetR 2 (kLst kNil) [.fr (eT k0), .fr (eS (s0 k0)), .un, .un] = some (.nx [.fr (eT k0), .fr (eS (s0 k0)), .ow [], .un]) := by
    simp -implicitDefEqProofs
  have e3 : zSet 3 (kData (kCallD d_first_step (kCons (gVar 1) kNil))) [.fr (eT k0), .fr (eS (s0 k0)), .ow [], .un] = some (.nx [.fr (eT k0), .fr (eS (s0 k0)), .ow [], .fr (eF (fs (s0 k0)))]) := by
    simp -implicitDefEqProofs [hf]
  have e4 : zRetT 2 (kCons (gVar 1) kNil) [.fr (eT k0), .fr (eS (fin0 k0).2), .ow ((fin0 k0).1.map eStep), .fr .none] = some (.rt (.tp ((fin0 k0).1.map eStep) [eS (fin0 k0).2])) := by
    simp -implicitDefEqProofs
  have e5 : zWhile wN wT wB [.fr (eT k0), .fr (eS (s0 k0)), .ow [], .fr (eF (fs (s0 k0)))] = some (.nx [.fr (eT k0), .fr (eS (fin0 k0).2), .ow ((fin0 k0).1.map eStep), .fr .none]) := L
  have e6 : b_worn_of [.fr (eT k0), .un, .un, .un] = some (.rt (.tp ((fin0 k0).1.map eStep) [eS (fin0 k0).2])) := by
    simp -implicitDefEqProofs only [b_worn_of, zSeq, e1, e2, e3, Option.bind_some]
    rw [e5]
    exact e4
  show (b_worn_of [.fr (eT k0), .un, .un, .un]).bind flRes = _
  rw [e6]
  rfl
theorem v_worn {k0 : Tk} (w : Ckd k0) (h5 : k0.t.length ≤ 5) (hl : (fin0 k0).1.length ≤ 1000) : d_worn [eT k0] = some (.ok (.tp ((fin0 k0).1.map eStep) [eS (fin0 k0).2])) := by
  have h1 := v_check_task k0 w
  have h2 := v_worn_of w h5 hl
  have e : b_worn [.fr (eT k0)] = some (.rt (.tp ((fin0 k0).1.map eStep) [eS (fin0 k0).2])) := by
    simp -implicitDefEqProofs only [b_worn, zSeq, zDrop, zRet, kCallD, kCons, kNil, gVar, List.getElem?_cons_zero, Option.bind_some, h1, h2]
  show (b_worn [.fr (eT k0)]).bind flRes = _
  rw [e]
  rfl
/-! ### a plan of the last state, told whole -/
theorem due_pairs {m : Nat} {ps : List (Int × Int)} {d : List Int} (hp : (ps.map (·.1)).Perm (names m)) (hd : IsDue m ps d) : ps.Perm ((List.range m).map fun i : Nat => ((i : Int), d.getD i 0)) := by
  have e : ps = (ps.map (·.1)).map fun a : Int => (a, d.getD a.toNat 0) := by
    rw [List.map_map]
    conv => lhs; rw [← List.map_id ps]
    refine List.map_congr_left fun q hq => ?_
    have := (hd.2 q hq).2.2
    show q = (q.1, d.getD q.1.toNat 0)
    rw [this]
  have := hp.map fun a : Int => (a, d.getD a.toNat 0)
  rw [← e] at this
  unfold names at this
  rw [List.map_map] at this
  exact this
theorem srt_due {m : Nat} {ps : List (Int × Int)} {d : List Int} (hp : (ps.map (·.1)).Perm (names m)) (hd : IsDue m ps d) : srt ps = (List.range m).map fun i : Nat => ((i : Int), d.getD i 0) := by
  have p1 := (srt_perm ps).trans (due_pairs hp hd)
  refine List.Perm.eq_of_pairwise (le := fun p q : Int × Int => p.1 < q.1 ∨ (p.1 = q.1 ∧ p.2 ≤ q.2)) ?_ ?_ ?_ p1
  · intro a b _ _ h1 h2
    have : a.1 = b.1 ∧ a.2 = b.2 := by omega
    exact Prod.ext this.1 this.2
  · have := List.pairwise_mergeSort (le := fun p q : Int × Int => decide (p.1 < q.1 ∨ (p.1 = q.1 ∧ p.2 ≤ q.2))) (fun a b c h1 h2 => by
      simp only [decide_eq_true_iff] at h1 h2 ⊢
      omega) (fun a b => by
      simp only [Bool.or_eq_true, decide_eq_true_iff]
      omega) ps
    exact this.imp fun h => of_decide_eq_true h
  · rw [List.pairwise_map]
    refine List.Pairwise.imp (R := fun a b : Nat => a < b) (fun {a b} h => .inl ?_) List.pairwise_lt_range
    show (a : Int) < b
    omega
theorem base_due {k0 : Tk} (w : WfT k0) {ps : List (Int × Int)} {d : List Int} (hp : (ps.map (·.1)).Perm (names k0.t.length)) (hd : IsDue k0.t.length ps d) : base k0 ps = dot k0.g d := by
  unfold base
  rw [perm_sum ((due_pairs hp hd).map fun p : Int × Int => k0.g.getD p.1.toNat 0 * p.2), List.map_map]
  have := range_zipG 0 0 (fun a b : Int => PyData.int (a * b)) k0.g d (by rw [w.lg, hd.1]; exact Nat.le_refl _)
  have e : ((List.range k0.g.length).map fun i => k0.g.getD i 0 * d.getD i 0) = List.zipWith (· * ·) k0.g d := by
    have h2 := congrArg intsOf this
    rw [intsOf_fn, zipWith_int, intsOf_map] at h2
    exact Option.some.inj h2
  unfold dot
  rw [← e, w.lg]
  congr 1
theorem base_app (k0 : Tk) (f g : List (Int × Int)) : base k0 (f ++ g) = base k0 f + base k0 g := by unfold base; simp
end K80

set_option Elab.async false
set_option linter.all false
set_option maxRecDepth 100000
set_option maxHeartbeats 2000000
namespace K80
open PySem PySem.Spec L2 DL
theorem zip_pD (xs ys : List Int) : zipD (xs.map PyData.int) (ys.map PyData.int) = (xs.zip ys).map pD := zipD_map PyData.int PyData.int xs ys
theorem v_whole_plan {k0 : Tk} {s : Stt} (h : Inv k0 s) {p d : List Int} (hp : p.length = s.k.t.length) (hd : IsDue k0.t.length (s.f ++ s.n.zip p) d) : d_whole_plan [eS s, tL p] = some (.ok (.fr (tL d))) := by
  have ln := h.wf.ln
  have lf := h.wf.lf
  have h6 := h.wf.m6
  have hz : ((s.n.zip p ++ s.f).map (·.1)).Perm (names k0.t.length) := by
    rw [List.map_append]
    have e : (s.n.zip p).map (·.1) = s.n := by
      have := List.map_fst_zip (l₁ := s.n) (l₂ := p) (by omega)
      exact this
    rw [e]
    exact h.perm
  have hd2 : IsDue k0.t.length (s.n.zip p ++ s.f) d := ⟨hd.1, fun q hq => hd.2 q (List.mem_append.mpr (List.mem_append.mp hq).symm)⟩
  have hs := srt_due hz hd2
  have so := sort_pairs (s.n.zip p ++ s.f) (by rw [List.length_append, List.length_zip]; omega)
  rw [hs, List.map_append] at so
  have h5 := h.five
  have c1 : compGo (sTup 2 (sCons (sName 3) (sCons (sName 4) sNil))) kYes (gVar 4) [.fr (eS s), .fr (tL p), .fr (.list (((List.range k0.t.length).map fun i : Nat => ((i : Int), d.getD i 0)).map pD)), .un, .un] (((List.range k0.t.length).map fun i : Nat => ((i : Int), d.getD i 0)).map pD) = some (d.map PyData.int) := by
    have e := range_one (0 : Int) PyData.int d
    rw [hd.1] at e
    rw [← e, List.map_map]
    refine compGo_all _ _ _ _ _ _ fun i hi => ⟨_, rfl, ?_⟩
    simp -implicitDefEqProofs [-List.getD_eq_getElem?_getD]
  have f1 := fit_of (ys := d.map PyData.int) (by rw [List.length_map, hd.1]; omega)
  generalize hL : (((List.range k0.t.length).map fun i : Nat => ((i : Int), d.getD i 0)).map pD) = L at so c1
  simp -implicitDefEqProofs only [eS, eT, iL, rL, pL, tL] at c1
  have lz : ((s.n.zip p).map pD).length + (s.f.map pD).length ≤ 16777216 := by rw [List.length_map, List.length_map, List.length_zip]; omega
  simp -implicitDefEqProofs [d_whole_plan, b_whole_plan, eS, eT, iL, rL, pL, tL, zip_pD, so, c1, f1, show min s.n.length p.length + s.f.length ≤ 16777216 by omega]
end K80

set_option Elab.async false
set_option linter.all false
set_option maxRecDepth 100000
set_option maxHeartbeats 2000000
namespace K80
open PySem PySem.Spec L2 DL
def In16 (ds : List Int) : Prop := ∀ x ∈ ds, 0 ≤ x ∧ x < 65536
theorem In16.app {ds : List Int} (h : In16 ds) {x : Int} (hx : 0 ≤ x ∧ x < 65536) : In16 (ds ++ [x]) := fun y hy => by
  rcases List.mem_append.mp hy with hy | hy
  · exact h y hy
  · simp at hy
    rw [hy]
    exact hx
theorem scAt_zero (K : PySem.W.Frag) (ns : List Int) (r : List Sl) : scAt K 0 (Sl.sc K ns :: r) = some ns := by
  simp [scAt]
theorem v_law_draws (K : PySem.W.Frag) (ns : List Int) (hn : ns.length ≤ 63) : ∃ ds, Dr ds ∧ d_law_draws K ns = some (.ok (.ow (ds.map PyData.int))) := by
  have IN : ∀ (k rest : Int) (acc : List Int) (x4 x5 : Sl) (m : Nat), In16 acc → acc.length ≤ 60 * m → m ≤ 63 → ∃ (acc' : List Int) (rest' : Int) (x4' : Sl), forGo (sName 4) (zIf (kB (kBin gGt (gVar 3) (kC (.int 0)))) (zSeq (zApp 1 (kBin gMod (kData (kCall gInt (kCons (gVar 3) kNil))) (kC (.int 65536))))
      (zSet 3 (kBin gDiv (gVar 3) (kC (.int 65536))))) zNext) (rangeD 0 1 60) [.sc K ns, .ow (acc.map PyData.int), .fr (.int k), .fr (.int rest), x4, x5] = some (.nx [.sc K ns, .ow (acc'.map PyData.int), .fr (.int k), .fr (.int rest'), x4', x5]) ∧ In16 acc' ∧ acc'.length ≤ 60 * (m + 1) := fun k rest acc x4 x5 m hacc hl hm => by
    rw [rangeD_zero]
    obtain ⟨ρ', e1, acc', rest', x4', rfl, h1, h2⟩ := forGo_ix (S := Unit) (fun i : Nat => PyData.int (i : Int)) (sName 4) (zIf (kB (kBin gGt (gVar 3) (kC (.int 0)))) (zSeq (zApp 1 (kBin gMod (kData (kCall gInt (kCons (gVar 3) kNil))) (kC (.int 65536))))
      (zSet 3 (kBin gDiv (gVar 3) (kC (.int 65536))))) zNext) (fun i _ ρ => ∃ (acc' : List Int) (rest' : Int) (x4' : Sl), ρ = [.sc K ns, .ow (acc'.map PyData.int), .fr (.int k), .fr (.int rest'), x4', x5] ∧ In16 acc' ∧ acc'.length ≤ 60 * m + i) (fun _ _ => ()) (List.range 60) 0 () [.sc K ns, .ow (acc.map PyData.int), .fr (.int k), .fr (.int rest), x4, x5] ⟨acc, rest, x4, rfl, hacc, by omega⟩ fun j a ha _ ρ ⟨acc, rest, x4, e, h1, h2⟩ => by
      subst e
      obtain ⟨hj, rfl⟩ := range_get ha
      by_cases hr : 0 < rest
      · refine ⟨_, [.sc K ns, .ow ((acc ++ [rest.fmod 65536]).map PyData.int), .fr (.int k), .fr (.int (rest.fdiv 65536)), .fr (.int a), x5], rfl, ?_, _, _, _, rfl, h1.app (fmod_in (by decide)), by rw [List.length_append]; simp; omega⟩
        simp -implicitDefEqProofs [hr, show acc.length < 16777216 by omega]
      · refine ⟨_, [.sc K ns, .ow (acc.map PyData.int), .fr (.int k), .fr (.int rest), .fr (.int a), x5], rfl, ?_, _, _, _, rfl, h1, by omega⟩
        simp -implicitDefEqProofs [hr]
    rw [List.length_range] at h2
    exact ⟨acc', rest', x4', e1, h1, by omega⟩
  obtain ⟨ρ', e1, acc, x2, x3, x4, x5, rfl, h1, h2⟩ := forGo_ix (S := Unit) (fun i : Nat => PyData.int (i : Int)) (sName 2) (zSeq (zSet 3 (kData (kCall gAbs (kCons (kScIx K 0 (gVar 2)) kNil))))
      (zIf (kB (kBin gGe (gVar 3) (kBin gPow (kC (.int 10)) (kC (.int 18))))) (zFor (kRange1 (kCons (kC (.int 60)) kNil)) (sName 4) (zIf (kB (kBin gGt (gVar 3) (kC (.int 0)))) (zSeq (zApp 1 (kBin gMod (kData (kCall gInt (kCons (gVar 3) kNil))) (kC (.int 65536))))
      (zSet 3 (kBin gDiv (gVar 3) (kC (.int 65536))))) zNext)) (zSeq (zSet 5 (kBin gMod (kData (kCall gInt (kCons (kBin gAdd (kBin gMul (gVar 3) (kC (.int 48271))) (kBin gMul (kBin gAdd (gVar 2) (kC (.int 1))) (kC (.int 69621)))) kNil))) (kC (.int 2147483647))))
      (zSeq (zSet 5 (kBin gMod (kData (kCall gInt (kCons (kBin gAdd (kBin gAdd (kBin gMul (gVar 5) (kC (.int 16807))) (kBin gMul (kC (.int 11)) (gVar 2))) (kC (.int 5))) kNil))) (kC (.int 2147483629))))
      (zSeq (zApp 1 (kBin gMod (kData (kCall gInt (kCons (gVar 5) kNil))) (kC (.int 65536))))
      (zApp 1 (kBin gMod (kData (kCall gInt (kCons (kBin gDiv (gVar 5) (kC (.int 65536))) kNil))) (kC (.int 32768))))))))) (fun i _ ρ => ∃ (acc : List Int) (x2 x3 x4 x5 : Sl), ρ = [.sc K ns, .ow (acc.map PyData.int), x2, x3, x4, x5] ∧ In16 acc ∧ acc.length ≤ 60 * i) (fun _ _ => ()) (List.range ns.length) 0 () [.sc K ns, .ow [], .un, .un, .un, .un] ⟨[], _, _, _, _, rfl, fun x hx => (nomatch hx), Nat.le_refl _⟩ fun j a ha _ ρ ⟨acc, x2, x3, x4, x5, e, h1, h2⟩ => by
    subst e
    obtain ⟨hj, rfl⟩ := range_get ha
    have hat := atI_nat ns a hj
    generalize hz : ns[a] = z at hat
    generalize hrest : (if z < 0 then -z else z) = rest
    have sc0 := fun r => scAt_zero K ns r
    by_cases hr : 1000000000000000000 ≤ rest
    · obtain ⟨acc', rest', x4', e2, h3, h4⟩ := IN (a : Int) rest acc x4 x5 a h1 (by omega) (by omega)
      refine ⟨_, [.sc K ns, .ow (acc'.map PyData.int), .fr (.int a), .fr (.int rest'), x4', x5], rfl, ?_, _, _, _, _, _, rfl, h3, by omega⟩
      have s60 := sm_of (j := (60 : Int)) (by omega) (by omega)
      simp -implicitDefEqProofs [-scAt, sc0, hat, hrest, hr, s60, e2]
    · generalize hm1 : (rest * 48271 + ((a : Int) + 1) * 69621).fmod 2147483647 = m1
      have b1 : 0 ≤ m1 ∧ m1 < 2147483647 := by rw [← hm1]; exact fmod_in (by decide)
      generalize hm2 : (m1 * 16807 + 11 * (a : Int) + 5).fmod 2147483629 = m2
      have b2 : 0 ≤ m2 ∧ m2 < 2147483629 := by rw [← hm2]; exact fmod_in (by decide)
      have b3 := fmod_in (a := m2.fdiv 65536) (b := 32768) (by decide)
      refine ⟨_, [.sc K ns, .ow ((acc ++ [m2.fmod 65536] ++ [(m2.fdiv 65536).fmod 32768]).map PyData.int), .fr (.int a), .fr (.int rest), x4, .fr (.int m2)], rfl, ?_, _, _, _, _, _, rfl, (h1.app (fmod_in (by decide))).app ⟨b3.1, by omega⟩, by simp; omega⟩
      simp -implicitDefEqProofs [-scAt, sc0, hat, hrest, hr, hm1, hm2, okMul_of' (i := rest) (j := 48271) (by decide), okMul_of' (i := (a : Int) + 1) (j := 69621) (by decide), okMul_of' (i := m1) (j := 16807) (by decide), okMul_of (i := (11 : Int)) (j := (a : Int)) (by decide), show acc.length < 16777216 by omega, show acc.length + 1 < 16777216 by omega]
  rw [List.length_range] at h2
  refine ⟨acc, ⟨by omega, h1⟩, ?_⟩
  have sc0 := fun r => scAt_zero K ns r
  have hmin : (if (ns.length : Int) < 63 then (ns.length : Int) else 63) = ns.length := by split <;> omega
  have sN := sm_of (j := (ns.length : Int)) (by omega) (by omega)
  simp -implicitDefEqProofs [-scAt, d_law_draws, b_law_draws, sc0, hmin, sN, rangeD_zero, e1]
end K80

set_option Elab.async false
set_option linter.all false
set_option maxRecDepth 100000
set_option maxHeartbeats 2000000
namespace K80
open PySem PySem.Spec L2 DL
theorem rb_ints {B m : Nat} {xs : List Int} (h : Bd B xs) (hB : B ≤ 1000000) (hm : xs.length ≤ m) : RB (4 + m * 62) 1 (iL xs) := RB.list (n := 60) (k := 0) (fun d hd => by
  obtain ⟨x, hx, rfl⟩ := List.mem_map.mp hd
  exact RB.int (Nat.le_trans (h x hx) (Nat.le_trans hB (by decide)))) (by rw [List.length_map]; exact hm)
theorem rb_tints {B m : Nat} {xs : List Int} (h : Bd B xs) (hB : B ≤ 1000000) (hm : xs.length ≤ m) : RB (4 + m * 62) 1 (tL xs) := RB.tuple (n := 60) (k := 0) (fun d hd => by
  obtain ⟨x, hx, rfl⟩ := List.mem_map.mp hd
  exact RB.int (Nat.le_trans (h x hx) (Nat.le_trans hB (by decide)))) (by rw [List.length_map]; exact hm)
theorem rb_task {k : Tk} (w : WfT k) : RB 10000 3 (eT k) := by
  have h6 := w.m6
  have h7 := w.r6
  have b1 : RB 2400 2 (iL k.g) := (rb_ints (m := 6) w.bg (by decide) (by rw [w.lg]; exact h6)).mono (by decide) (by decide)
  have b2 : RB 2400 2 (rL k.r) := (RB.list (n := 376) (k := 1) (m := 6) (fun d hd => by
    obtain ⟨x, hx, rfl⟩ := List.mem_map.mp hd
    exact rb_ints (m := 6) (w.br _ hx) (by decide) (by rw [w.lr _ hx]; exact h6)) (by rw [List.length_map]; exact h7)).mono (by decide) (by decide)
  have b3 : RB 2400 2 (iL k.l) := (rb_ints (m := 6) w.bl (by decide) (by rw [w.ll]; exact h7)).mono (by decide) (by decide)
  have b4 : RB 2400 2 (iL k.t) := (rb_ints (B := 12) (m := 6) (fun x hx => by have := w.bt x hx; omega) (by decide) h6).mono (by decide) (by decide)
  refine (RB.tuple (n := 2400) (k := 2) (m := 4) (fun d hd => ?_) (by simp)).mono (by decide) (by decide)
  simp only [List.mem_cons, List.not_mem_nil, or_false] at hd
  rcases hd with rfl | rfl | rfl | rfl
  · exact b1
  · exact b2
  · exact b3
  · exact b4
  all_goals skip
theorem rb_state {k0 : Tk} {s : Stt} (h : Inv k0 s) : RB 40000 4 (eS s) := by
  have h5 := h.five
  have cnt := h.cnt
  have b1 : RB 10000 3 (iL s.n) := (rb_ints (B := 5) (m := 6) (fun x hx => by
    have := mem_names.mp (h.perm.mem_iff.mp (List.mem_append_left _ hx))
    omega) (by decide) (by omega)).mono (by decide) (by decide)
  have b2 := rb_task h.wf.toWfT
  have b3 : RB 10000 3 (pL s.f) := (RB.list (n := 128) (k := 1) (m := 6) (fun d hd => by
    obtain ⟨p, hp, rfl⟩ := List.mem_map.mp hd
    have hn := h.nmF.2 p hp
    have hv := h.vals p hp
    refine RB.tuple (n := 60) (k := 0) (m := 2) (fun d hd => ?_) (by simp)
    simp only [List.mem_cons, List.not_mem_nil, or_false] at hd
    rcases hd with rfl | rfl
    · exact RB.int (by omega)
    · exact RB.int (by omega)) (by rw [List.length_map]; omega)).mono (by decide) (by decide)
  refine (RB.tuple (n := 10000) (k := 3) (m := 3) (fun d hd => ?_) (by simp)).mono (by decide) (by decide)
  simp only [List.mem_cons, List.not_mem_nil, or_false] at hd
  rcases hd with rfl | rfl | rfl
  · exact b1
  · exact b2
  · exact b3
theorem rb_eO {k0 : Tk} {o : Option Stt} (h : ∀ s, o = some s → Inv k0 s) : RB 40000 4 (eO o) := by
  cases o with
  | none => exact RB.none.mono (by decide) (by decide)
  | some s => exact rb_state (h s rfl)
theorem rb_nm (a : Kd) : RB 60 0 (.str (nm a)) := by cases a <;> exact ⟨rfl, rfl, Nat.le_refl _, by decide +kernel⟩
theorem rb_step {st : Step} (h : WfP st) : RB 200 1 (eStep st) := (RB.tuple (n := 60) (k := 0) (m := 3) (fun d hd => by
  rcases List.mem_cons.mp hd with rfl | hd
  · exact rb_nm _
  · obtain ⟨x, hx, rfl⟩ := List.mem_map.mp hd
    exact RB.int (Nat.le_trans (h.2 x hx) (by decide))) (by have := h.1; simp; omega)).mono (by decide) (by decide)
theorem rb_steps {L : List Step} (h : ∀ st ∈ L, WfP st) (hl : L.length ≤ 1000) : RB 300000 2 (.list (L.map eStep)) := (RB.list (n := 200) (k := 1) (m := 1000) (fun d hd => by
  obtain ⟨st, hst, rfl⟩ := List.mem_map.mp hd
  exact rb_step (h st hst)) (by rw [List.length_map]; exact hl)).mono (by decide) (by decide)
/-! shapes, for == -/
theorem lay_ints : ∀ (xs : List Int), PyData.canLayAll0 (xs.map PyData.int) = true
  | [] => rfl
  | x :: xs => by rw [List.map_cons, PyData.canLayAll0, lay_ints xs]; rfl
theorem lay_step (st : Step) : PyData.canLay0 (eStep st) = true := by
  rw [PyData.canLay0, PyData.canLayAll0, lay_ints]
  cases st.1 <;> decide +kernel
theorem lay_steps : ∀ (L : List Step), PyData.canLayAll0 (L.map eStep) = true
  | [] => rfl
  | x :: xs => by rw [List.map_cons, PyData.canLayAll0, lay_steps xs, lay_step]; rfl
theorem dep_ints : ∀ (xs : List Int), PyData.depthAll (xs.map PyData.int) = 0
  | [] => rfl
  | x :: xs => by rw [List.map_cons, PyData.depthAll, dep_ints xs]; rfl
theorem dep_steps : ∀ (L : List Step), PyData.depthAll (L.map eStep) ≤ 1
  | [] => Nat.zero_le _
  | x :: xs => by
    have ih := dep_steps xs
    have e : (eStep x).depth = 1 := by
      rw [PyData.depth, PyData.depthAll, dep_ints]
      rfl
    rw [List.map_cons, PyData.depthAll, e]
    omega
theorem ne_nil (L : List Step) : gNeA (.list (L.map eStep)) (.list []) = some (.bool (!L.isEmpty)) := by
  show gNe _ _ = _
  unfold gNe
  rw [if_pos]
  · cases L with
    | nil => rfl
    | cons a L => rfl
  · refine ⟨?_, by decide +kernel⟩
    unfold SeqAt.shaped
    rw [Bool.and_eq_true, decide_eq_true_iff, PyData.canLay0, PyData.depth]
    exact ⟨lay_steps L, by have := dep_steps L; omega⟩
theorem head_filter (s : Stt) : ((tried s).filter fun st => (beh s st).isSome).head? = fs s := List.head?_filter
theorem repr_ne {x y : D} {n k : Nat} (h1 : RB n k x) (e : x = y) (hn : n ≤ 16777216) (hk : k ≤ 60) : (gRepr [x]).bind (fun a => (gRepr [y]).bind fun b => gNeA a.data b.data) = some (.bool false) := by
  subst e
  rw [gRepr_ok h1 hn hk]
  show some (PyData.bool (!(x.shown == x.shown))) = _
  rw [beq_self_eq_true]
  rfl
end K80

set_option Elab.async false
set_option linter.all false
set_option maxRecDepth 100000
set_option maxHeartbeats 2000000
namespace K80
open PySem PySem.Spec L2 DL
noncomputable abbrev lB : Rho → Option Fl := (zSeq (zSet 8 (kData (kComp (List.map (fun x => x.2) ([("step", 20)] : List (Str × Nat))) (kQ (kData (kCallD d_law_tried (kCons (gVar 5) kNil)))) (sName 20) (kB (kBin gIsNot (kData (kCallD d_law_behind (kCons (gVar 5) (kCons (gVar 20) kNil)))) (kC .none))) (gVar 20))))
  (zSeq (zSet 7 (kBin gNeA (gVar 8) (kData (kLst kNil))))
  (zIf (kB (gVar 7)) (zSeq (zSet 9 (kData (kCallD d_law_behind (kCons (gVar 5) (kCons (kIx (kQ (gVar 8)) (kC (.int 0))) kNil)))))
  (zSeq (zIf (kOr (kB (kBin gNeA (kData (kCall gRepr (kCons (kData (kCallD d_behind (kCons (gVar 5) (kCons (kIx (kQ (gVar 8)) (kC (.int 0))) kNil)))) kNil))) (kData (kCall gRepr (kCons (gVar 9) kNil))))) (kNot (kB (kData (kCallD d_law_kept (kCons (gVar 2) (kCons (gVar 5) (kCons (kIx (kQ (gVar 8)) (kC (.int 0))) (kCons (gVar 9) kNil))))))))) (zRet (kFr (kC (.bool false)))) zNext)
  (zSeq (zSet 10 (kBin gAdd (kData (kCallD d_law_tried (kCons (gVar 5) kNil))) (kData (kLst (kCons (kTup (kCons (kC (.str "row")) (kCons (kC (.int 99)) kNil))) (kCons (kTup (kCons (kC (.str "top")) (kCons (kC (.int 0)) (kCons (kC (.int 99)) kNil)))) (kCons (kTup (kCons (kC (.str "top")) (kCons (kUn gNeg (kC (.int 1))) (kCons (kC (.int 0)) kNil)))) (kCons (kTup (kCons (kC (.str "fix")) (kCons (kC (.int 9)) (kCons (kC (.int 0)) kNil)))) (kCons (kTup (kCons (kC (.str "none")) kNil)) (kCons (kTup (kCons (kC (.str "cut")) (kCons (kC (.int 0)) kNil))) (kCons (kTup (kCons (kC (.str "fix")) (kCons (kC (.int 0)) (kCons (kC (.int 13)) kNil)))) kNil)))))))))))
  (zSeq (zFor (kRange1 (kCons (kC (.int 5)) kNil)) (sName 11) (zSeq (zSet 12 (kIx (kQ (gVar 10)) (kData (kCallD d_law_mix (kCons (gVar 1) (kCons (kBin gAdd (kBin gAdd (kC (.int 300)) (kBin gMul (kC (.int 6)) (kData (kCall gLen (gLst 6))))) (gVar 11)) (kCons (kData (kCall gLen (kQ (gVar 10)))) kNil)))))))
  (zIf (kB (kBin gNeA (kData (kCall gRepr (kCons (kData (kCallD d_behind (kCons (gVar 5) (kCons (gVar 12) kNil)))) kNil))) (kData (kCall gRepr (kCons (kData (kCallD d_law_behind (kCons (gVar 5) (kCons (gVar 12) kNil)))) kNil))))) (zRet (kFr (kC (.bool false)))) zNext)))
  (zSeq (zApp 6 (kIx (kQ (gVar 8)) (kC (.int 0))))
  (zSeq (zSet 5 (gVar 9))
  (zSet 7 (kBin gNeA (kIx (kQ (kIx (kQ (gVar 8)) (kC (.int 0)))) (kC (.int 0))) (kC (.str "none")))))))))) zNext)))
noncomputable abbrev lT : Rho → Option Fl := (zSeq (zSet 12 (kIx (kQ (gVar 10)) (kData (kCallD d_law_mix (kCons (gVar 1) (kCons (kBin gAdd (kBin gAdd (kC (.int 300)) (kBin gMul (kC (.int 6)) (kData (kCall gLen (gLst 6))))) (gVar 11)) (kCons (kData (kCall gLen (kQ (gVar 10)))) kNil)))))))
  (zIf (kB (kBin gNeA (kData (kCall gRepr (kCons (kData (kCallD d_behind (kCons (gVar 5) (kCons (gVar 12) kNil)))) kNil))) (kData (kCall gRepr (kCons (kData (kCallD d_law_behind (kCons (gVar 5) (kCons (gVar 12) kNil)))) kNil))))) (zRet (kFr (kC (.bool false)))) zNext))
noncomputable abbrev lP : Rho → Option Fl := (zSeq (zDnew 15)
  (zSeq (zFor (kQ (kIx (kQ (gVar 5)) (kC (.int 2)))) (sTup 2 (sCons (sName 16) (sCons (sName 17) sNil))) (zDput 15 (gVar 17) (gVar 16)))
  (zSeq (zFor (kRange1 (kCons (kData (kCall gLen (kQ (gVar 14)))) kNil)) (sName 18) (zDput 15 (kIx (kQ (gVar 14)) (gVar 18)) (kIx (kQ (kIx (kQ (gVar 5)) (kC (.int 0)))) (gVar 18))))
  (zSeq (zSet 19 (kData (kCall gTuple (kRL (kComp (List.map (fun x => x.2) ([("name", 16)] : List (Str × Nat))) (kRange1 (kCons (kData (kCall gLen (kQ (kIx (kQ (gVar 2)) (kC (.int 0)))))) kNil)) (sName 16) kYes (kDget 15 (gVar 16)))))))
  (zIf (kOr (kB (kBin gNeA (kData (kCall gRepr (kCons (kData (kCallD d_whole_plan (kCons (gVar 5) (kCons (gVar 14) kNil)))) kNil))) (kData (kCall gRepr (kCons (gVar 19) kNil))))) (kOr (kNot (kB (kData (kCallD d_law_is_plan (kCons (gVar 2) (kCons (gVar 19) kNil)))))) (kB (kBin gNeA (kData (kCallD d_law_sum_by (kCons (kIx (kQ (gVar 2)) (kC (.int 0))) (kCons (gVar 19) kNil)))) (kBin gAdd (gVar 13) (kData (kCallD d_law_sum_by (kCons (kIx (kQ (kIx (kQ (gVar 5)) (kC (.int 1)))) (kC (.int 0))) (kCons (gVar 14) kNil))))))))) (zRet (kFr (kC (.bool false)))) zNext)))))
def extra : List Step := [(.row, [99]), (.top, [0, 99]), (.top, [-1, 0]), (.fix, [9, 0]), (.non, []), (.cut, [0]), (.fix, [0, 13])]
theorem extra_wf : ∀ st ∈ extra, WfP st := by
  intro st h
  simp only [extra, List.mem_cons, List.not_mem_nil, or_false] at h
  rcases h with rfl | rfl | rfl | rfl | rfl | rfl | rfl <;> exact ⟨by decide, by decide⟩
theorem tried_len {s : Stt} (w : WfS s) : (tried s).length ≤ 60 := by
  have h7 := w.r6
  have h6 := w.m6
  have hn := w.ln
  have h1 := flat_len (tTop s.k.r.length) 6 (List.range s.n.length) fun k _ => by unfold tTop; simp; exact h7
  have h2 := flat_len (tFix s.k.t) 2 (List.range s.n.length) fun k _ => Nat.le_refl _
  rw [List.length_range] at h1 h2
  unfold tried tNon tRow
  simp only [List.length_append, List.length_map, List.length_range]
  omega
theorem lT_ok {K : PySem.W.Frag} {ns ds : List Int} {k0 : Tk} {s : Stt} (hd : Dr ds) (h : Inv k0 s) (acc : List Step) (ha : acc.length ≤ 1000) (T : List Step) (hT : ∀ st ∈ T, WfP st) (hT0 : 0 < T.length) (hT1 : T.length ≤ 1000) (t : Nat) (ht : t < 5) (x3 x4 x7 x8 x9 x12 x13 x14 x15 x16 x17 x18 x19 x20 : Sl) :
    ∃ x12', lT [.sc K ns, .fr (iL ds), .fr (eT k0), x3, x4, .fr (eS s), .ow (acc.map eStep), x7, x8, x9, .fr (.list (T.map eStep)), .fr (.int t), x12, x13, x14, x15, x16, x17, x18, x19, x20] = some (.nx [.sc K ns, .fr (iL ds), .fr (eT k0), x3, x4, .fr (eS s), .ow (acc.map eStep), x7, x8, x9, .fr (.list (T.map eStep)), .fr (.int t), x12', x13, x14, x15, x16, x17, x18, x19, x20]) := by
  obtain ⟨m0, m1, m2⟩ := mx_spec hd (k := 300 + 6 * (acc.length : Int) + t) (many := T.length) (by omega) (by omega)
  obtain ⟨q, hq⟩ := Int.eq_ofNat_of_zero_le m1
  have hq1 : q < T.length := by omega
  have hat := atI_map_nat eStep T q hq1
  have hst := hT _ (List.getElem_mem hq1)
  generalize T[q] = st at hat hst
  obtain ⟨r1, a1, a2⟩ := v_behind s h.wf st hst
  obtain ⟨r2, b1, b2⟩ := v_lbehind s h.wf st hst
  have hr := repr_ne (x := r1.data) (y := r2.data) (n := 40000) (k := 4) (by rw [a2]; exact rb_eO fun s' e => (beh_inv h e).1) (by rw [a2, b2]) (by decide) (by decide)
  refine ⟨.fr (eStep st), ?_⟩
  have e1 : zSet 12 (kIx (kQ (gVar 10)) (kData (kCallD d_law_mix (kCons (gVar 1) (kCons (kBin gAdd (kBin gAdd (kC (.int 300)) (kBin gMul (kC (.int 6)) (kData (kCall gLen (gLst 6))))) (gVar 11)) (kCons (kData (kCall gLen (kQ (gVar 10)))) kNil)))))) [.sc K ns, .fr (iL ds), .fr (eT k0), x3, x4, .fr (eS s), .ow (acc.map eStep), x7, x8, x9, .fr (.list (T.map eStep)), .fr (.int t), x12, x13, x14, x15, x16, x17, x18, x19, x20] = some (.nx [.sc K ns, .fr (iL ds), .fr (eT k0), x3, x4, .fr (eS s), .ow (acc.map eStep), x7, x8, x9, .fr (.list (T.map eStep)), .fr (.int t), .fr (eStep st), x13, x14, x15, x16, x17, x18, x19, x20]) := by
    simp -implicitDefEqProofs only [iL] at m0
    simp -implicitDefEqProofs [iL, okMul_of (i := (6 : Int)) (j := (acc.length : Int)) (by decide), m0, hq, hat]
  have e2 : kB (kBin gNeA (kData (kCall gRepr (kCons (kData (kCallD d_behind (kCons (gVar 5) (kCons (gVar 12) kNil)))) kNil))) (kData (kCall gRepr (kCons (kData (kCallD d_law_behind (kCons (gVar 5) (kCons (gVar 12) kNil)))) kNil)))) [.sc K ns, .fr (iL ds), .fr (eT k0), x3, x4, .fr (eS s), .ow (acc.map eStep), x7, x8, x9, .fr (.list (T.map eStep)), .fr (.int t), .fr (eStep st), x13, x14, x15, x16, x17, x18, x19, x20] = some false := by
    have g1 := gRepr_ok (d := r1.data) (n := 40000) (k := 4) (by rw [a2]; exact rb_eO fun s' e => (beh_inv h e).1) (by decide) (by decide)
    have e : r2.data = r1.data := by rw [a2, b2]
    simp -implicitDefEqProofs only [kB, kBin, kData, kCall, kCallD, kCons, kNil, gVar, List.getElem?_cons_succ, List.getElem?_cons_zero, Option.bind_some, a1, b1, e, g1, data_fr]
    show (some (PyData.bool (!(_ == _)))).bind asB = _
    rw [beq_self_eq_true]
    rfl
  simp -implicitDefEqProofs only [lT, zSeq, e1, Option.bind_some, zIf, e2]
  rfl
end K80

set_option Elab.async false
set_option linter.all false
set_option maxRecDepth 100000
set_option maxHeartbeats 2000000
namespace K80
open PySem PySem.Spec L2 DL
/-- the law's state at the loop's head -/
abbrev lr (K : PySem.W.Frag) (ns ds : List Int) (k0 : Tk) (x3 x4 : Sl) (s : Stt) (acc : List Step) (b : Bool) (x8 x9 x10 x11 x12 x20 : Sl) : Rho :=
  [.sc K ns, .fr (iL ds), .fr (eT k0), x3, x4, .fr (eS s), .ow (acc.map eStep), .fr (.bool b), x8, x9, x10, x11, x12, .un, .un, .un, .un, .un, .un, .un, x20]
abbrev good (s : Stt) : List Step := (tried s).filter fun st => (beh s st).isSome
section
variable {K : PySem.W.Frag} {ns ds : List Int} {k0 : Tk} {x3 x4 : Sl}
theorem e_good {s : Stt} (h : Inv k0 s) (acc : List Step) (x8 x9 x10 x11 x12 x20 : Sl) : zSet 8 (kData (kComp (List.map (fun x => x.2) ([("step", 20)] : List (Str × Nat))) (kQ (kData (kCallD d_law_tried (kCons (gVar 5) kNil)))) (sName 20) (kB (kBin gIsNot (kData (kCallD d_law_behind (kCons (gVar 5) (kCons (gVar 20) kNil)))) (kC .none))) (gVar 20))) (lr K ns ds k0 x3 x4 s acc true x8 x9 x10 x11 x12 x20)
    = some (.nx (lr K ns ds k0 x3 x4 s acc true (.fr (.list ((good s).map eStep))) x9 x10 x11 x12 x20)) := by
  have ht := v_tried s h.wf
  have c1 : compGo (sName 20) (kB (kBin gIsNot (kData (kCallD d_law_behind (kCons (gVar 5) (kCons (gVar 20) kNil)))) (kC .none))) (gVar 20) (lr K ns ds k0 x3 x4 s acc true x8 x9 x10 x11 x12 .un) ((tried s).map eStep) = some ((good s).map eStep) := by
    refine compGo_map _ _ _ _ _ _ _ _ fun st hst => ⟨_, rfl, ?_, fun _ => rfl⟩
    obtain ⟨r, a1, a2⟩ := v_lbehind s h.wf st (tried_wf s h.wf st hst)
    simp -implicitDefEqProofs only [lr, List.set_cons_succ, List.set_cons_zero, kB, kBin, kData, kCallD, kCons, kNil, gVar, List.getElem?_cons_succ, List.getElem?_cons_zero, Option.bind_some, a1, kC, a2, isNot_eO, asB]
  have f1 := fit_of (ys := (good s).map eStep) (by
    rw [List.length_map]
    have : (good s).length ≤ (tried s).length := List.length_filter_le _ _
    have := tried_len h.wf
    omega)
  have w1 : wipeE (lr K ns ds k0 x3 x4 s acc true x8 x9 x10 x11 x12 x20) (List.map (fun x => x.2) ([("step", 20)] : List (Str × Nat))) = lr K ns ds k0 x3 x4 s acc true x8 x9 x10 x11 x12 .un := rfl
  have s1 : kQ (kData (kCallD d_law_tried (kCons (gVar 5) kNil))) (lr K ns ds k0 x3 x4 s acc true x8 x9 x10 x11 x12 x20) = some ((tried s).map eStep) := by
    simp -implicitDefEqProofs only [lr, kQ, kData, kCallD, kCons, kNil, gVar, List.getElem?_cons_succ, List.getElem?_cons_zero, Option.bind_some, ht, data_fr, asQ]
  simp -implicitDefEqProofs only [zSet, kData, kComp, s1, Option.bind_some, w1, c1, f1]
  rfl
theorem e_none {s : Stt} (h : Inv k0 s) (hf : fs s = none) (acc : List Step) (x8 x9 x10 x11 x12 x20 : Sl) : ∃ x8', lB (lr K ns ds k0 x3 x4 s acc true x8 x9 x10 x11 x12 x20) = some (.nx (lr K ns ds k0 x3 x4 s acc false x8' x9 x10 x11 x12 x20)) := by
  have hg : good s = [] := by
    have := head_filter s
    rw [hf] at this
    exact List.head?_eq_none_iff.mp this
  refine ⟨.fr (.list ((good s).map eStep)), ?_⟩
  have e1 := e_good (K := K) (ns := ns) (ds := ds) (x3 := x3) (x4 := x4) h acc x8 x9 x10 x11 x12 x20
  have e2 : zSet 7 (kBin gNeA (gVar 8) (kData (kLst kNil))) (lr K ns ds k0 x3 x4 s acc true (.fr (.list ((good s).map eStep))) x9 x10 x11 x12 x20) = some (.nx (lr K ns ds k0 x3 x4 s acc false (.fr (.list ((good s).map eStep))) x9 x10 x11 x12 x20)) := by
    have := ne_nil (good s)
    have z : kData (kLst kNil) (lr K ns ds k0 x3 x4 s acc true (.fr (.list ((good s).map eStep))) x9 x10 x11 x12 x20) = some (.list []) := by simp -implicitDefEqProofs
    simp -implicitDefEqProofs only [zSet, kBin, z, lr, gVar, List.getElem?_cons_succ, List.getElem?_cons_zero, Option.bind_some, this]
    rw [hg]
    rfl
  have e3 : kB (gVar 7) (lr K ns ds k0 x3 x4 s acc false (.fr (.list ((good s).map eStep))) x9 x10 x11 x12 x20) = some false := rfl
  simp -implicitDefEqProofs only [lB, zSeq, e1, e2, Option.bind_some, zIf, e3]
  rfl
theorem e_some (hd : Dr ds) {s s' : Stt} (w0 : WfT k0) (h : Inv k0 s) {st : Step} (hf : fs s = some st) (hb : beh s st = some s') (acc : List Step) (ha : acc.length < 1000) (x8 x9 x10 x11 x12 x20 : Sl) :
    ∃ x8' x9' x10' x11' x12', lB (lr K ns ds k0 x3 x4 s acc true x8 x9 x10 x11 x12 x20) = some (.nx (lr K ns ds k0 x3 x4 s' (acc ++ [st]) (!decide (st.1 = .non)) x8' x9' x10' x11' x12' x20)) := by
  have hmem := (fs_some hf).1
  have hst := tried_wf s h.wf st hmem
  obtain ⟨gs, hg⟩ : ∃ gs, good s = st :: gs := by
    have := head_filter s
    rw [hf] at this
    cases hG : good s with
    | nil => unfold good at hG; rw [hG] at this; cases this
    | cons a gs => unfold good at hG; rw [hG] at this; cases this; exact ⟨gs, rfl⟩
  obtain ⟨h', hcase⟩ := beh_inv h hb
  have e1 := e_good (K := K) (ns := ns) (ds := ds) (x3 := x3) (x4 := x4) h acc x8 x9 x10 x11 x12 x20
  rw [hg] at e1
  generalize hgl : (st :: gs).map eStep = gl at e1
  have hat : atI gl 0 = some (eStep st) := by rw [← hgl]; exact atI_zero _ _
  have e2 : zSet 7 (kBin gNeA (gVar 8) (kData (kLst kNil))) (lr K ns ds k0 x3 x4 s acc true (.fr (.list gl)) x9 x10 x11 x12 x20) = some (.nx (lr K ns ds k0 x3 x4 s acc true (.fr (.list gl)) x9 x10 x11 x12 x20)) := by
    have := ne_nil (st :: gs)
    rw [hgl] at this
    have z : kData (kLst kNil) (lr K ns ds k0 x3 x4 s acc true (.fr (.list gl)) x9 x10 x11 x12 x20) = some (.list []) := by simp -implicitDefEqProofs
    simp -implicitDefEqProofs only [zSet, kBin, z, lr, gVar, List.getElem?_cons_succ, List.getElem?_cons_zero, Option.bind_some, this]
    rfl
  have e3 : kB (gVar 7) (lr K ns ds k0 x3 x4 s acc true (.fr (.list gl)) x9 x10 x11 x12 x20) = some true := rfl
  have g0 : ∀ y9 y10 y11 y12 s acc, kIx (kQ (gVar 8)) (kC (.int 0)) (lr K ns ds k0 x3 x4 s acc true (.fr (.list gl)) y9 y10 y11 y12 x20) = some (eStep st) := fun y9 y10 y11 y12 s acc => by
    simp -implicitDefEqProofs only [lr, kIx, kQ, kC, gVar, List.getElem?_cons_succ, List.getElem?_cons_zero, Option.bind_some, asQ, hat]
  obtain ⟨r1, a1, a2⟩ := v_behind s h.wf st hst
  obtain ⟨r2, b1, b2⟩ := v_lbehind s h.wf st hst
  rw [hb] at a2 b2
  have e4 : zSet 9 (kData (kCallD d_law_behind (kCons (gVar 5) (kCons (kIx (kQ (gVar 8)) (kC (.int 0))) kNil)))) (lr K ns ds k0 x3 x4 s acc true (.fr (.list gl)) x9 x10 x11 x12 x20) = some (.nx (lr K ns ds k0 x3 x4 s acc true (.fr (.list gl)) (.fr (eS s')) x10 x11 x12 x20)) := by
    have z : gVar 5 (lr K ns ds k0 x3 x4 s acc true (.fr (.list gl)) x9 x10 x11 x12 x20) = some (eS s) := rfl
    simp -implicitDefEqProofs only [zSet, kData, kCallD, kCons, kNil, z, g0, Option.bind_some, b1, b2]
    rfl
  have kp : d_law_kept [eT k0, eS s, eStep st, eS s'] = some (.ok (.fr (.bool true))) := by
    rcases hcase with ⟨c1, c2, c3, i, c4⟩ | ⟨c1, c2, c3⟩
    · obtain ⟨a, xs⟩ := st
      simp only at c1 c4
      subst c1 c4
      exact v_kept_non k0 s s' h.wf i c3
    · exact v_kept k0 w0 s s' h.wf h'.wf st c1 h.nmF h'.nmF c2
  have g1 := gRepr_ok (d := eS s') (n := 40000) (k := 4) (rb_state h') (by decide) (by decide)
  have e5 : kOr (kB (kBin gNeA (kData (kCall gRepr (kCons (kData (kCallD d_behind (kCons (gVar 5) (kCons (kIx (kQ (gVar 8)) (kC (.int 0))) kNil)))) kNil))) (kData (kCall gRepr (kCons (gVar 9) kNil))))) (kNot (kB (kData (kCallD d_law_kept (kCons (gVar 2) (kCons (gVar 5) (kCons (kIx (kQ (gVar 8)) (kC (.int 0))) (kCons (gVar 9) kNil)))))))) (lr K ns ds k0 x3 x4 s acc true (.fr (.list gl)) (.fr (eS s')) x10 x11 x12 x20) = some false := by
    have z : gVar 5 (lr K ns ds k0 x3 x4 s acc true (.fr (.list gl)) (.fr (eS s')) x10 x11 x12 x20) = some (eS s) := rfl
    have z2 : gVar 9 (lr K ns ds k0 x3 x4 s acc true (.fr (.list gl)) (.fr (eS s')) x10 x11 x12 x20) = some (eS s') := rfl
    have z3 : gVar 2 (lr K ns ds k0 x3 x4 s acc true (.fr (.list gl)) (.fr (eS s')) x10 x11 x12 x20) = some (eT k0) := rfl
    have e : ∀ x : Str, gNeA (.str x) (.str x) = some (.bool false) := fun x => by
      show some (PyData.bool (!(x == x))) = _
      rw [beq_self_eq_true]; rfl
    simp -implicitDefEqProofs only [kOr, kNot, kB, kBin, kData, kCall, kCallD, kCons, kNil, z, z2, z3, g0, Option.bind_some, a1, a2, eO, g1, data_fr, e, asB, kp]
    rfl
  have tr := v_tried s h.wf
  have tl := tried_len h.wf
  have hT : ∀ x ∈ tried s ++ extra, WfP x := fun x hx => (List.mem_append.mp hx).elim (tried_wf s h.wf x) (extra_wf x)
  have e6 : zSet 10 (kBin gAdd (kData (kCallD d_law_tried (kCons (gVar 5) kNil))) (kData (kLst (kCons (kTup (kCons (kC (.str "row")) (kCons (kC (.int 99)) kNil))) (kCons (kTup (kCons (kC (.str "top")) (kCons (kC (.int 0)) (kCons (kC (.int 99)) kNil)))) (kCons (kTup (kCons (kC (.str "top")) (kCons (kUn gNeg (kC (.int 1))) (kCons (kC (.int 0)) kNil)))) (kCons (kTup (kCons (kC (.str "fix")) (kCons (kC (.int 9)) (kCons (kC (.int 0)) kNil)))) (kCons (kTup (kCons (kC (.str "none")) kNil)) (kCons (kTup (kCons (kC (.str "cut")) (kCons (kC (.int 0)) kNil))) (kCons (kTup (kCons (kC (.str "fix")) (kCons (kC (.int 0)) (kCons (kC (.int 13)) kNil)))) kNil)))))))))) (lr K ns ds k0 x3 x4 s acc true (.fr (.list gl)) (.fr (eS s')) x10 x11 x12 x20) = some (.nx (lr K ns ds k0 x3 x4 s acc true (.fr (.list gl)) (.fr (eS s')) (.fr (.list ((tried s ++ extra).map eStep))) x11 x12 x20)) := by
    have z : kData (kCallD d_law_tried (kCons (gVar 5) kNil)) (lr K ns ds k0 x3 x4 s acc true (.fr (.list gl)) (.fr (eS s')) x10 x11 x12 x20) = some (.list ((tried s).map eStep)) := by
      simp -implicitDefEqProofs only [lr, kData, kCallD, kCons, kNil, gVar, List.getElem?_cons_succ, List.getElem?_cons_zero, Option.bind_some, tr, data_fr]
    have z2 : ∀ ρ, kData (kLst (kCons (kTup (kCons (kC (.str "row")) (kCons (kC (.int 99)) kNil))) (kCons (kTup (kCons (kC (.str "top")) (kCons (kC (.int 0)) (kCons (kC (.int 99)) kNil)))) (kCons (kTup (kCons (kC (.str "top")) (kCons (kUn gNeg (kC (.int 1))) (kCons (kC (.int 0)) kNil)))) (kCons (kTup (kCons (kC (.str "fix")) (kCons (kC (.int 9)) (kCons (kC (.int 0)) kNil)))) (kCons (kTup (kCons (kC (.str "none")) kNil)) (kCons (kTup (kCons (kC (.str "cut")) (kCons (kC (.int 0)) kNil))) (kCons (kTup (kCons (kC (.str "fix")) (kCons (kC (.int 0)) (kCons (kC (.int 13)) kNil)))) kNil)))))))) ρ = some (.list (extra.map eStep)) := fun ρ => by
      simp -implicitDefEqProofs [extra, nm]
    have z3 : gAdd (.list ((tried s).map eStep)) (.list (extra.map eStep)) = some (.list ((tried s ++ extra).map eStep)) := by
      show (if _ then _ else _) = _
      rw [if_pos (by rw [List.length_map, List.length_map]; show (tried s).length + 7 ≤ 16777216; omega), List.map_append]
    simp -implicitDefEqProofs only [zSet, kBin, z, z2, Option.bind_some, z3]
    rfl
  have e7 : ∃ x11' x12', zFor (kRange1 (kCons (kC (.int 5)) kNil)) (sName 11) lT (lr K ns ds k0 x3 x4 s acc true (.fr (.list gl)) (.fr (eS s')) (.fr (.list ((tried s ++ extra).map eStep))) x11 x12 x20) = some (.nx (lr K ns ds k0 x3 x4 s acc true (.fr (.list gl)) (.fr (eS s')) (.fr (.list ((tried s ++ extra).map eStep))) x11' x12' x20)) := by
    obtain ⟨ρ', q1, y11, y12, rfl⟩ := forGo_ix (S := Unit) (fun i : Nat => PyData.int (i : Int)) (sName 11) lT (fun _ _ ρ => ∃ x11 x12, ρ = lr K ns ds k0 x3 x4 s acc true (.fr (.list gl)) (.fr (eS s')) (.fr (.list ((tried s ++ extra).map eStep))) x11 x12 x20) (fun _ _ => ()) (List.range 5) 0 () _ ⟨x11, x12, rfl⟩ fun j a haa _ ρ ⟨y11, y12, e⟩ => by
      subst e
      obtain ⟨hj, rfl⟩ := range_get haa
      obtain ⟨x12', q⟩ := lT_ok (K := K) (ns := ns) hd h acc (by omega) (tried s ++ extra) hT (by rw [List.length_append]; show 0 < (tried s).length + 7; omega) (by rw [List.length_append]; show (tried s).length + 7 ≤ 1000; omega) a hj x3 x4 (.fr (.bool true)) (.fr (.list gl)) (.fr (eS s')) y12 .un .un .un .un .un .un .un x20
      exact ⟨_, _, rfl, q, _, _, rfl⟩
    refine ⟨y11, y12, ?_⟩
    have s5 := sm_of (j := (5 : Int)) (by omega) (by omega)
    have z : kRange1 (kCons (kC (.int 5)) kNil) (lr K ns ds k0 x3 x4 s acc true (.fr (.list gl)) (.fr (eS s')) (.fr (.list ((tried s ++ extra).map eStep))) x11 x12 x20) = some (rangeD 0 1 5) := by simp -implicitDefEqProofs [s5]
    simp -implicitDefEqProofs only [zFor, z, Option.bind_some]
    rw [rangeD_zero]
    exact q1
  obtain ⟨y11, y12, e7⟩ := e7
  have e8 : zApp 6 (kIx (kQ (gVar 8)) (kC (.int 0))) (lr K ns ds k0 x3 x4 s acc true (.fr (.list gl)) (.fr (eS s')) (.fr (.list ((tried s ++ extra).map eStep))) y11 y12 x20) = some (.nx (lr K ns ds k0 x3 x4 s (acc ++ [st]) true (.fr (.list gl)) (.fr (eS s')) (.fr (.list ((tried s ++ extra).map eStep))) y11 y12 x20)) := by
    have : (acc.map eStep).length < line := by rw [List.length_map]; show acc.length < 16777216; omega
    have z := g0 (.fr (eS s')) (.fr (.list ((tried s ++ extra).map eStep))) y11 y12 s acc
    show ((kIx (kQ (gVar 8)) (kC (.int 0)) (lr K ns ds k0 x3 x4 s acc true (.fr (.list gl)) (.fr (eS s')) (.fr (.list ((tried s ++ extra).map eStep))) y11 y12 x20)).bind fun d => if (acc.map eStep).length < line then some (Fl.nx ((lr K ns ds k0 x3 x4 s acc true (.fr (.list gl)) (.fr (eS s')) (.fr (.list ((tried s ++ extra).map eStep))) y11 y12 x20).set 6 (.ow (acc.map eStep ++ [d])))) else none) = _
    rw [z, Option.bind_some, if_pos this]
    simp -implicitDefEqProofs only [lr, List.map_append]
    rfl
  have e9 : zSet 5 (gVar 9) (lr K ns ds k0 x3 x4 s (acc ++ [st]) true (.fr (.list gl)) (.fr (eS s')) (.fr (.list ((tried s ++ extra).map eStep))) y11 y12 x20) = some (.nx (lr K ns ds k0 x3 x4 s' (acc ++ [st]) true (.fr (.list gl)) (.fr (eS s')) (.fr (.list ((tried s ++ extra).map eStep))) y11 y12 x20)) := rfl
  have e10 : zSet 7 (kBin gNeA (kIx (kQ (kIx (kQ (gVar 8)) (kC (.int 0)))) (kC (.int 0))) (kC (.str "none"))) (lr K ns ds k0 x3 x4 s' (acc ++ [st]) true (.fr (.list gl)) (.fr (eS s')) (.fr (.list ((tried s ++ extra).map eStep))) y11 y12 x20) = some (.nx (lr K ns ds k0 x3 x4 s' (acc ++ [st]) (!decide (st.1 = .non)) (.fr (.list gl)) (.fr (eS s')) (.fr (.list ((tried s ++ extra).map eStep))) y11 y12 x20)) := by
    have z := g0 (.fr (eS s')) (.fr (.list ((tried s ++ extra).map eStep))) y11 y12 s' (acc ++ [st])
    have z2 : kIx (kQ (kIx (kQ (gVar 8)) (kC (.int 0)))) (kC (.int 0)) (lr K ns ds k0 x3 x4 s' (acc ++ [st]) true (.fr (.list gl)) (.fr (eS s')) (.fr (.list ((tried s ++ extra).map eStep))) y11 y12 x20) = some (.str (nm st.1)) := by
      have y : ∀ ρ, kIx (kQ (gVar 8)) (kC (.int 0)) ρ = some (eStep st) → kIx (kQ (kIx (kQ (gVar 8)) (kC (.int 0)))) (kC (.int 0)) ρ = some (.str (nm st.1)) := fun ρ hρ => by
        show ((kQ (kIx (kQ (gVar 8)) (kC (.int 0))) ρ).bind _) = _
        show (((kIx (kQ (gVar 8)) (kC (.int 0)) ρ).bind asQ).bind _) = _
        rw [hρ]
        exact atI_zero _ _
      exact y _ z
    simp -implicitDefEqProofs only [zSet, kBin, z2, kC, Option.bind_some]
    show (some (PyData.bool (!(nm st.1 == ("none" : Str))))).bind _ = _
    rw [nm_non]
    rfl
  refine ⟨.fr (.list gl), .fr (eS s'), .fr (.list ((tried s ++ extra).map eStep)), y11, y12, ?_⟩
  simp -implicitDefEqProofs only [lB, zSeq, e1, e2, Option.bind_some, zIf, e3, if_true, e4, e5, e6]
  simp -implicitDefEqProofs only [Bool.false_eq_true, if_false, zNext, zSeq, e6, Option.bind_some]
  rw [e7]
  simp -implicitDefEqProofs only [Option.bind_some, e8, e9, e10]
end
end K80

set_option Elab.async false
set_option linter.all false
set_option maxRecDepth 100000
set_option maxHeartbeats 2000000
namespace K80
open PySem PySem.Spec L2 DL
section
variable {K : PySem.W.Frag} {ns ds : List Int} {k0 : Tk} {x3 x4 : Sl}
theorem law_loop (hd : Dr ds) (w0 : WfT k0) : ∀ (n : Nat) (s : Stt) (acc : List Step) (N : Nat) (x8 x9 x10 x11 x12 x20 : Sl), Inv k0 s → mu s < n → acc.length + n ≤ 1000 → n + 2 ≤ N →
    ∃ x8' x9' x10' x11' x12', whileGo (kB (gVar 7)) lB N (lr K ns ds k0 x3 x4 s acc true x8 x9 x10 x11 x12 x20) = some (.nx (lr K ns ds k0 x3 x4 (wear n s acc).2 (wear n s acc).1 false x8' x9' x10' x11' x12' x20)) ∧ Inv k0 (wear n s acc).2 ∧ (wear n s acc).1.length ≤ 1000 ∧ ((∀ st ∈ acc, WfP st) → ∀ st ∈ (wear n s acc).1, WfP st)
  | 0, s, acc, N, x8, x9, x10, x11, x12, x20, _, h, _, _ => by omega
  | n + 1, s, acc, 0, x8, x9, x10, x11, x12, x20, _, _, _, h => by omega
  | n + 1, s, acc, 1, x8, x9, x10, x11, x12, x20, _, _, _, h => by omega
  | n + 1, s, acc, N + 2, x8, x9, x10, x11, x12, x20, h, hm, hl, hN => by
    have hT : kB (gVar 7) (lr K ns ds k0 x3 x4 s acc true x8 x9 x10 x11 x12 x20) = some true := rfl
    have hF : ∀ s acc x8 x9 x10 x11 x12, whileGo (kB (gVar 7)) lB (N + 1) (lr K ns ds k0 x3 x4 s acc false x8 x9 x10 x11 x12 x20) = some (.nx (lr K ns ds k0 x3 x4 s acc false x8 x9 x10 x11 x12 x20)) := fun s acc x8 x9 x10 x11 x12 => rfl
    cases hf : fs s with
    | none =>
      have e1 : wear (n + 1) s acc = (acc, s) := by unfold wear; rw [hf]
      obtain ⟨x8', q⟩ := e_none (K := K) (ns := ns) (ds := ds) (x3 := x3) (x4 := x4) h hf acc x8 x9 x10 x11 x12 x20
      rw [e1]
      refine ⟨x8', x9, x10, x11, x12, ?_, h, by show acc.length ≤ 1000; omega, fun z => z⟩
      rw [whileGo, hT, Option.bind_some, if_pos rfl, q, Option.bind_some]
      exact hF _ _ _ _ _ _ _
    | some st =>
      obtain ⟨hmem, s', hs'⟩ := fs_some hf
      obtain ⟨h', hcase⟩ := beh_inv h hs'
      obtain ⟨y8, y9, y10, y11, y12, q⟩ := e_some (K := K) (ns := ns) (x3 := x3) (x4 := x4) hd w0 h hf hs' acc (by omega) x8 x9 x10 x11 x12 x20
      have hst := tried_wf s h.wf st hmem
      have happ : (∀ x ∈ acc, WfP x) → ∀ x ∈ acc ++ [st], WfP x := fun z x hx => (List.mem_append.mp hx).elim (z x) fun hx => by simp at hx; rw [hx]; exact hst
      by_cases hn : st.1 = .non
      · have e1 : wear (n + 1) s acc = (acc ++ [st], s') := by unfold wear; rw [hf]; simp only [hs', if_pos hn]
        rw [e1]
        rw [decide_eq_true hn] at q
        refine ⟨y8, y9, y10, y11, y12, ?_, h', by simp; omega, happ⟩
        rw [whileGo, hT, Option.bind_some, if_pos rfl, q, Option.bind_some]
        exact hF _ _ _ _ _ _ _
      · have e1 : wear (n + 1) s acc = wear n s' (acc ++ [st]) := by
          conv => lhs; unfold wear
          rw [hf]
          simp only [hs', if_neg hn]
        have hmu : mu s' < mu s := by
          rcases hcase with ⟨z, _⟩ | ⟨_, _, z⟩
          · exact absurd z hn
          · exact z
        rw [decide_eq_false hn] at q
        obtain ⟨z8, z9, z10, z11, z12, p1, p2, p3, p4⟩ := law_loop hd w0 n s' (acc ++ [st]) (N + 1) y8 y9 y10 y11 y12 x20 h' (by omega) (by rw [List.length_append]; simp; omega) (by omega)
        rw [e1]
        refine ⟨z8, z9, z10, z11, z12, ?_, p2, p3, fun z => p4 (happ z)⟩
        rw [whileGo, hT, Option.bind_some, if_pos rfl, q, Option.bind_some]
        exact p1
end
/-! ### the dict -/
theorem getD2_map (kv : List (Int × D)) (j : Int) (d : D) (a : Int) : getD2 (kv.map fun x => if x.1 = j then (x.1, d) else x) a = if a = j ∧ (kv.any fun x => decide (x.1 = j)) = true then some d else getD2 kv a := by
  induction kv with
  | nil => simp [getD2]
  | cons x kv ih =>
    obtain ⟨k, e⟩ := x
    rw [List.map_cons]
    by_cases hk : k = j
    · rw [if_pos hk]
      by_cases hka : k = a
      · subst hka
        subst hk
        simp [getD2]
      · have : ¬ a = j := fun z => hka (hk.trans z.symm)
        simp [getD2, hka, ih, this]
    · rw [if_neg hk]
      by_cases hka : k = a
      · subst hka
        simp [getD2, hk]
      · show (if k = a then some e else getD2 (kv.map fun x => if x.1 = j then (x.1, d) else x) a) = if a = j ∧ (((k, e) :: kv).any fun x => decide (x.1 = j)) = true then some d else if k = a then some e else getD2 kv a
        rw [if_neg hka, if_neg hka, ih]
        have eq : (a = j ∧ (kv.any fun x => decide (x.1 = j)) = true) ↔ (a = j ∧ (((k, e) :: kv).any fun x => decide (x.1 = j)) = true) := by
          rw [List.any_cons, decide_eq_false hk, Bool.false_or]
        by_cases z : a = j ∧ (kv.any fun x => decide (x.1 = j)) = true
        · rw [if_pos z, if_pos (eq.mp z)]
        · rw [if_neg z, if_neg (fun y => z (eq.mpr y))]
theorem getD2_app (kv : List (Int × D)) (j : Int) (d : D) (a : Int) (h : (kv.any fun x => decide (x.1 = j)) = false) : getD2 (kv ++ [(j, d)]) a = if a = j then some d else getD2 kv a := by
  induction kv with
  | nil =>
    simp only [List.nil_append, getD2]
    by_cases z : j = a
    · rw [if_pos z, if_pos z.symm]
    · rw [if_neg z, if_neg (fun y => z y.symm)]
  | cons x kv ih =>
    obtain ⟨k, e⟩ := x
    rw [List.any_cons, Bool.or_eq_false_iff, decide_eq_false_iff_not] at h
    have := ih h.2
    rw [List.cons_append]
    by_cases hka : k = a
    · have : ¬ a = j := fun z => h.1 (hka.trans z)
      simp [getD2, hka, this]
    · simp [getD2, hka, this]
theorem getD2_put (kv : List (Int × D)) (j : Int) (d : D) (a : Int) : getD2 (putD kv j d) a = if a = j then some d else getD2 kv a := by
  unfold putD
  by_cases h : (kv.any fun x => decide (x.1 = j)) = true
  · rw [if_pos h, getD2_map]
    simp [h]
  · rw [if_neg h]
    exact getD2_app kv j d a (Bool.eq_false_iff.mpr h)
theorem putD_len (kv : List (Int × D)) (j : Int) (d : D) : (putD kv j d).length ≤ kv.length + 1 := by
  unfold putD
  split <;> simp
def putL (kv : List (Int × D)) (ps : List (Int × Int)) : List (Int × D) := ps.foldl (fun kv p => putD kv p.1 (.int p.2)) kv
theorem getD2_putL {m : Nat} {d : List Int} (a : Int) : ∀ (ps : List (Int × Int)) (kv : List (Int × D)), (∀ q ∈ ps, d.getD q.1.toNat 0 = q.2) → getD2 (putL kv ps) a = if a ∈ ps.map (·.1) then some (.int (d.getD a.toNat 0)) else getD2 kv a
  | [], kv, _ => by simp [putL]
  | q :: ps, kv, h => by
    have ih := getD2_putL (m := m) (d := d) a ps (putD kv q.1 (.int q.2)) fun x hx => h x (List.mem_cons_of_mem _ hx)
    show getD2 (putL (putD kv q.1 (.int q.2)) ps) a = _
    rw [ih, getD2_put]
    have hq := h q List.mem_cons_self
    by_cases h1 : a ∈ ps.map (·.1)
    · rw [if_pos h1, if_pos (by rw [List.map_cons]; exact List.mem_cons_of_mem _ h1)]
    · rw [if_neg h1]
      by_cases h2 : a = q.1
      · rw [if_pos h2, if_pos (by rw [List.map_cons, h2]; exact List.mem_cons_self), h2, hq]
      · rw [if_neg h2, if_neg (by rw [List.map_cons, List.mem_cons]; exact fun z => z.elim h2 h1)]
theorem exists_due {m : Nat} {ps : List (Int × Int)} (hp : (ps.map (·.1)).Perm (names m)) : ∃ d, IsDue m ps d := by
  have nd : (ps.map (·.1)).Nodup := by
    rw [hp.nodup_iff]
    unfold names
    rw [List.Nodup, List.pairwise_map]
    exact List.Pairwise.imp (fun {a b} (h : a < b) => by omega) List.pairwise_lt_range
  refine ⟨(List.range m).map fun i : Nat => ((ps.find? fun q => decide (q.1 = (i : Int))).map (·.2)).getD 0, by simp, fun q hq => ?_⟩
  have hm := mem_names.mp (hp.mem_iff.mp (List.mem_map.mpr ⟨q, hq, rfl⟩))
  refine ⟨hm.1, hm.2, ?_⟩
  have hlt : q.1.toNat < m := by omega
  rw [List.getD_eq_getElem?_getD, List.getElem?_map, List.getElem?_range hlt]
  show ((ps.find? fun r => decide (r.1 = ((q.1.toNat : Nat) : Int))).map (·.2)).getD 0 = q.2
  have e : ((q.1.toNat : Nat) : Int) = q.1 := by omega
  rw [e]
  have : ps.find? (fun r => decide (r.1 = q.1)) = some q := by
    clear hp hm hlt e
    induction ps with
    | nil => cases hq
    | cons r ps ih =>
      rw [List.map_cons, List.nodup_cons] at nd
      rcases List.mem_cons.mp hq with e | hq
      · rw [← e, List.find?_cons_of_pos (by simp)]
      · rw [List.find?_cons_of_neg]
        · exact ih nd.2 hq
        · simp
          intro z
          exact nd.1 (by rw [z]; exact List.mem_map.mpr ⟨q, hq, rfl⟩)
  rw [this]
  rfl
theorem base_zip (k0 : Tk) : ∀ (n p : List Int), base k0 (n.zip p) = dot (n.map fun a => k0.g.getD a.toNat 0) p
  | [], p => by unfold base dot; simp
  | _ :: _, [] => by unfold base dot; simp
  | a :: n, b :: p => by
    have ih := base_zip k0 n p
    rw [List.zip_cons_cons, List.map_cons, dot_cons, ← ih]
    unfold base
    simp
end K80

set_option Elab.async false
set_option linter.all false
set_option maxRecDepth 100000
set_option maxHeartbeats 2000000
namespace K80
open PySem PySem.Spec L2 DL
theorem zip_range : ∀ (n p : List Int), n.length = p.length → n.zip p = (List.range p.length).map fun i => (n.getD i 0, p.getD i 0)
  | [], [], _ => rfl
  | a :: n, b :: p, h => by
    have ih := zip_range n p (by simpa using h)
    rw [List.zip_cons_cons, ih, List.length_cons, List.range_succ_eq_map, List.map_cons, List.map_map]
    rfl
  | [], _ :: _, h => by simp at h
  | _ :: _, [], h => by simp at h
/-- behind the loop -/
abbrev pr (K : PySem.W.Frag) (ns ds : List Int) (k0 : Tk) (x3 x4 : Sl) (s : Stt) (stp : D) (x7 x8 x9 x10 x11 x12 : Sl) (B : Int) (x14 x15 x16 x17 x18 x19 x20 : Sl) : Rho :=
  [.sc K ns, .fr (iL ds), .fr (eT k0), x3, x4, .fr (eS s), .fr stp, x7, x8, x9, x10, x11, x12, .fr (.int B), x14, x15, x16, x17, x18, x19, x20]
section
variable {K : PySem.W.Frag} {ns ds : List Int} {k0 : Tk} {x3 x4 : Sl}
theorem lP_ok (w0 : Ckd k0) {s : Stt} (h : Inv k0 s) (stp : D) (x7 x8 x9 x10 x11 x12 : Sl) {p : List Int} (hp : p ∈ plansL s.k) (x15 x16 x17 x18 x19 x20 : Sl) :
    ∃ x15' x16' x17' x18' x19', lP (pr K ns ds k0 x3 x4 s stp x7 x8 x9 x10 x11 x12 (base k0 s.f) (.fr (tL p)) x15 x16 x17 x18 x19 x20) = some (.nx (pr K ns ds k0 x3 x4 s stp x7 x8 x9 x10 x11 x12 (base k0 s.f) (.fr (tL p)) x15' x16' x17' x18' x19' x20)) := by
  have isP := (mem_plans h.wf.ll p).mp hp
  have lp := isP.len
  have ln := h.wf.ln
  have h6 := h.wf.m6
  have lf := h.wf.lf
  have h5 := h.five
  have hkeys : ((s.f ++ s.n.zip p).map (·.1)).Perm (names k0.t.length) := by
    rw [List.map_append, show (s.n.zip p).map (·.1) = s.n from List.map_fst_zip (by omega)]
    exact List.perm_append_comm.trans h.perm
  obtain ⟨d, hd⟩ := exists_due hkeys
  have isD := h.whole p d isP hd
  -- the fixed ones
  obtain ⟨ρ1, q1, l1, y16, y17, rfl⟩ := forGo_ix (fun q : Int × Int => (pD q : D)) (sTup 2 (sCons (sName 16) (sCons (sName 17) sNil))) (zDput 15 (gVar 17) (gVar 16)) (fun i (kv : List (Int × D)) ρ => kv.length ≤ i ∧ ∃ x16 x17, ρ = pr K ns ds k0 x3 x4 s stp x7 x8 x9 x10 x11 x12 (base k0 s.f) (.fr (tL p)) (.dk kv) x16 x17 x18 x19 x20) (fun kv q => putD kv q.1 (.int q.2)) s.f 0 [] (pr K ns ds k0 x3 x4 s stp x7 x8 x9 x10 x11 x12 (base k0 s.f) (.fr (tL p)) (.dk []) x16 x17 x18 x19 x20) ⟨Nat.le_refl _, x16, x17, rfl⟩ fun j q hq kv ρ ⟨hl, x16, x17, e⟩ => by
    subst e
    have hj := (List.getElem?_eq_some_iff.mp hq).1
    have hkv : kv.length < 16777216 := by omega
    refine ⟨pr K ns ds k0 x3 x4 s stp x7 x8 x9 x10 x11 x12 (base k0 s.f) (.fr (tL p)) (.dk kv) (.fr (.int q.1)) (.fr (.int q.2)) x18 x19 x20, pr K ns ds k0 x3 x4 s stp x7 x8 x9 x10 x11 x12 (base k0 s.f) (.fr (tL p)) (.dk (putD kv q.1 (.int q.2))) (.fr (.int q.1)) (.fr (.int q.2)) x18 x19 x20, rfl, ?_, by have := putD_len kv q.1 (.int q.2); omega, _, _, rfl⟩
    simp -implicitDefEqProofs [pr, hkv]
  have e1 : s.f.foldl (fun kv q => putD kv q.1 (.int q.2)) [] = putL [] s.f := rfl
  rw [e1] at q1 l1
  generalize hk1 : putL [] s.f = kv1 at q1 l1
  -- the others
  obtain ⟨ρ2, q2, l2, y18, rfl⟩ := forGo_ix (fun i : Nat => PyData.int (i : Int)) (sName 18) (zDput 15 (kIx (kQ (gVar 14)) (gVar 18)) (kIx (kQ (kIx (kQ (gVar 5)) (kC (.int 0)))) (gVar 18))) (fun i (kv : List (Int × D)) ρ => kv.length ≤ 6 + i ∧ ∃ x18, ρ = pr K ns ds k0 x3 x4 s stp x7 x8 x9 x10 x11 x12 (base k0 s.f) (.fr (tL p)) (.dk kv) y16 y17 x18 x19 x20) (fun kv i => putD kv (s.n.getD i 0) (.int (p.getD i 0))) (List.range p.length) 0 kv1 (pr K ns ds k0 x3 x4 s stp x7 x8 x9 x10 x11 x12 (base k0 s.f) (.fr (tL p)) (.dk kv1) y16 y17 x18 x19 x20) ⟨by omega, x18, rfl⟩ fun j i hi kv ρ ⟨hl, x18, e⟩ => by
    subst e
    obtain ⟨hj, rfl⟩ := range_get hi
    have hkv : kv.length < 16777216 := by omega
    have a1 := atI_iL p i hj
    have a2 := atI_iL s.n i (by omega)
    refine ⟨pr K ns ds k0 x3 x4 s stp x7 x8 x9 x10 x11 x12 (base k0 s.f) (.fr (tL p)) (.dk kv) y16 y17 (.fr (.int i)) x19 x20, pr K ns ds k0 x3 x4 s stp x7 x8 x9 x10 x11 x12 (base k0 s.f) (.fr (tL p)) (.dk (putD kv (s.n.getD i 0) (.int (p.getD i 0)))) y16 y17 (.fr (.int i)) x19 x20, rfl, ?_, by have := putD_len kv (s.n.getD i 0) (.int (p.getD i 0)); omega, _, rfl⟩
    simp -implicitDefEqProofs [-List.getD_eq_getElem?_getD, pr, hkv, a1, a2]
  have e2 : (List.range p.length).foldl (fun kv i => putD kv (s.n.getD i 0) (.int (p.getD i 0))) kv1 = putL [] (s.f ++ s.n.zip p) := by
    unfold putL
    rw [List.foldl_append, zip_range s.n p (by omega), List.foldl_map, ← hk1]
    rfl
  rw [e2] at q2 l2
  have hget : ∀ i : Nat, i < k0.t.length → getD2 (putL [] (s.f ++ s.n.zip p)) (i : Int) = some (.int (d.getD i 0)) := fun i hi => by
    rw [getD2_putL (m := k0.t.length) (d := d) (i : Int) _ _ fun q hq => (hd.2 q hq).2.2, if_pos (hkeys.mem_iff.mpr (mem_names.mpr ⟨by omega, by omega⟩)), Int.toNat_natCast]
  generalize putL [] (s.f ++ s.n.zip p) = kv2 at q2 l2 hget
  -- due
  have c1 : ∀ x19, compGo (sName 16) kYes (kDget 15 (gVar 16)) (pr K ns ds k0 x3 x4 s stp x7 x8 x9 x10 x11 x12 (base k0 s.f) (.fr (tL p)) (.dk kv2) .un y17 y18 x19 x20) (rangeD 0 1 k0.g.length) = some (d.map PyData.int) := fun x19 => by
    rw [rangeD_zero, w0.lg]
    have e := range_one (0 : Int) PyData.int d
    rw [hd.1] at e
    rw [← e]
    refine compGo_all _ _ _ _ _ _ fun i hi => ⟨_, rfl, ?_⟩
    have := hget i (List.mem_range.mp hi)
    simp -implicitDefEqProofs [-List.getD_eq_getElem?_getD, pr, this]
  have f1 := fit_of (ys := d.map PyData.int) (by rw [List.length_map, hd.1]; omega)
  have P1 : zDnew 15 (pr K ns ds k0 x3 x4 s stp x7 x8 x9 x10 x11 x12 (base k0 s.f) (.fr (tL p)) x15 x16 x17 x18 x19 x20) = some (.nx (pr K ns ds k0 x3 x4 s stp x7 x8 x9 x10 x11 x12 (base k0 s.f) (.fr (tL p)) (.dk []) x16 x17 x18 x19 x20)) := rfl
  have z5 : ∀ x15 x16 x17 x18 x19, gVar 5 (pr K ns ds k0 x3 x4 s stp x7 x8 x9 x10 x11 x12 (base k0 s.f) (.fr (tL p)) x15 x16 x17 x18 x19 x20) = some (eS s) := fun _ _ _ _ _ => rfl
  have z2 : ∀ x15 x16 x17 x18 x19, gVar 2 (pr K ns ds k0 x3 x4 s stp x7 x8 x9 x10 x11 x12 (base k0 s.f) (.fr (tL p)) x15 x16 x17 x18 x19 x20) = some (eT k0) := fun _ _ _ _ _ => rfl
  have z14 : ∀ x15 x16 x17 x18 x19, gVar 14 (pr K ns ds k0 x3 x4 s stp x7 x8 x9 x10 x11 x12 (base k0 s.f) (.fr (tL p)) x15 x16 x17 x18 x19 x20) = some (tL p) := fun _ _ _ _ _ => rfl
  have z13 : ∀ x15 x16 x17 x18 x19, gVar 13 (pr K ns ds k0 x3 x4 s stp x7 x8 x9 x10 x11 x12 (base k0 s.f) (.fr (tL p)) x15 x16 x17 x18 x19 x20) = some (.int (base k0 s.f)) := fun _ _ _ _ _ => rfl
  have P2 : zFor (kQ (kIx (kQ (gVar 5)) (kC (.int 2)))) (sTup 2 (sCons (sName 16) (sCons (sName 17) sNil))) (zDput 15 (gVar 17) (gVar 16)) (pr K ns ds k0 x3 x4 s stp x7 x8 x9 x10 x11 x12 (base k0 s.f) (.fr (tL p)) (.dk []) x16 x17 x18 x19 x20) = some (.nx (pr K ns ds k0 x3 x4 s stp x7 x8 x9 x10 x11 x12 (base k0 s.f) (.fr (tL p)) (.dk kv1) y16 y17 x18 x19 x20)) := by
    have z : kQ (kIx (kQ (gVar 5)) (kC (.int 2))) (pr K ns ds k0 x3 x4 s stp x7 x8 x9 x10 x11 x12 (base k0 s.f) (.fr (tL p)) (.dk []) x16 x17 x18 x19 x20) = some (s.f.map pD) := by
      simp -implicitDefEqProofs only [kQ, kIx, z5, Option.bind_some, kC, asQ, atI_two]
    simp -implicitDefEqProofs only [zFor, z, Option.bind_some]
    exact q1
  have sp := sm_of (j := (p.length : Int)) (by omega) (by omega)
  have P3 : zFor (kRange1 (kCons (kData (kCall gLen (kQ (gVar 14)))) kNil)) (sName 18) (zDput 15 (kIx (kQ (gVar 14)) (gVar 18)) (kIx (kQ (kIx (kQ (gVar 5)) (kC (.int 0)))) (gVar 18))) (pr K ns ds k0 x3 x4 s stp x7 x8 x9 x10 x11 x12 (base k0 s.f) (.fr (tL p)) (.dk kv1) y16 y17 x18 x19 x20) = some (.nx (pr K ns ds k0 x3 x4 s stp x7 x8 x9 x10 x11 x12 (base k0 s.f) (.fr (tL p)) (.dk kv2) y16 y17 y18 x19 x20)) := by
    have z : kRange1 (kCons (kData (kCall gLen (kQ (gVar 14)))) kNil) (pr K ns ds k0 x3 x4 s stp x7 x8 x9 x10 x11 x12 (base k0 s.f) (.fr (tL p)) (.dk kv1) y16 y17 x18 x19 x20) = some (rangeD 0 1 p.length) := by
      simp -implicitDefEqProofs only [kRange1, kCons, kNil, kData, kCall, kQ, z14, Option.bind_some, tL, asQ, gLen, data_fr, List.length_map, gRange1, sp, if_true, Int.toNat_natCast]
    simp -implicitDefEqProofs only [zFor, z, Option.bind_some]
    rw [rangeD_zero]
    exact q2
  have sg := sm_of (j := (k0.g.length : Int)) (by rw [w0.lg]; omega) (by rw [w0.lg]; omega)
  have P4 : zSet 19 (kData (kCall gTuple (kRL (kComp (List.map (fun x => x.2) ([("name", 16)] : List (Str × Nat))) (kRange1 (kCons (kData (kCall gLen (kQ (kIx (kQ (gVar 2)) (kC (.int 0)))))) kNil)) (sName 16) kYes (kDget 15 (gVar 16)))))) (pr K ns ds k0 x3 x4 s stp x7 x8 x9 x10 x11 x12 (base k0 s.f) (.fr (tL p)) (.dk kv2) y16 y17 y18 x19 x20) = some (.nx (pr K ns ds k0 x3 x4 s stp x7 x8 x9 x10 x11 x12 (base k0 s.f) (.fr (tL p)) (.dk kv2) y16 y17 y18 (.fr (tL d)) x20)) := by
    have z : kRange1 (kCons (kData (kCall gLen (kQ (kIx (kQ (gVar 2)) (kC (.int 0)))))) kNil) (pr K ns ds k0 x3 x4 s stp x7 x8 x9 x10 x11 x12 (base k0 s.f) (.fr (tL p)) (.dk kv2) y16 y17 y18 x19 x20) = some (rangeD 0 1 k0.g.length) := by
      simp -implicitDefEqProofs only [kRange1, kCons, kNil, kData, kCall, kQ, kIx, kC, z2, Option.bind_some, eT, iL, asQ, atI_zero, gLen, data_fr, List.length_map, gRange1, sg, if_true, Int.toNat_natCast]
    have wz : wipeE (pr K ns ds k0 x3 x4 s stp x7 x8 x9 x10 x11 x12 (base k0 s.f) (.fr (tL p)) (.dk kv2) y16 y17 y18 x19 x20) (List.map (fun x => x.2) ([("name", 16)] : List (Str × Nat))) = pr K ns ds k0 x3 x4 s stp x7 x8 x9 x10 x11 x12 (base k0 s.f) (.fr (tL p)) (.dk kv2) .un y17 y18 x19 x20 := rfl
    simp -implicitDefEqProofs only [zSet, kData, kCall, kRL, kComp, z, Option.bind_some, wz, c1, f1, Rv.list, gTuple]
    rfl
  have wp := v_whole_plan h lp hd
  have ip := v_is_plan k0 w0.toWfT d
  rw [(isPl_iff w0.ll d).mpr isD] at ip
  have s1 := v_sum_byT k0.g d (by rw [w0.lg, hd.1]; exact Nat.le_refl _) (by rw [w0.lg]; omega) (w0.bg.mono (by decide))
  have s2 := v_sum_byT s.k.g p (by rw [h.wf.lg, lp]; exact Nat.le_refl _) (by rw [h.wf.lg]; omega) (h.wf.bg.mono (by decide))
  have hsum : dot k0.g d = base k0 s.f + dot s.k.g p := by
    rw [← base_due w0.toWfT hkeys hd, base_app, base_zip, ← h.gn]
  have bdd : Bd 12 d := fun x hx => by
    obtain ⟨i, hi⟩ := List.mem_iff_getElem?.mp hx
    have hi' := (List.getElem?_eq_some_iff.mp hi).1
    have hb := box_ix.mp isD.box i x _ hi (get_of (d := 0) (by rw [← hd.1]; exact hi'))
    have hil : i < k0.t.length := by rw [← hd.1]; exact hi'
    have := w0.bt _ (List.getElem_mem hil)
    rw [← getD_at k0.t 0 hil] at this
    omega
  have g1 := gRepr_ok (rb_tints (B := 12) (m := 6) bdd (by decide) (by rw [hd.1]; omega)) (by decide) (by decide)
  have P5 : kOr (kB (kBin gNeA (kData (kCall gRepr (kCons (kData (kCallD d_whole_plan (kCons (gVar 5) (kCons (gVar 14) kNil)))) kNil))) (kData (kCall gRepr (kCons (gVar 19) kNil))))) (kOr (kNot (kB (kData (kCallD d_law_is_plan (kCons (gVar 2) (kCons (gVar 19) kNil)))))) (kB (kBin gNeA (kData (kCallD d_law_sum_by (kCons (kIx (kQ (gVar 2)) (kC (.int 0))) (kCons (gVar 19) kNil)))) (kBin gAdd (gVar 13) (kData (kCallD d_law_sum_by (kCons (kIx (kQ (kIx (kQ (gVar 5)) (kC (.int 1)))) (kC (.int 0))) (kCons (gVar 14) kNil)))))))) (pr K ns ds k0 x3 x4 s stp x7 x8 x9 x10 x11 x12 (base k0 s.f) (.fr (tL p)) (.dk kv2) y16 y17 y18 (.fr (tL d)) x20) = some false := by
    have z19 : gVar 19 (pr K ns ds k0 x3 x4 s stp x7 x8 x9 x10 x11 x12 (base k0 s.f) (.fr (tL p)) (.dk kv2) y16 y17 y18 (.fr (tL d)) x20) = some (tL d) := rfl
    have e : ∀ x : Str, gNeA (.str x) (.str x) = some (.bool false) := fun x => by
      show some (PyData.bool (!(x == x))) = _
      rw [beq_self_eq_true]; rfl
    have e3 : ∀ x : Int, gNeA (.int x) (.int x) = some (.bool false) := fun x => by
      show gNe _ _ = _
      rw [gNe_int, beq_self_eq_true]; rfl
    have k1 : kIx (kQ (gVar 2)) (kC (.int 0)) (pr K ns ds k0 x3 x4 s stp x7 x8 x9 x10 x11 x12 (base k0 s.f) (.fr (tL p)) (.dk kv2) y16 y17 y18 (.fr (tL d)) x20) = some (iL k0.g) := by
      simp -implicitDefEqProofs only [kIx, kQ, z2, Option.bind_some, asQ, kC, atI_zero]
    have k2 : kIx (kQ (kIx (kQ (gVar 5)) (kC (.int 1)))) (kC (.int 0)) (pr K ns ds k0 x3 x4 s stp x7 x8 x9 x10 x11 x12 (base k0 s.f) (.fr (tL p)) (.dk kv2) y16 y17 y18 (.fr (tL d)) x20) = some (iL s.k.g) := by
      simp -implicitDefEqProofs only [kIx, kQ, z5, Option.bind_some, asQ, kC, atI_zero, atI_one]
    simp -implicitDefEqProofs only [kOr, kNot, kB, kBin, kData, kCall, kCallD, kCons, kNil, z5, z2, z14, z13, z19, k1, k2, Option.bind_some, wp, ip, s1, s2, data_fr, g1, e, asB, Bool.not_true, Bool.false_eq_true, if_false, gAdd, hsum, e3]
  refine ⟨.dk kv2, y16, y17, y18, .fr (tL d), ?_⟩
  simp -implicitDefEqProofs only [lP, zSeq, P1, P2, P3, P4, Option.bind_some, zIf, P5]
  rfl
end
end K80

set_option Elab.async false
set_option linter.all false
set_option maxRecDepth 100000
set_option maxHeartbeats 2000000
namespace K80
open PySem PySem.Spec L2 DL
theorem base_bd {k0 : Tk} (w : WfT k0) : ∀ (f : List (Int × Int)), (∀ p ∈ f, p.2.natAbs ≤ 12) → (base k0 f).natAbs ≤ 240 * f.length
  | [], _ => by simp [base]
  | q :: f, h => by
    have ih := base_bd w f fun p hp => h p (List.mem_cons_of_mem _ hp)
    have e : base k0 (q :: f) = k0.g.getD q.1.toNat 0 * q.2 + base k0 f := by unfold base; simp
    have b1 := w.bg.get q.1.toNat
    have b2 := h q List.mem_cons_self
    have b3 : (k0.g.getD q.1.toNat 0 * q.2).natAbs ≤ 20 * 12 := by
      rw [Int.natAbs_mul]
      exact Nat.mul_le_mul b1 b2
    rw [e, List.length_cons]
    have := Int.natAbs_add_le (k0.g.getD q.1.toNat 0 * q.2) (base k0 f)
    omega
theorem ne_self (x : Str) : gNeA (.str x) (.str x) = some (.bool false) := by
  show some (PyData.bool (!(x == x))) = _
  rw [beq_self_eq_true]; rfl
theorem eq_self (x : Str) : gEqA (.str x) (.str x) = some (.bool true) := by
  show some (PyData.bool (x == x)) = _
  rw [beq_self_eq_true]
theorem plain (K : PySem.W.Frag) (ns : List Int) (hn : ns.length ≤ 63) : (b_law K (Sl.sc K ns :: List.replicate 20 Sl.un)).bind flRes = some (.ok (.fr (.bool true))) := by
  obtain ⟨ds, hd, dr⟩ := v_law_draws K ns hn
  obtain ⟨k0, w0, h5, hr4, hpr, tk⟩ := v_law_task ds hd
  have I0 := inv_start w0 h5
  have hms := mu_start w0 h5
  generalize hq : (eT k0).shown = q
  have gT : gRepr [eT k0] = some (.fr (.str q)) := by rw [← hq]; exact gRepr_ok (rb_task w0.toWfT) (by decide) (by decide)
  have gS := gRepr_ok (rb_state I0) (by decide) (by decide)
  have hst := v_start k0 w0
  have hsd := start_data k0
  show (b_law K [.sc K ns, .un, .un, .un, .un, .un, .un, .un, .un, .un, .un, .un, .un, .un, .un, .un, .un, .un, .un, .un, .un]).bind flRes = _
  have sc0 : ∀ r, scAt K 0 (Sl.sc K ns :: r) = some ns := fun r => scAt_zero K ns r
  have E1 : zSet 1 (kData (kCallSc K (d_law_draws K) 0)) [.sc K ns, .un, .un, .un, .un, .un, .un, .un, .un, .un, .un, .un, .un, .un, .un, .un, .un, .un, .un, .un, .un] = some (.nx [.sc K ns, .fr (iL ds), .un, .un, .un, .un, .un, .un, .un, .un, .un, .un, .un, .un, .un, .un, .un, .un, .un, .un, .un]) := by
    simp -implicitDefEqProofs only [zSet, kData, kCallSc, sc0, Option.bind_some, dr]
    rfl
  have E2 : zSet 2 (kData (kCallD d_law_task (kCons (gVar 1) (kCons (kC (.int 10)) (kCons (kC (.int 5)) (kCons (kC (.int 300)) kNil)))))) [.sc K ns, .fr (iL ds), .un, .un, .un, .un, .un, .un, .un, .un, .un, .un, .un, .un, .un, .un, .un, .un, .un, .un, .un] = some (.nx [.sc K ns, .fr (iL ds), .fr (eT k0), .un, .un, .un, .un, .un, .un, .un, .un, .un, .un, .un, .un, .un, .un, .un, .un, .un, .un]) := by
    simp -implicitDefEqProofs only [zSet, kData, kCallD, kCons, kNil, kC, gVar, List.getElem?_cons_succ, List.getElem?_cons_zero, Option.bind_some, tk, data_fr]
    rfl
  have E3 : zSet 3 (kData (kCall gRepr (kCons (gVar 2) kNil))) [.sc K ns, .fr (iL ds), .fr (eT k0), .un, .un, .un, .un, .un, .un, .un, .un, .un, .un, .un, .un, .un, .un, .un, .un, .un, .un] = some (.nx [.sc K ns, .fr (iL ds), .fr (eT k0), .fr (.str q), .un, .un, .un, .un, .un, .un, .un, .un, .un, .un, .un, .un, .un, .un, .un, .un, .un]) := by
    simp -implicitDefEqProofs only [zSet, kData, kCall, kCons, kNil, gVar, List.getElem?_cons_succ, List.getElem?_cons_zero, Option.bind_some, gT, data_fr]
    rfl
  have E4 : zSet 4 (kTup (kCons (kData (kListRg1 (kCons (kData (kCall gLen (kQ (kIx (kQ (gVar 2)) (kC (.int 0)))))) kNil))) (kCons (gVar 2) (kCons (kData (kLst kNil)) kNil)))) [.sc K ns, .fr (iL ds), .fr (eT k0), .fr (.str q), .un, .un, .un, .un, .un, .un, .un, .un, .un, .un, .un, .un, .un, .un, .un, .un, .un] = some (.nx [.sc K ns, .fr (iL ds), .fr (eT k0), .fr (.str q), .fr (eS (s0 k0)), .un, .un, .un, .un, .un, .un, .un, .un, .un, .un, .un, .un, .un, .un, .un, .un]) := by
    have e : (PyData.list (rangeD 0 1 k0.t.length) : D) = iL (names k0.t.length) := by rw [rangeD_names]
    have lg := w0.lg
    have z : kTup (kCons (kData (kListRg1 (kCons (kData (kCall gLen (kQ (kIx (kQ (gVar 2)) (kC (.int 0)))))) kNil))) (kCons (gVar 2) (kCons (kData (kLst kNil)) kNil))) [.sc K ns, .fr (iL ds), .fr (eT k0), .fr (.str q), .un, .un, .un, .un, .un, .un, .un, .un, .un, .un, .un, .un, .un, .un, .un, .un, .un] = some (.tuple [.list (rangeD 0 1 k0.t.length), eT k0, .list []]) := by
      simp -implicitDefEqProofs [sm_of (j := (k0.t.length : Int)) (by omega) (by omega), lg, show (k0.t.length : Int) ≤ 16777216 by omega]
    simp -implicitDefEqProofs only [zSet, z, Option.bind_some, e]
    rfl
  have E5 : kB (kBin gNeA (kData (kCall gRepr (kCons (kData (kCallD d_start (kCons (gVar 2) kNil))) kNil))) (kData (kCall gRepr (kCons (gVar 4) kNil)))) [.sc K ns, .fr (iL ds), .fr (eT k0), .fr (.str q), .fr (eS (s0 k0)), .un, .un, .un, .un, .un, .un, .un, .un, .un, .un, .un, .un, .un, .un, .un, .un] = some false := by
    simp -implicitDefEqProofs only [kB, kBin, kData, kCall, kCallD, kCons, kNil, gVar, List.getElem?_cons_succ, List.getElem?_cons_zero, Option.bind_some, hst, hsd, gS, data_fr, ne_self, asB]
  have E6 : zSet 5 (gVar 4) [.sc K ns, .fr (iL ds), .fr (eT k0), .fr (.str q), .fr (eS (s0 k0)), .un, .un, .un, .un, .un, .un, .un, .un, .un, .un, .un, .un, .un, .un, .un, .un] = some (.nx [.sc K ns, .fr (iL ds), .fr (eT k0), .fr (.str q), .fr (eS (s0 k0)), .fr (eS (s0 k0)), .un, .un, .un, .un, .un, .un, .un, .un, .un, .un, .un, .un, .un, .un, .un]) := rfl
  have E7 : zSetR 6 (kLst kNil) [.sc K ns, .fr (iL ds), .fr (eT k0), .fr (.str q), .fr (eS (s0 k0)), .fr (eS (s0 k0)), .un, .un, .un, .un, .un, .un, .un, .un, .un, .un, .un, .un, .un, .un, .un] = some (.nx [.sc K ns, .fr (iL ds), .fr (eT k0), .fr (.str q), .fr (eS (s0 k0)), .fr (eS (s0 k0)), .ow [], .un, .un, .un, .un, .un, .un, .un, .un, .un, .un, .un, .un, .un, .un]) := by
    simp -implicitDefEqProofs
  have E8 : zSet 7 (kC (.bool true)) [.sc K ns, .fr (iL ds), .fr (eT k0), .fr (.str q), .fr (eS (s0 k0)), .fr (eS (s0 k0)), .ow [], .un, .un, .un, .un, .un, .un, .un, .un, .un, .un, .un, .un, .un, .un] = some (.nx (lr K ns ds k0 (.fr (.str q)) (.fr (eS (s0 k0))) (s0 k0) [] true .un .un .un .un .un .un)) := rfl
  obtain ⟨x8, x9, x10, x11, x12, L, If, lf, wf⟩ := law_loop (K := K) (ns := ns) (x3 := .fr (.str q)) (x4 := .fr (eS (s0 k0))) hd w0.toWfT 200 (s0 k0) [] wN .un .un .un .un .un .un I0 hms (by simp) (by unfold wN; omega)
  have wf := wf fun st h => (nomatch h)
  have hfin : wear 200 (s0 k0) [] = fin0 k0 := rfl
  rw [hfin] at L If lf wf
  have vw := v_worn w0 h5 lf
  generalize fin0 k0 = fn at L If lf wf vw
  obtain ⟨steps, s⟩ := fn
  simp only at L If lf wf vw
  have E9 : zWhile wN (kB (gVar 7)) lB (lr K ns ds k0 (.fr (.str q)) (.fr (eS (s0 k0))) (s0 k0) [] true .un .un .un .un .un .un) = some (.nx (lr K ns ds k0 (.fr (.str q)) (.fr (eS (s0 k0))) s steps false x8 x9 x10 x11 x12 .un)) := L
  generalize hstp : (PyData.list (steps.map eStep) : D) = stp
  let ρ1 : Rho := [.sc K ns, .fr (iL ds), .fr (eT k0), .fr (.str q), .fr (eS (s0 k0)), .fr (eS s), .fr stp, .fr (.bool false), x8, x9, x10, x11, x12, .un, .un, .un, .un, .un, .un, .un, .un]
  have F6 : frzE 6 (lr K ns ds k0 (.fr (.str q)) (.fr (eS (s0 k0))) s steps false x8 x9 x10 x11 x12 .un) = ρ1 := by
    show _ = [Sl.sc K ns, .fr (iL ds), .fr (eT k0), .fr (.str q), .fr (eS (s0 k0)), .fr (eS s), .fr stp, .fr (.bool false), x8, x9, x10, x11, x12, .un, .un, .un, .un, .un, .un, .un, .un]
    rw [← hstp]
    rfl
  have rbw : RB 700000 5 (.tuple [stp, eS s]) := by
    rw [← hstp]
    refine (RB.tuple (n := 300000) (k := 4) (m := 2) (fun d hd => ?_) (by simp)).mono (by decide) (by decide)
    simp only [List.mem_cons, List.not_mem_nil, or_false] at hd
    rcases hd with rfl | rfl
    · exact (rb_steps wf lf).mono (by decide) (by decide)
    · exact (rb_state If).mono (by decide) (by decide)
  have gW := gRepr_ok rbw (by decide) (by decide)
  have wd : (Rv.tp (steps.map eStep) [eS s]).data = .tuple [stp, eS s] := by rw [← hstp]; rfl
  have E11 : kB (kBin gNeA (kData (kCall gRepr (kCons (kData (kCallD d_worn (kCons (gVar 2) kNil))) kNil))) (kData (kCall gRepr (kCons (kTup (kCons (gVar 6) (kCons (gVar 5) kNil))) kNil)))) ρ1 = some false := by
    have z2 : gVar 2 ρ1 = some (eT k0) := rfl
    have zt : kTup (kCons (gVar 6) (kCons (gVar 5) kNil)) ρ1 = some (.tuple [stp, eS s]) := rfl
    simp -implicitDefEqProofs only [kB, kBin, kData, kCall, kCallD, kCons, kNil, z2, zt, Option.bind_some, vw, wd, gW, data_fr, ne_self, asB]
  let ρ2 : Rho := pr K ns ds k0 (.fr (.str q)) (.fr (eS (s0 k0))) s stp (.fr (.bool false)) x8 x9 x10 x11 x12 (base k0 s.f) .un .un .un .un .un .un .un
  have nmf := If.nmF
  have E13 : zSet 13 (kData (kCall gSum (kRL (kComp (List.map (fun x => x.2) ([("name", 16), ("value", 17)] : List (Str × Nat))) (kQ (kIx (kQ (gVar 5)) (kC (.int 2)))) (sTup 2 (sCons (sName 16) (sCons (sName 17) sNil))) kYes (kBin gMul (kIx (kQ (kIx (kQ (gVar 2)) (kC (.int 0)))) (gVar 16)) (gVar 17)))))) ρ1 = some (.nx ρ2) := by
    have z : kQ (kIx (kQ (gVar 5)) (kC (.int 2))) ρ1 = some (s.f.map pD) := by
      have z5 : gVar 5 ρ1 = some (eS s) := rfl
      simp -implicitDefEqProofs only [kQ, kIx, z5, Option.bind_some, kC, asQ, atI_two]
    have wz : wipeE ρ1 (List.map (fun x => x.2) ([("name", 16), ("value", 17)] : List (Str × Nat))) = ρ1 := rfl
    have c1 : compGo (sTup 2 (sCons (sName 16) (sCons (sName 17) sNil))) kYes (kBin gMul (kIx (kQ (kIx (kQ (gVar 2)) (kC (.int 0)))) (gVar 16)) (gVar 17)) ρ1 (s.f.map pD) = some (s.f.map fun p => .int (k0.g.getD p.1.toNat 0 * p.2)) := by
      refine compGo_all _ _ _ _ _ _ fun p hp => ⟨_, rfl, ?_⟩
      have := name_at w0.toWfT (nmf.2 p hp)
      have hb := (w0.bg).get p.1.toNat
      simp -implicitDefEqProofs [-List.getD_eq_getElem?_getD, ρ1, eT, iL, this, okMul_of (i := k0.g.getD p.1.toNat 0) (j := p.2) (by omega)]
    have f1 := fit_of (ys := s.f.map fun p => PyData.int (k0.g.getD p.1.toNat 0 * p.2)) (by rw [List.length_map]; have := nmf.1; omega)
    simp -implicitDefEqProofs only [zSet, kData, kCall, kRL, kComp, z, wz, c1, f1, Option.bind_some, Rv.list, gSum_m, data_fr]
    rfl
  have hfg := v_fixed_gain k0 w0 s nmf
  have bb := base_bd w0.toWfT s.f If.vals
  have gB := gRepr_ok (RB.int (i := base k0 s.f) (by have := nmf.1; omega)) (by decide) (by decide)
  have E14 : kB (kBin gNeA (kData (kCall gRepr (kCons (kData (kCallD d_fixed_gain (kCons (gVar 2) (kCons (gVar 5) kNil)))) kNil))) (kData (kCall gRepr (kCons (gVar 13) kNil)))) ρ2 = some false := by
    have z2 : gVar 2 ρ2 = some (eT k0) := rfl
    have z5 : gVar 5 ρ2 = some (eS s) := rfl
    have z13 : gVar 13 ρ2 = some (.int (base k0 s.f)) := rfl
    simp -implicitDefEqProofs only [kB, kBin, kData, kCall, kCallD, kCons, kNil, z2, z5, z13, Option.bind_some, hfg, gB, data_fr, ne_self, asB]
  have hpl := v_plans s.k If.wf.toWfT
  obtain ⟨ρ3, q3, y14, y15, y16, y17, y18, y19, hρ3⟩ := forGo_same (sName 14) lP (fun ρ => ∃ x14 x15 x16 x17 x18 x19, ρ = pr K ns ds k0 (.fr (.str q)) (.fr (eS (s0 k0))) s stp (.fr (.bool false)) x8 x9 x10 x11 x12 (base k0 s.f) x14 x15 x16 x17 x18 x19 .un) (((plansL s.k).map tL).take 5) ρ2 ⟨_, _, _, _, _, _, rfl⟩ fun a ha ρ ⟨x14, x15, x16, x17, x18, x19, e⟩ => by
    subst e
    obtain ⟨p, hp, rfl⟩ := List.mem_map.mp (List.mem_of_mem_take ha)
    obtain ⟨z15, z16, z17, z18, z19, z⟩ := lP_ok (K := K) (ns := ns) (ds := ds) (x3 := .fr (.str q)) (x4 := .fr (eS (s0 k0))) w0 If stp (.fr (.bool false)) x8 x9 x10 x11 x12 hp x15 x16 x17 x18 x19 .un
    exact ⟨_, _, rfl, z, _, _, _, _, _, _, rfl⟩
  have E15 : zFor (kQ (kData (kSlA (kData (kCallD d_law_plans (kCons (kIx (kQ (gVar 5)) (kC (.int 1))) kNil))) kO0 (kO1 (kC (.int 5)))))) (sName 14) lP ρ2 = some (.nx ρ3) := by
    have z5 : gVar 5 ρ2 = some (eS s) := rfl
    have ct : cutD ((plansL s.k).map tL) none (some 5) = ((plansL s.k).map tL).take 5 := cut_take _ 5
    have z : kQ (kData (kSlA (kData (kCallD d_law_plans (kCons (kIx (kQ (gVar 5)) (kC (.int 1))) kNil))) kO0 (kO1 (kC (.int 5))))) ρ2 = some (((plansL s.k).map tL).take 5) := by
      simp -implicitDefEqProofs only [kQ, kData, kSlA, kCallD, kCons, kNil, kIx, z5, kC, kO0, kO1, Option.bind_some, asQ, atI_one, hpl, Rv.data, ct]
    simp -implicitDefEqProofs only [zFor, z, Option.bind_some]
    exact q3
  have hlen : (rangeD 0 1 k0.t.length).length < 16777216 := by rw [rangeD_len]; omega
  have E16 : zTapp (kCallD d_start (kCons (gVar 2) kNil)) (kC (.int 0)) ρ3 = some (.nx ρ3) := by
    have z2 : gVar 2 ρ3 = some (eT k0) := by rw [hρ3]; rfl
    simp -implicitDefEqProofs only [zTapp, kCallD, kCons, kNil, z2, Option.bind_some, hst, kC, line_v, if_pos hlen]
  have hlen2 : (steps.map eStep).length < 16777216 := by rw [List.length_map]; omega
  have E17 : zTapp (kCallD d_worn (kCons (gVar 2) kNil)) (kC (.int 0)) ρ3 = some (.nx ρ3) := by
    have z2 : gVar 2 ρ3 = some (eT k0) := by rw [hρ3]; rfl
    simp -implicitDefEqProofs only [zTapp, kCallD, kCons, kNil, z2, Option.bind_some, vw, kC, line_v, if_pos hlen2]
  have F7 : frzE 6 ρ3 = ρ3 := by rw [hρ3]; rfl
  have E18 : kFr (vAnd (kBin gEqA (kData (kCall gRepr (kCons (kData (kCallD d_worn (kCons (gVar 2) kNil))) kNil))) (kData (kCall gRepr (kCons (kTup (kCons (gVar 6) (kCons (gVar 5) kNil))) kNil)))) (kBin gEqA (kData (kCall gRepr (kCons (gVar 2) kNil))) (gVar 3))) ρ3 = some (.fr (.bool true)) := by
    have z2 : gVar 2 ρ3 = some (eT k0) := by rw [hρ3]; rfl
    have z3 : gVar 3 ρ3 = some (.str q) := by rw [hρ3]; rfl
    have zt : kTup (kCons (gVar 6) (kCons (gVar 5) kNil)) ρ3 = some (.tuple [stp, eS s]) := by rw [hρ3]; rfl
    simp -implicitDefEqProofs only [kFr, vAnd, kBin, kData, kCall, kCallD, kCons, kNil, z2, z3, zt, Option.bind_some, vw, wd, gW, gT, data_fr, eq_self]
  have BL : b_law K [.sc K ns, .un, .un, .un, .un, .un, .un, .un, .un, .un, .un, .un, .un, .un, .un, .un, .un, .un, .un, .un, .un] = some (.rt (.fr (.bool true))) := by
    simp -implicitDefEqProofs only [b_law, zSeq, zIf, E1, E2, E3, E4, E5, E6, E7, E8, Option.bind_some, Bool.false_eq_true, if_false, zNext]
    rw [E9]
    simp -implicitDefEqProofs only [Option.bind_some, zIce, F6, zSeq, zIf, zNext, E11, E13, E14, Bool.false_eq_true, if_false]
    rw [E15]
    simp -implicitDefEqProofs only [Option.bind_some, E16, E17, zSeq, zIce, F7, zRet, E18]
  rw [BL]
  rfl
end K80

set_option Elab.async false
theorem PySem.Challenge.cw_wholebest_k80_states_and_steps_with_reas_holds : PySem.Challenge.rw_wholebest_k80_states_and_steps_with_reas.Holds := by
  exact K80_holds K80.plain
