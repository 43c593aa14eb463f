import PyProof.Rows.All
import Wide.All
import OpenK.AllK
import Wide.FinOn
import HandS.ForMost
import HandS.Deep
import HandS.TupAny
import HandS.TupMul
import HandS.Gcd
import HandS.Star
import HandS.Flow
import PyProof.Conv_int
import PyProof.Conv_int_bool
import HandS.Zip
import HandS.Defaults
import HandS.ForExc
import HandS.Head0
import HandS.Head1
import HandS.Head2
import HandS.HeadEnd
import HandS.HeadHook1
import HandS.HeadHook2
import HandS.Conv
import HandS.Sort
import HandS.Small
import PyProof.Rows.SortWalk
import KE.SortData
import KE.DataEq
import PyProof.ReprRoads
import PyProof.CallFns
import HandS.EndBits
import HandS.Zip0
import HandS.MapObj
import HandS.ListItems
import KE.KExcSuper
import HandS.ExcInit
import HandS.Nested
import HandS.TryMany
import HandS.ExcField
import KE.KDictWalk
import KE.KDictSum
import HandS.NoneIn
import KE.DataCmp
import HandS.Words
import PySem.Challenge.RW_wholebest_k79_whole_minors_and_two_sided
import HandS.Head3
set_option Elab.async false
set_option linter.all false
set_option maxRecDepth 100000
set_option maxHeartbeats 2000000
namespace DL
open PySem PySem.Spec L2

abbrev D := PyData
/-- one heap lies in another one -/
def Le (F H : Hp) : Prop := ∀ a o, F a = some o → H a = some o
theorem Le.refl (H : Hp) : Le H H := fun _ _ h => h
theorem Le.trans {F G H : Hp} (a : Le F G) (b : Le G H) : Le F H := fun x o h => b x o (a x o h)
/-- there, and no tuple of keys -/
def Hot (o : Option HO) : Prop := o ≠ none ∧ ∀ ks : List Key, o ≠ some (.tup (ks.map kV))
theorem Hot.of {o : HO} (h : ∀ ks : List Key, o ≠ .tup (ks.map kV)) : Hot (some o) := And.intro (fun z => nomatch z) (fun ks z => h ks (Option.some.inj z))
theorem Hot.up {H H' : Hp} {a : Addr} (h : Hot (H a)) (l : Le H H') : Hot (H' a) := by
  cases e : H a with
  | none => exact absurd e h.1
  | some o => rw [l a o e]; rw [e] at h; exact h
/-- the heap has grown, and so has its frozen part, by what is new (and by tuples of keys) -/
structure Gr (F H F' H' : Hp) : Prop where
  f : Le F F'
  h : Le H H'
  s : Le F' H'
  g : ∀ a, F a = none → Hot (H a) → F' a = none
theorem Gr.refl {F H : Hp} (l : Le F H) : Gr F H F H := ⟨Le.refl _, Le.refl _, l, fun _ h _ => h⟩
theorem Gr.trans {F H F1 H1 F2 H2 : Hp} (a : Gr F H F1 H1) (b : Gr F1 H1 F2 H2) : Gr F H F2 H2 :=
  ⟨a.f.trans b.f, a.h.trans b.h, b.s, fun x h1 h2 => b.g x (a.g x h1 h2) (h2.up a.h)⟩
theorem free_of {H H' : Hp} (l : Le H H') {p : Addr} (h : H' p = none) : H p = none := by
  cases e : H p with
  | none => rfl
  | some o => rw [l p o e] at h; cases h
theorem Le.up {F H : Hp} (l : Le F H) {p : Addr} {o : HO} (h : H p = none) : Le F (upd H p o) := fun a u e => by
  rw [upd_ne (ne_of_none (l a u e) h)]; exact l a u e
theorem Le.up2 {F H : Hp} (l : Le F H) {p : Addr} {o : HO} (h : H p = none) : Le (upd F p o) (upd H p o) := fun a u e => by
  by_cases q : a = p
  · subst q; rw [upd_same] at e ⊢; exact e
  · rw [upd_ne q] at e ⊢; exact l a u e
theorem Le.new {H : Hp} {p : Addr} {o : HO} (h : H p = none) : Le H (upd H p o) := (Le.refl H).up h
/-- a new object, frozen at once -/
theorem Gr.frz {F H : Hp} (l : Le F H) {p : Addr} {o : HO} (h : H p = none) : Gr F H (upd F p o) (upd H p o) :=
  ⟨Le.new (free_of l h), Le.new h, l.up2 h, fun a h1 h2 => by
    have q : a ≠ p := fun e => h2.1 (by rw [e]; exact h)
    rw [upd_ne q]; exact h1⟩
/-- a new object, not frozen -/
theorem Gr.lay {F H : Hp} (l : Le F H) {p : Addr} {o : HO} (h : H p = none) : Gr F H F (upd H p o) :=
  ⟨Le.refl F, Le.new h, l.up h, fun a h1 _ => h1⟩
/-- a thing that is new since H0 is frozen -/
theorem Gr.ice {F0 H0 F H : Hp} (g : Gr F0 H0 F H) {p : Addr} {o : HO} (h0 : H0 p = none) (hf : F p = none) (h : H p = some o) : Gr F0 H0 (upd F p o) H :=
  ⟨g.f.up hf, g.h, fun a u e => by
    by_cases q : a = p
    · subst q; rw [upd_same] at e; rw [h, ← e]
    · rw [upd_ne q] at e; exact g.s a u e, fun a h1 h2 => by
    have q : a ≠ p := fun e => h2.1 (by rw [e]; exact h0)
    rw [upd_ne q]; exact g.g a h1 h2⟩

/-! ### what stands for data -/
mutual
inductive Rp (F : Hp) : V → D → Prop
  | non : Rp F .non .none
  | bl (b : Bool) : Rp F (.bl b) (.bool b)
  | int (i : Int) : Rp F (.int i) (.int i)
  | str (x : Str) : Rp F (.str x) (.str x)
  | lst {a : Addr} {xs : List V} {ds : List D} : F a = some (.lst xs) → RpAll F xs ds → Rp F (.ref a) (.list ds)
  | tup {a : Addr} {xs : List V} {ds : List D} : F a = some (.tup xs) → RpAll F xs ds → Rp F (.ref a) (.tuple ds)
inductive RpAll (F : Hp) : List V → List D → Prop
  | nil : RpAll F [] []
  | cons {v : V} {vs : List V} {d : D} {ds : List D} : Rp F v d → RpAll F vs ds → RpAll F (v :: vs) (d :: ds)
end
mutual
theorem Rp.mono {F F' : Hp} (l : Le F F') : ∀ {v : V} {d : D}, Rp F v d → Rp F' v d
  | _, _, .non => .non
  | _, _, .bl b => .bl b
  | _, _, .int i => .int i
  | _, _, .str x => .str x
  | _, _, .lst h r => .lst (l _ _ h) (RpAll.mono l r)
  | _, _, .tup h r => .tup (l _ _ h) (RpAll.mono l r)
theorem RpAll.mono {F F' : Hp} (l : Le F F') : ∀ {vs : List V} {ds : List D}, RpAll F vs ds → RpAll F' vs ds
  | _, _, .nil => .nil
  | _, _, .cons h r => .cons (Rp.mono l h) (RpAll.mono l r)
end
mutual
theorem Rp.dp {K : PySem.W.Frag} {F H : Hp} (l : Le F H) : ∀ {v : V} {d : D}, Rp F v d → Dp K H v d
  | _, _, .non => .non
  | _, _, .bl b => .bl b
  | _, _, .int i => .int i
  | _, _, .str x => .str x
  | _, _, .lst h r => .lst (SqL.of (l _ _ h)) (RpAll.dp l r)
  | _, _, .tup h r => .tup (SqT.of (l _ _ h)) (RpAll.dp l r)
theorem RpAll.dp {K : PySem.W.Frag} {F H : Hp} (l : Le F H) : ∀ {vs : List V} {ds : List D}, RpAll F vs ds → DpAll K H vs ds
  | _, _, .nil => .nil
  | _, _, .cons h r => .cons (Rp.dp l h) (RpAll.dp l r)
end
theorem RpAll.length {F : Hp} : ∀ {vs : List V} {ds : List D}, RpAll F vs ds → vs.length = ds.length
  | _, _, .nil => rfl
  | _, _, .cons _ r => by simp [RpAll.length r]
theorem RpAll.get {F : Hp} : ∀ {vs : List V} {ds : List D} {i : Nat} {d : D}, RpAll F vs ds → ds[i]? = some d → ∃ v, vs[i]? = some v ∧ Rp F v d
  | _, _, _, _, .nil, e => by simp at e
  | _, _, 0, _, .cons h _, e => by simp at e; subst e; exact ⟨_, rfl, h⟩
  | _, _, i + 1, _, .cons _ r, e => by
    obtain ⟨v, h1, h2⟩ := RpAll.get (i := i) r (by simpa using e)
    exact ⟨v, by simpa using h1, h2⟩
theorem RpAll.getV {F : Hp} : ∀ {vs : List V} {ds : List D} {i : Nat} {v : V}, RpAll F vs ds → vs[i]? = some v → ∃ d, ds[i]? = some d ∧ Rp F v d
  | _, _, _, _, .nil, e => by simp at e
  | _, _, 0, _, .cons h _, e => by simp at e; subst e; exact ⟨_, rfl, h⟩
  | _, _, i + 1, _, .cons _ r, e => by
    obtain ⟨v, h1, h2⟩ := RpAll.getV (i := i) r (by simpa using e)
    exact ⟨v, by simpa using h1, h2⟩
theorem RpAll.append {F : Hp} : ∀ {vs ws : List V} {ds es : List D}, RpAll F vs ds → RpAll F ws es → RpAll F (vs ++ ws) (ds ++ es)
  | _, _, _, _, .nil, s => s
  | _, _, _, _, .cons h r, s => .cons h (RpAll.append r s)
theorem RpAll.take {F : Hp} : ∀ {vs : List V} {ds : List D} (n : Nat), RpAll F vs ds → RpAll F (vs.take n) (ds.take n)
  | _, _, 0, _ => .nil
  | _, _, _ + 1, .nil => .nil
  | _, _, n + 1, .cons h r => .cons h (RpAll.take n r)
theorem RpAll.drop {F : Hp} : ∀ {vs : List V} {ds : List D} (n : Nat), RpAll F vs ds → RpAll F (vs.drop n) (ds.drop n)
  | _, _, 0, r => r
  | _, _, _ + 1, .nil => .nil
  | _, _, n + 1, .cons _ r => RpAll.drop n r
theorem RpAll.set {F : Hp} {v : V} {d : D} (q : Rp F v d) : ∀ {vs : List V} {ds : List D} (n : Nat), RpAll F vs ds → RpAll F (vs.set n v) (ds.set n d)
  | _, _, _, .nil => .nil
  | _, _, 0, .cons _ r => .cons q r
  | _, _, n + 1, .cons h r => .cons h (RpAll.set q n r)
theorem RpAll.ints {F : Hp} : ∀ {ns : List Int}, RpAll F (ns.map V.int) (ns.map PyData.int)
  | [] => .nil
  | n :: ns => .cons (.int n) RpAll.ints
theorem RpAll.ints_inv {F : Hp} : ∀ {ns : List Int} {vs : List V}, RpAll F vs (ns.map PyData.int) → vs = ns.map V.int
  | [], _, r => by cases r; rfl
  | n :: ns, _, r => by
    have r' : RpAll F _ (PyData.int n :: ns.map PyData.int) := r
    cases r' with
    | cons h t => cases h; rw [RpAll.ints_inv t]; rfl

/-! ### a def's slots -/
inductive Sl where
  | un
  | fr (d : D)
  | ow (xs : List D)
  | dk (kvs : List (Int × D))
  | dt (kvs : List (List Int × D))
  /-- the law's script: ints, read alone -/
  | sc (K : PySem.W.Frag) (ns : List Int)
  /-- a range -/
  | rg (lo hi : Int)
abbrev Rho := List Sl
def KvR (F : Hp) : List (Key × V) → List (Int × D) → Prop := Paired fun p q => p.1 = Sum.inl q.1 ∧ Rp F p.2 q.2
theorem KvR.mono {F F' : Hp} (l : Le F F') : ∀ {vs : List (Key × V)} {ds : List (Int × D)}, KvR F vs ds → KvR F' vs ds
  | _, _, .nil => .nil
  | _, _, .cons h r => .cons ⟨h.1, h.2.mono l⟩ (KvR.mono l r)
def KtR (F : Hp) : List (List Key × V) → List (List Int × D) → Prop := Paired fun p q => p.1 = q.1.map Sum.inl ∧ Rp F p.2 q.2
theorem KtR.mono {F F' : Hp} (l : Le F F') : ∀ {vs : List (List Key × V)} {ds : List (List Int × D)}, KtR F vs ds → KtR F' vs ds
  | _, _, .nil => .nil
  | _, _, .cons h r => .cons ⟨h.1, h.2.mono l⟩ (KtR.mono l r)
def Sl.own : Sl → Bool
  | .ow _ => true
  | .dk _ => true
  | .dt _ => true
  | _ => false
theorem sqL_le {K : PySem.W.Frag} {F F' : Hp} {a : Addr} {xs : List V} (l : Le F F') (h : SqL K F a xs) : SqL K F' a xs := by
  rcases h with (h | ⟨o, h⟩) | h
  · exact .inl (.inl (l _ _ h))
  · exact .inl (.inr ⟨o, l _ _ h⟩)
  · exact .inr h
def SlR (F H : Hp) : Option V → Sl → Prop
  | o, .un => True
  | o, .fr d => ∃ v, o = some v ∧ Rp F v d
  | o, .ow xs => ∃ a vs, o = some (.ref a) ∧ F a = none ∧ H a = some (.lst vs) ∧ RpAll F vs xs
  | o, .dk kvs => ∃ a vs, o = some (.ref a) ∧ F a = none ∧ H a = some (.dK vs) ∧ KvR F vs kvs
  | o, .dt kvs => ∃ a vs, o = some (.ref a) ∧ F a = none ∧ H a = some (.dT vs) ∧ KtR F vs kvs
  | o, .sc K ns => ∃ a, o = some (.ref a) ∧ SqL K F a (ns.map V.int)
  | o, .rg lo hi => ∃ a, o = some (.ref a) ∧ F a = some (.rng lo hi)
theorem SlR.gr {F H F' H' : Hp} (g : Gr F H F' H') {o : Option V} {s : Sl} (r : SlR F H o s) : SlR F' H' o s := by
  cases s with
  | un => trivial
  | fr d => obtain ⟨v, e, r⟩ := r; exact ⟨v, e, r.mono g.f⟩
  | ow xs => obtain ⟨a, vs, e, f, h, r⟩ := r; exact ⟨a, vs, e, g.g a f (by rw [h]; exact Hot.of fun _ z => nomatch z), g.h _ _ h, r.mono g.f⟩
  | dk kvs => obtain ⟨a, vs, e, f, h, r⟩ := r; exact ⟨a, vs, e, g.g a f (by rw [h]; exact Hot.of fun _ z => nomatch z), g.h _ _ h, r.mono g.f⟩
  | dt kvs => obtain ⟨a, vs, e, f, h, r⟩ := r; exact ⟨a, vs, e, g.g a f (by rw [h]; exact Hot.of fun _ z => nomatch z), g.h _ _ h, r.mono g.f⟩
  | sc K ns => obtain ⟨a, e, r⟩ := r; exact ⟨a, e, sqL_le g.f r⟩
  | rg lo hi => obtain ⟨a, e, r⟩ := r; exact ⟨a, e, g.f _ _ r⟩
structure EnvR (F H : Hp) (σ : St) (ρ : Rho) : Prop where
  le : Le F H
  sl : ∀ (i : Nat) (s : Sl), ρ[i]? = some s → ∃ o, σ[i]? = some o ∧ SlR F H o s
  ap : ∀ (i j : Nat) (a : Addr) (s t : Sl), ρ[i]? = some s → ρ[j]? = some t → s.own = true → t.own = true → σ[i]? = some (some (.ref a)) → σ[j]? = some (some (.ref a)) → i = j
theorem EnvR.gr {F H F' H' : Hp} {σ : St} {ρ : Rho} (E : EnvR F H σ ρ) (g : Gr F H F' H') : EnvR F' H' σ ρ :=
  ⟨g.s, fun i s e => let ⟨o, h, r⟩ := E.sl i s e; ⟨o, h, r.gr g⟩, E.ap⟩
/-- a name gets frozen data -/
theorem EnvR.set {F H : Hp} {σ : St} {ρ : Rho} (E : EnvR F H σ ρ) (i : Nat) {v : V} {d : D} (r : Rp F v d) : EnvR F H (σ.set i (some v)) (ρ.set i (.fr d)) := by
  refine ⟨E.le, fun j s e => ?_, fun j k a s t e1 e2 o1 o2 h1 h2 => ?_⟩
  · by_cases q : i = j
    · subst q
      by_cases l : i < ρ.length
      · rw [List.getElem?_set_self l] at e
        obtain ⟨o, h, _⟩ := E.sl i ρ[i] (List.getElem?_eq_getElem l)
        cases e
        exact ⟨some v, List.getElem?_set_self (List.getElem?_eq_some_iff.mp h).1, v, rfl, r⟩
      · rw [List.getElem?_eq_none (by simpa using l)] at e; cases e
    · rw [List.getElem?_set_ne q] at e ⊢
      exact E.sl j s e
  · have go : ∀ j s, (ρ.set i (.fr d))[j]? = some s → s.own = true → i ≠ j ∧ ρ[j]? = some s := fun j s e o => by
      by_cases q : i = j
      · subst q
        by_cases l : i < ρ.length
        · rw [List.getElem?_set_self l] at e; cases e; cases o
        · rw [List.getElem?_eq_none (by simpa using l)] at e; cases e
      · rw [List.getElem?_set_ne q] at e; exact ⟨q, e⟩
    obtain ⟨n1, e1⟩ := go j s e1 o1
    obtain ⟨n2, e2⟩ := go k t e2 o2
    rw [List.getElem?_set_ne n1] at h1
    rw [List.getElem?_set_ne n2] at h2
    exact E.ap j k a s t e1 e2 o1 o2 h1 h2
/-- a name gets a new list of its own -/
theorem EnvR.setOwn {F H : Hp} {σ : St} {ρ : Rho} (E : EnvR F H σ ρ) (i : Nat) {p : Addr} {s0 : Sl} (ho : SlR F H (some (.ref p)) s0) (hn : ∀ j s, ρ[j]? = some s → s.own = true → j ≠ i → σ[j]? ≠ some (some (.ref p))) : EnvR F H (σ.set i (some (.ref p))) (ρ.set i s0) := by
  refine ⟨E.le, fun j s e => ?_, fun j k a s t e1 e2 o1 o2 h1 h2 => ?_⟩
  · by_cases q : i = j
    · subst q
      by_cases l : i < ρ.length
      · rw [List.getElem?_set_self l] at e
        obtain ⟨o, h, _⟩ := E.sl i ρ[i] (List.getElem?_eq_getElem l)
        cases e
        exact ⟨_, List.getElem?_set_self (List.getElem?_eq_some_iff.mp h).1, ho⟩
      · rw [List.getElem?_eq_none (by simpa using l)] at e; cases e
    · rw [List.getElem?_set_ne q] at e ⊢
      exact E.sl j s e
  · by_cases q1 : i = j
    · by_cases q2 : i = k
      · exact q1.symm.trans q2
      · subst q1
        rw [List.getElem?_set_ne q2] at e2 h2
        by_cases l : i < σ.length
        · rw [List.getElem?_set_self l] at h1
          cases h1
          exact absurd h2 (hn k t e2 o2 (Ne.symm q2))
        · rw [List.getElem?_eq_none (by simpa using l)] at h1; cases h1
    · rw [List.getElem?_set_ne q1] at e1 h1
      by_cases q2 : i = k
      · subst q2
        by_cases l : i < σ.length
        · rw [List.getElem?_set_self l] at h2
          cases h2
          exact absurd h1 (hn j s e1 o1 (Ne.symm q1))
        · rw [List.getElem?_eq_none (by simpa using l)] at h2; cases h2
      · rw [List.getElem?_set_ne q2] at e2 h2
        exact E.ap j k a s t e1 e2 o1 o2 h1 h2
theorem EnvR.own_at {F H : Hp} {σ : St} {ρ : Rho} (E : EnvR F H σ ρ) {j : Nat} {s : Sl} (e : ρ[j]? = some s) (o : s.own = true) {p : Addr} (h : σ[j]? = some (some (.ref p))) : F p = none ∧ H p ≠ none := by
  obtain ⟨w, hw, r⟩ := E.sl j s e
  rw [h] at hw; cases hw
  cases s with
  | un => cases o
  | fr d => cases o
  | ow xs => obtain ⟨a, vs, q, f, z, _⟩ := r; cases q; exact ⟨f, by rw [z]; exact fun z => nomatch z⟩
  | dk xs => obtain ⟨a, vs, q, f, z, _⟩ := r; cases q; exact ⟨f, by rw [z]; exact fun z => nomatch z⟩
  | dt xs => obtain ⟨a, vs, q, f, z, _⟩ := r; cases q; exact ⟨f, by rw [z]; exact fun z => nomatch z⟩
  | sc K ns => cases o
  | rg lo hi => cases o

/-! ### another reading -/
theorem _root_.L2.PE.w {X : Cx} {e : Expr} {t t' : TE} (h : PE X e t) (w : ∀ σ H Q, t' σ H Q → t σ H Q) : PE X e t' := ⟨fun pins s σ H Q I q => h.run pins s σ H Q I (w σ H Q q)⟩
theorem _root_.L2.PT.w {X : Cx} {e : Expr} {t t' : TT} (h : PT X e t) (w : ∀ σ H Q, t' σ H Q → t σ H Q) : PT X e t' := ⟨fun pins s σ H Q I q => h.run pins s σ H Q I (w σ H Q q)⟩
theorem _root_.L2.PA.w {X : Cx} {e : List Expr} {t t' : TA} (h : PA X e t) (w : ∀ σ H Q, t' σ H Q → t σ H Q) : PA X e t' := ⟨fun pos pins s σ H Q I q => h.run pos pins s σ H Q I (w σ H Q q)⟩
theorem _root_.L2.PS.w {X : Cx} {e : Stmt} {t t' : TS} (h : PS X e t) (w : ∀ D σ H, t' D σ H → t D σ H) : PS X e t' := ⟨fun pins s σ H D I q => h.run pins s σ H D I (w D σ H q)⟩
theorem _root_.L2.PSs.w {X : Cx} {e : List Stmt} {t t' : TS} (h : PSs X e t) (w : ∀ D σ H, t' D σ H → t D σ H) : PSs X e t' := ⟨fun pins s σ H D I q => h.run pins s σ H D I (w D σ H q)⟩
theorem _root_.L2.PG.w {X : Cx} {e : Expr} {t t' : TG} (h : PG X e t) (w : ∀ v σ H Q, t' v σ H Q → t v σ H Q) : PG X e t' := ⟨fun pins s σ H v u Q I r q => h.run pins s σ H v u Q I r (w v σ H Q q)⟩
theorem _root_.L2.PI.w {X : Cx} {tg e : Expr} {t t' : TI} (h : PI X tg e t) (w : ∀ σ H Q, t' σ H Q → t σ H Q) : PI X tg e t' := ⟨fun pins s σ H Q I q => h.run pins s σ H Q I (w σ H Q q)⟩

/-! ### what an expression gives -/
/-- frozen data -/
def tE (f : Rho → Option D) : TE := fun σ H Q => ∃ F ρ d, EnvR F H σ ρ ∧ f ρ = some d ∧ ∀ v F' H', Gr F H F' H' → Rp F' v d → Q v H'
/-- a list, frozen or a name's own -/
def tL (f : Rho → Option (List D)) : TE := fun σ H Q => ∃ F ρ xs, EnvR F H σ ρ ∧ f ρ = some xs ∧ ∀ a vs F' H', Gr F H F' H' → H' a = some (.lst vs) → RpAll F' vs xs → Q (.ref a) H'
/-- a value: frozen data, or a new list of its own -/
inductive Rv where
  | fr (d : D)
  | ow (xs : List D)
  /-- a tuple whose first item is a new list of its own -/
  | tp (xs ds : List D)
@[simp] def Rv.data : Rv → D
  | .fr d => d
  | .ow xs => .list xs
  | .tp xs ds => .tuple (.list xs :: ds)
/-- v is r, new since H -/
def RvR (H F' H' : Hp) (v : V) : Rv → Prop
  | .fr d => Rp F' v d
  | .ow xs => ∃ a vs, v = .ref a ∧ H a = none ∧ F' a = none ∧ H' a = some (.lst vs) ∧ RpAll F' vs xs
  | .tp xs ds => ∃ p a vs ws, v = .ref p ∧ H a = none ∧ F' a = none ∧ H' a = some (.lst vs) ∧ RpAll F' vs xs ∧ H p = none ∧ F' p = none ∧ H' p = some (.tup (.ref a :: ws)) ∧ RpAll F' ws ds
def tR (f : Rho → Option Rv) : TE := fun σ H Q => ∃ F ρ r, EnvR F H σ ρ ∧ f ρ = some r ∧ ∀ v F' H', Gr F H F' H' → RvR H F' H' v r → Q v H'
/-- several values, frozen -/
def tA (f : Rho → Option (List D)) : TA := fun σ H Q => ∃ F ρ ds, EnvR F H σ ρ ∧ f ρ = some ds ∧ ∀ vs F' H', Gr F H F' H' → RpAll F' vs ds → Q vs H'
/-- a test -/
def tT (f : Rho → Option Bool) : TT := fun σ H Q => ∃ F ρ b, EnvR F H σ ρ ∧ f ρ = some b ∧ ∀ F' H', Gr F H F' H' → Q b H'
abbrev DE (X : Cx) (e : Expr) (f : Rho → Option D) : Prop := PE X e (tE f)
abbrev DLs (X : Cx) (e : Expr) (f : Rho → Option (List D)) : Prop := PE X e (tL f)
abbrev DR (X : Cx) (e : Expr) (f : Rho → Option Rv) : Prop := PE X e (tR f)
abbrev DA (X : Cx) (e : List Expr) (f : Rho → Option (List D)) : Prop := PA X e (tA f)
abbrev DT (X : Cx) (e : Expr) (f : Rho → Option Bool) : Prop := PT X e (tT f)

section
variable {X : Cx}
theorem bind_some {α β : Type} {x : Option α} {g : α → Option β} {b : β} (h : (x.bind g) = some b) : ∃ a, x = some a ∧ g a = some b := by
  cases x with
  | none => cases h
  | some a => exact ⟨a, rfl, h⟩
/-- a new list, frozen -/
theorem freeze {F H F' H' : Hp} {v : V} {r : Rv} (g : Gr F H F' H') (h : RvR H F' H' v r) : ∃ F'', Gr F H F'' H' ∧ Rp F'' v r.data := by
  cases r with
  | fr d => exact ⟨F', g, h⟩
  | ow xs =>
    obtain ⟨a, vs, rfl, h0, hf, hh, r⟩ := h
    exact ⟨_, g.ice h0 hf hh, .lst upd_same (r.mono (Le.new hf))⟩
  | tp xs ds =>
    obtain ⟨p, a, vs, ws, rfl, h0, hf, hh, r, p0, pf, ph, rs⟩ := h
    have ne : p ≠ a := fun e => by rw [e, hh] at ph; cases ph
    have pf' : upd F' a (.lst vs) p = none := by rw [upd_ne ne]; exact pf
    exact ⟨_, (g.ice h0 hf hh).ice p0 pf' ph, .tup upd_same ((RpAll.cons (.lst upd_same (r.mono (Le.new hf))) (rs.mono (Le.new hf))).mono (Le.new pf'))⟩
@[simp] def kData (f : Rho → Option Rv) (ρ : Rho) : Option D := (f ρ).bind fun r => some r.data
theorem DR.de {e : Expr} {f : Rho → Option Rv} (h : DR X e f) : DE X e (kData f) := h.w fun σ H Q ⟨F, ρ, d, E, ef, q⟩ => by
  obtain ⟨r, e1, e2⟩ := bind_some ef
  refine ⟨F, ρ, r, E, e1, fun v F' H' g rr => ?_⟩
  obtain ⟨F'', g', rp⟩ := freeze g rr
  cases e2
  exact q v F'' H' g' rp
@[simp] def kFr (f : Rho → Option D) (ρ : Rho) : Option Rv := (f ρ).bind fun d => some (.fr d)
theorem DE.dr {e : Expr} {f : Rho → Option D} (h : DE X e f) : DR X e (kFr f) := h.w fun σ H Q ⟨F, ρ, r, E, ef, q⟩ => by
  obtain ⟨d, e1, e2⟩ := bind_some ef
  cases e2
  exact ⟨F, ρ, d, E, e1, fun v F' H' g rp => q v F' H' g rp⟩
@[simp] def asL : D → Option (List D)
  | .list xs => some xs
  | _ => none
@[simp] def kL (f : Rho → Option D) (ρ : Rho) : Option (List D) := (f ρ).bind asL
theorem DE.ls {e : Expr} {f : Rho → Option D} (h : DE X e f) : DLs X e (kL f) := h.w fun σ H Q ⟨F, ρ, xs, E, ef, q⟩ => by
  obtain ⟨d, e1, e2⟩ := bind_some ef
  cases d <;> cases e2
  refine ⟨F, ρ, _, E, e1, fun v F' H' g rp => ?_⟩
  cases rp with
  | lst h1 h2 => exact q _ _ F' H' g (g.s _ _ h1) h2
@[simp] def Rv.list : Rv → Option (List D)
  | .fr (.list xs) => some xs
  | .ow xs => some xs
  | _ => none
@[simp] def kRL (f : Rho → Option Rv) (ρ : Rho) : Option (List D) := (f ρ).bind Rv.list
theorem DR.ls {e : Expr} {f : Rho → Option Rv} (h : DR X e f) : DLs X e (kRL f) := h.w fun σ H Q ⟨F, ρ, xs, E, ef, q⟩ => by
  obtain ⟨d, e1, e2⟩ := bind_some ef
  refine ⟨F, ρ, _, E, e1, fun v F' H' g rp => ?_⟩
  cases d with
  | fr d =>
    cases d <;> cases e2
    cases rp with
    | lst h1 h2 => exact q _ _ F' H' g (g.s _ _ h1) h2
  | ow ys =>
    cases e2
    obtain ⟨a, vs, rfl, h0, hf, hh, r⟩ := rp
    exact q a vs F' H' g hh r
  | tp ys zs => cases e2

/-! ### names, constants -/
@[simp] def gVar (i : Nat) (ρ : Rho) : Option D := match ρ[i]? with
  | some (.fr d) => some d
  | _ => none
theorem DE.var {e : Expr} {i : Nat} (h : PE X e (tVar i)) : DE X e (gVar i) := h.w fun σ H Q ⟨F, ρ, d, E, ef, q⟩ => by
  unfold gVar at ef
  split at ef
  · rename_i d' e1
    cases ef
    obtain ⟨o, e2, v, rfl, r⟩ := E.sl _ _ e1
    exact ⟨v, e2, q v F H (Gr.refl E.le) r⟩
  · cases ef
@[simp] def gLst (i : Nat) (ρ : Rho) : Option (List D) := match ρ[i]? with
  | some (.fr (.list xs)) => some xs
  | some (.ow xs) => some xs
  | _ => none
theorem DLs.var {e : Expr} {i : Nat} (h : PE X e (tVar i)) : DLs X e (gLst i) := h.w fun σ H Q ⟨F, ρ, xs, E, ef, q⟩ => by
  unfold gLst at ef
  split at ef
  · rename_i d' e1
    cases ef
    obtain ⟨o, e2, v, rfl, r⟩ := E.sl _ _ e1
    cases r with
    | lst h1 h2 => exact ⟨_, e2, q _ _ F H (Gr.refl E.le) (E.le _ _ h1) h2⟩
  · rename_i d' e1
    cases ef
    obtain ⟨o, e2, a, vs, rfl, hf, hh, r⟩ := E.sl _ _ e1
    exact ⟨_, e2, q a vs F H (Gr.refl E.le) hh r⟩
  · cases ef
@[simp] def kC (d : D) (_ : Rho) : Option D := some d
theorem DE.c {e : Expr} {v : V} {d : D} (h : PE X e (tC v)) (r : ∀ F, Rp F v d) : DE X e (kC d) := h.w fun σ H Q ⟨F, ρ, d', E, ef, q⟩ => by
  cases ef
  exact q v F H (Gr.refl E.le) (r F)
theorem DE.int {i : Int} {j : Nat} {pos : Pos} : DE X (.Constant (.int i) j pos) (kC (.int i)) := DE.c pe_int fun _ => .int i
theorem DE.bl {b : Bool} {j : Nat} {pos : Pos} : DE X (.Constant (.bool b) j pos) (kC (.bool b)) := DE.c pe_bl fun _ => .bl b
theorem DE.non {j : Nat} {pos : Pos} : DE X (.Constant .none j pos) (kC .none) := DE.c pe_non fun _ => .non
theorem DE.str {x : Str} {j : Nat} {pos : Pos} : DE X (.Constant (.str x) j pos) (kC (.str x)) := DE.c pe_str fun _ => .str x
/-- an int of the module -/
theorem DE.glob {x : Str} {i : Int} {t : Tok} {pos : Pos} (hg : Gl X x) (hm : X.mg x = some (.int i t)) (hd : (x == ("__debug__" : Str)) = false := by decide) : DE X (.Name x pos) (kC (.int i)) := DE.c (pe_glob (v := .int i) hg hm ⟨t, rfl⟩ hd) fun _ => .int i

/-! ### several values -/
@[simp] def kNil (_ : Rho) : Option (List D) := some []
theorem DA.nil : DA X [] kNil := pa_nil.w fun σ H Q ⟨F, ρ, ds, E, ef, q⟩ => by
  cases ef
  exact q [] F H (Gr.refl E.le) .nil
@[simp] def kCons (f : Rho → Option D) (g : Rho → Option (List D)) (ρ : Rho) : Option (List D) := (f ρ).bind fun x => (g ρ).bind fun xs => some (x :: xs)
theorem DA.cons {e : Expr} {es : List Expr} {f : Rho → Option D} {g : Rho → Option (List D)} (h : DE X e f) (t : DA X es g) (hs : starEach (e :: es) X.env = (false, eval e X.env) :: starEach es X.env := by rfl) : DA X (e :: es) (kCons f g) := (pa_cons h t hs).w fun σ H Q ⟨F, ρ, ds, E, ef, q⟩ => by
  obtain ⟨x, e1, ef⟩ := bind_some ef
  obtain ⟨xs, e2, ef⟩ := bind_some ef
  cases ef
  refine ⟨F, ρ, x, E, e1, fun v F1 H1 g1 r1 => ⟨F1, ρ, xs, E.gr g1, e2, fun vs F2 H2 g2 r2 => ?_⟩⟩
  exact q _ F2 H2 (g1.trans g2) (.cons (r1.mono g2.f) r2)
end
end DL

set_option Elab.async false
set_option linter.all false
set_option maxRecDepth 100000
set_option maxHeartbeats 2000000
namespace DL
open PySem PySem.Spec L2

abbrev line : Nat := 16777216
theorem line_eq : (sizeLine : Nat) = line := sizeLine_eq
/-- a two-place operation on values does what a function on data says -/
def OpD (r : R2) (g : D → D → Option D) : Prop := ∀ (F H : Hp) (x y : V) (dx dy d : D), Le F H → Rp F x dx → Rp F y dy → g dx dy = some d → ∀ Q : VK, (∀ v F' H', Gr F H F' H' → Rp F' v d → Q v H') → r x y H Q
def UnD (r : V → Hp → VK → Prop) (g : D → Option D) : Prop := ∀ (F H : Hp) (x : V) (dx d : D), Le F H → Rp F x dx → g dx = some d → ∀ Q : VK, (∀ v F' H', Gr F H F' H' → Rp F' v d → Q v H') → r x H Q
@[simp] def kBin (g : D → D → Option D) (f1 f2 : Rho → Option D) (ρ : Rho) : Option D := (f1 ρ).bind fun x => (f2 ρ).bind fun y => g x y
@[simp] def kUn (g : D → Option D) (f : Rho → Option D) (ρ : Rho) : Option D := (f ρ).bind g
section
variable {X : Cx} {a b c : Expr} {f1 f2 f3 : Rho → Option D} {pos : Pos}
theorem bin_w {r : R2} {g : D → D → Option D} (hg : OpD r g) (σ : L2.St) (H : Hp) (Q : VK) (h : tE (kBin g f1 f2) σ H Q) : tOp r (tE f1) (tE f2) σ H Q := by
  obtain ⟨F, ρ, d, E, ef, q⟩ := h
  obtain ⟨x, e1, ef⟩ := bind_some ef
  obtain ⟨y, e2, ef⟩ := bind_some ef
  refine ⟨F, ρ, x, E, e1, fun v F1 H1 g1 r1 => ⟨F1, ρ, y, E.gr g1, e2, fun u F2 H2 g2 r2 => ?_⟩⟩
  exact hg F2 H2 v u x y d g2.s (r1.mono g2.f) r2 ef Q fun w F3 H3 g3 r3 => q w F3 H3 ((g1.trans g2).trans g3) r3
theorem DE.bin {op : Operator} {r : R2} {g : D → D → Option D} (ho : OpR X (binaryOp op) r) (hg : OpD r g) (ha : DE X a f1) (hb : DE X b f2) : DE X (.BinOp a op b pos) (kBin g f1 f2) :=
  (pe_op ho ha hb).w fun σ H Q h => bin_w hg σ H Q h
theorem DE.un {op : UnaryOp} {r : V → Hp → VK → Prop} {g : D → Option D} (ho : UnR X (unaryOp op) r) (hg : UnD r g) (ha : DE X a f1) : DE X (.UnaryOp op a pos) (kUn g f1) :=
  (pe_un ho ha).w fun σ H Q ⟨F, ρ, d, E, ef, q⟩ => by
    obtain ⟨x, e1, ef⟩ := bind_some ef
    refine ⟨F, ρ, x, E, e1, fun v F1 H1 g1 r1 => ?_⟩
    exact hg F1 H1 v x d g1.s r1 ef Q fun w F3 H3 g3 r3 => q w F3 H3 (g1.trans g3) r3
theorem DE.cmp {op : CmpOp} {r : R2} {g : D → D → Option D} (ho : OpR X (compareOp op) r) (hg : OpD r g) (ha : DE X a f1) (hb : DE X b f2) (hm : behindInMarks op b = false := by rfl) : DE X (.Compare a [op] [b] pos) (kBin g f1 f2) :=
  (pe_cmpR ho ha hb hm).w fun σ H Q h => bin_w hg σ H Q h
@[simp] def asB : D → Option Bool
  | .bool b => some b
  | _ => none
@[simp] def kB (f : Rho → Option D) (ρ : Rho) : Option Bool := (f ρ).bind asB
theorem test_w {t : TE} {f : Rho → Option D} (ht : ∀ σ H Q, tE f σ H Q → t σ H Q) (σ : L2.St) (H : Hp) (Q : Bool → Hp → Prop) (h : tT (kB f) σ H Q) : t σ H fun x H' => ∃ k, x = .bl k ∧ Q k H' := by
  obtain ⟨F, ρ, bb, E, ef, q⟩ := h
  obtain ⟨d, e1, ef⟩ := bind_some ef
  cases d <;> cases ef
  refine ht _ _ _ ⟨F, ρ, _, E, e1, fun v F1 H1 g1 r1 => ?_⟩
  cases r1
  exact ⟨_, rfl, q F1 H1 g1⟩
theorem DT.cmp {op : CmpOp} {r : R2} {g : D → D → Option D} (ho : OpR X (compareOp op) r) (hg : OpD r g) (ha : DE X a f1) (hb : DE X b f2) (hm : behindInMarks op b = false := by rfl) : DT X (.Compare a [op] [b] pos) (kB (kBin g f1 f2)) :=
  (pt_cmpR ho ha hb hm).w fun σ H Q h => test_w (fun σ H Q h => bin_w hg σ H Q h) σ H Q h
theorem DT.val {f : Rho → Option D} (h : DE X a f) (he : ∀ whole, isTrue a X.env whole = (do let v ← whole; standAt a.pos; holding [v] (truthy v)) := by intro _; rfl) : DT X a (kB f) :=
  (pt_val h he).w fun σ H Q h => test_w (fun _ _ _ h => h) σ H Q h
/-- a < b < c -/
@[simp] def kChain (g g' : D → D → Option D) (f1 f2 f3 : Rho → Option D) (ρ : Rho) : Option D := (f1 ρ).bind fun x => (f2 ρ).bind fun y => (g x y).bind fun k => match k with
  | .bool true => (f3 ρ).bind fun z => g' y z
  | .bool false => some (.bool false)
  | _ => none
theorem chain_w {r r' : R2} {g g' : D → D → Option D} (hg : OpD r g) (hg' : OpD r' g') (σ : L2.St) (H : Hp) (Q : VK) (h : tE (kChain g g' f1 f2 f3) σ H Q) : tChain r r' (tE f1) (tE f2) (tE f3) σ H Q := by
  obtain ⟨F, ρ, d, E, ef, q⟩ := h
  obtain ⟨x, e1, ef⟩ := bind_some ef
  obtain ⟨y, e2, ef⟩ := bind_some ef
  obtain ⟨k, e3, ef⟩ := bind_some ef
  refine ⟨F, ρ, x, E, e1, fun v F1 H1 g1 r1 => ⟨F1, ρ, y, E.gr g1, e2, fun u F2 H2 g2 r2 => ?_⟩⟩
  refine hg F2 H2 v u x y k g2.s (r1.mono g2.f) r2 e3 _ fun w F3 H3 g3 r3 => ?_
  split at ef
  · obtain ⟨z, e4, ef⟩ := bind_some ef
    cases r3
    refine ⟨true, rfl, ?_⟩
    rw [if_pos rfl]
    refine ⟨F3, ρ, z, ((E.gr g1).gr g2).gr g3, e4, fun w F4 H4 g4 r4 => ?_⟩
    exact hg' F4 H4 u w y z d g4.s (r2.mono (g3.f.trans g4.f)) r4 ef Q fun w F5 H5 g5 r5 => q w F5 H5 (((g1.trans g2).trans (g3.trans g4)).trans g5) r5
  · cases ef
    cases r3
    refine ⟨false, rfl, ?_⟩
    rw [if_neg Bool.false_ne_true]
    exact q _ F3 H3 ((g1.trans g2).trans g3) (.bl false)
  · cases ef
theorem DE.chain {op op' : CmpOp} {r r' : R2} {g g' : D → D → Option D} (ho : OpR X (compareOp op) r) (hg : OpD r g) (ho' : OpR X (compareOp op') r') (hg' : OpD r' g') (ha : DE X a f1) (hb : DE X b f2) (hc : DE X c f3) (hm : lastMarks [op, op'] [b, c] = false := by with_unfolding_all rfl) :
    DE X (.Compare a [op, op'] [b, c] pos) (kChain g g' f1 f2 f3) := (pe_chain ho ho' ha hb hc hm).w fun σ H Q h => chain_w hg hg' σ H Q h
theorem DT.chain {op op' : CmpOp} {r r' : R2} {g g' : D → D → Option D} (ho : OpR X (compareOp op) r) (hg : OpD r g) (ho' : OpR X (compareOp op') r') (hg' : OpD r' g') (ha : DE X a f1) (hb : DE X b f2) (hc : DE X c f3) (hm : lastMarks [op, op'] [b, c] = false := by with_unfolding_all rfl) :
    DT X (.Compare a [op, op'] [b, c] pos) (kB (kChain g g' f1 f2 f3)) := (pt_chain ho ho' ha hb hc hm).w fun σ H Q h => test_w (fun σ H Q h => chain_w hg hg' σ H Q h) σ H Q h

/-! ### and, or, not, if-else -/
@[simp] def kAnd (f g : Rho → Option Bool) (ρ : Rho) : Option Bool := (f ρ).bind fun x => if x = true then g ρ else some false
@[simp] def kOr (f g : Rho → Option Bool) (ρ : Rho) : Option Bool := (f ρ).bind fun x => if x = true then some true else g ρ
@[simp] def kNot (f : Rho → Option Bool) (ρ : Rho) : Option Bool := (f ρ).bind fun x => some (!x)
@[simp] def kOfB (f : Rho → Option Bool) (ρ : Rho) : Option D := (f ρ).bind fun x => some (.bool x)
abbrev DW (X : Cx) (e : Expr) (f : Rho → Option Bool) : Prop := PW X e (tT f)
theorem _root_.L2.PW.w {X : Cx} {e : Expr} {t t' : TT} (h : PW X e t) (w : ∀ σ H Q, t' σ H Q → t σ H Q) : PW X e t' := ⟨fun wh pins s σ H Q I q => h.run wh pins s σ H Q I (w σ H Q q)⟩
variable {t1 t2 : Rho → Option Bool} {rest : List Expr}
theorem DW.and1 (ha : DT X a t1) : DW X (.BoolOp .And [a] pos) t1 := pw_and1 ha
theorem DW.or1 (ha : DT X a t1) : DW X (.BoolOp .Or [a] pos) t1 := pw_or1 ha
theorem and_w (σ : L2.St) (H : Hp) (Q : Bool → Hp → Prop) (h : tT (kAnd t1 t2) σ H Q) : tAnd (tT t1) (tT t2) σ H Q := by
  obtain ⟨F, ρ, bb, E, ef, q⟩ := h
  obtain ⟨x, e1, ef⟩ := bind_some ef
  refine ⟨F, ρ, x, E, e1, fun F1 H1 g1 => ?_⟩
  cases x with
  | true =>
    rw [if_pos rfl] at ef ⊢
    exact ⟨F1, ρ, bb, E.gr g1, ef, fun F2 H2 g2 => q F2 H2 (g1.trans g2)⟩
  | false =>
    rw [if_neg Bool.false_ne_true] at ef ⊢
    cases ef
    exact q F1 H1 g1
theorem or_w (σ : L2.St) (H : Hp) (Q : Bool → Hp → Prop) (h : tT (kOr t1 t2) σ H Q) : tOr (tT t1) (tT t2) σ H Q := by
  obtain ⟨F, ρ, bb, E, ef, q⟩ := h
  obtain ⟨x, e1, ef⟩ := bind_some ef
  refine ⟨F, ρ, x, E, e1, fun F1 H1 g1 => ?_⟩
  cases x with
  | true =>
    rw [if_pos rfl] at ef ⊢
    cases ef
    exact q F1 H1 g1
  | false =>
    rw [if_neg Bool.false_ne_true] at ef ⊢
    exact ⟨F1, ρ, bb, E.gr g1, ef, fun F2 H2 g2 => q F2 H2 (g1.trans g2)⟩
theorem DW.and (ha : DT X a t1) (hb : DW X (.BoolOp .And (b :: rest) pos) t2) : DW X (.BoolOp .And (a :: b :: rest) pos) (kAnd t1 t2) := (pw_and ha hb).w and_w
theorem DW.or (ha : DT X a t1) (hb : DW X (.BoolOp .Or (b :: rest) pos) t2) : DW X (.BoolOp .Or (a :: b :: rest) pos) (kOr t1 t2) := (pw_or ha hb).w or_w
theorem DW.t (h : DW X a t1) : DT X a t1 := h.pt
theorem DT.not (ha : DT X a t1) : DT X (.UnaryOp .Not a pos) (kNot t1) := (pt_not ha).w fun σ H Q ⟨F, ρ, bb, E, ef, q⟩ => by
  obtain ⟨x, e1, ef⟩ := bind_some ef
  cases ef
  exact ⟨F, ρ, x, E, e1, q⟩
/-- .. as values; each part is a bool -/
@[simp] def vAnd (f g : Rho → Option D) (ρ : Rho) : Option D := (f ρ).bind fun x => match x with
  | .bool true => (g ρ).bind fun y => match y with | .bool k => some (.bool k) | _ => none
  | .bool false => some (.bool false)
  | _ => none
@[simp] def vOr (f g : Rho → Option D) (ρ : Rho) : Option D := (f ρ).bind fun x => match x with
  | .bool false => (g ρ).bind fun y => match y with | .bool k => some (.bool k) | _ => none
  | .bool true => some (.bool true)
  | _ => none
theorem DE.one {op : BoolOp} (h : DE X a f1) : DE X (.BoolOp op [a] pos) f1 := pe_one h
theorem DE.and (ha : DE X a f1) (hb : DE X (.BoolOp .And (b :: rest) pos) f2) : DE X (.BoolOp .And (a :: b :: rest) pos) (vAnd f1 f2) := (pe_and ha hb).w fun σ H Q ⟨F, ρ, d, E, ef, q⟩ => by
  obtain ⟨x, e1, ef⟩ := bind_some ef
  refine ⟨F, ρ, x, E, e1, fun v F1 H1 g1 r1 => ?_⟩
  split at ef
  · obtain ⟨y, e2, ef⟩ := bind_some ef
    cases r1
    refine ⟨true, rfl, ?_⟩
    rw [if_pos rfl]
    refine ⟨F1, ρ, y, E.gr g1, e2, fun w F2 H2 g2 r2 => ?_⟩
    cases y <;> cases ef
    exact q w F2 H2 (g1.trans g2) r2
  · cases r1
    refine ⟨false, rfl, ?_⟩
    rw [if_neg Bool.false_ne_true]
    cases ef
    exact q _ F1 H1 g1 (.bl false)
  · cases ef
theorem DE.or (ha : DE X a f1) (hb : DE X (.BoolOp .Or (b :: rest) pos) f2) : DE X (.BoolOp .Or (a :: b :: rest) pos) (vOr f1 f2) := (pe_or ha hb).w fun σ H Q ⟨F, ρ, d, E, ef, q⟩ => by
  obtain ⟨x, e1, ef⟩ := bind_some ef
  refine ⟨F, ρ, x, E, e1, fun v F1 H1 g1 r1 => ?_⟩
  split at ef
  · obtain ⟨y, e2, ef⟩ := bind_some ef
    cases r1
    refine ⟨false, rfl, ?_⟩
    rw [if_neg Bool.false_ne_true]
    refine ⟨F1, ρ, y, E.gr g1, e2, fun w F2 H2 g2 r2 => ?_⟩
    cases y <;> cases ef
    exact q w F2 H2 (g1.trans g2) r2
  · cases r1
    refine ⟨true, rfl, ?_⟩
    rw [if_pos rfl]
    cases ef
    exact q _ F1 H1 g1 (.bl true)
  · cases ef
@[simp] def vNot (f : Rho → Option D) (ρ : Rho) : Option D := (f ρ).bind fun x => match x with
  | .bool k => some (.bool (!k))
  | _ => none
theorem DE.not (ha : DE X a f1) : DE X (.UnaryOp .Not a pos) (vNot f1) := (pe_not ha).w fun σ H Q ⟨F, ρ, d, E, ef, q⟩ => by
  obtain ⟨x, e1, ef⟩ := bind_some ef
  refine ⟨F, ρ, x, E, e1, fun v F1 H1 g1 r1 => ?_⟩
  cases x <;> cases ef
  cases r1
  exact ⟨_, rfl, q _ F1 H1 g1 (.bl _)⟩
@[simp] def kIf (t : Rho → Option Bool) (f g : Rho → Option D) (ρ : Rho) : Option D := (t ρ).bind fun k => if k = true then f ρ else g ρ
theorem DE.ifE (hc : DT X c t1) (ha : DE X a f1) (hb : DE X b f2) : DE X (.IfExp c a b pos) (kIf t1 f1 f2) := (pe_ifExp hc ha hb).w fun σ H Q ⟨F, ρ, d, E, ef, q⟩ => by
  obtain ⟨x, e1, ef⟩ := bind_some ef
  refine ⟨F, ρ, x, E, e1, fun F1 H1 g1 => ?_⟩
  cases x with
  | true =>
    rw [if_pos rfl] at ef ⊢
    exact ⟨F1, ρ, d, E.gr g1, ef, fun v F2 H2 g2 r2 => q v F2 H2 (g1.trans g2) r2⟩
  | false =>
    rw [if_neg Bool.false_ne_true] at ef ⊢
    exact ⟨F1, ρ, d, E.gr g1, ef, fun v F2 H2 g2 r2 => q v F2 H2 (g1.trans g2) r2⟩
end

/-! ### ints -/
@[simp] def gAdd : D → D → Option D
  | .int i, .int j => some (.int (i + j))
  | .list xs, .list ys => if xs.length + ys.length ≤ line then some (.list (xs ++ ys)) else none
  | .tuple xs, .tuple ys => if xs.length + ys.length ≤ line then some (.tuple (xs ++ ys)) else none
  | _, _ => none
@[simp] def gSub : D → D → Option D
  | .int i, .int j => some (.int (i - j))
  | _, _ => none
def okMul (i j : Int) : Bool := decide (i.natAbs < 2 ^ 64) || decide (j.natAbs < 2 ^ 64)
@[simp] def gMul : D → D → Option D
  | .int i, .int j => if okMul i j = true then some (.int (i * j)) else none
  | .list xs, .int k => if k < 2 ^ 32 ∧ -(2 ^ 32) < k ∧ xs.length * k.toNat ≤ line then some (.list (List.replicate k.toNat xs).flatten) else none
  | _, _ => none
@[simp] def gDiv : D → D → Option D
  | .int i, .int j => if j ≠ 0 ∧ j.natAbs < 1073741824 then some (.int (i.fdiv j)) else none
  | _, _ => none
@[simp] def gMod : D → D → Option D
  | .int i, .int j => if j ≠ 0 then some (.int (i.fmod j)) else none
  | _, _ => none
@[simp] def gPow : D → D → Option D
  | .int i, .int j => if 0 ≤ j ∧ j ≤ 1000000 ∧ i.natAbs < 2 ^ 64 then some (.int (i ^ j.toNat)) else none
  | _, _ => none
@[simp] def gNeg : D → Option D
  | .int i => some (.int (-i))
  | _ => none
@[simp] def gLt : D → D → Option D
  | .int i, .int j => some (.bool (decide (i < j)))
  | _, _ => none
@[simp] def gLe : D → D → Option D
  | .int i, .int j => some (.bool (decide (i ≤ j)))
  | _, _ => none
@[simp] def gGt : D → D → Option D
  | .int i, .int j => some (.bool (decide (j < i)))
  | _, _ => none
@[simp] def gGe : D → D → Option D
  | .int i, .int j => some (.bool (decide (j ≤ i)))
  | _, _ => none
def gEq (x y : D) : Option D := if SeqAt.shaped x = true ∧ SeqAt.shaped y = true then some (.bool (PyData.eqv x y)) else none
def gNe (x y : D) : Option D := if SeqAt.shaped x = true ∧ SeqAt.shaped y = true then some (.bool (!PyData.eqv x y)) else none
@[simp] def gIn : D → D → Option D
  | x, .list ys => if SeqAt.shaped x = true ∧ SeqAt.shaped (.list ys) = true then some (.bool (ys.any fun z => PyData.eqv z x)) else none
  | _, _ => none
@[simp] def gNotIn : D → D → Option D
  | x, .list ys => if SeqAt.shaped x = true ∧ SeqAt.shaped (.list ys) = true then some (.bool (!ys.any fun z => PyData.eqv z x)) else none
  | _, _ => none
@[simp] def gIs (x y : D) : Option D := match x, y with
  | .none, .none => some (.bool true)
  | _, .none => some (.bool false)
  | _, _ => none
@[simp] def gIsNot (x y : D) : Option D := match x, y with
  | .none, .none => some (.bool false)
  | _, .none => some (.bool true)
  | _, _ => none
section
variable {K : PySem.W.Frag}
theorem rep_none {F : Hp} {v : V} {d : D} (r : Rp F v d) : decide (v = .non) = (match d with | .none => true | _ => false) := by
  cases r <;> simp
theorem od_sub : OpD (rI0 fun i j => .int (i - j)) gSub := by
  intro F H x y dx dy d l r1 r2 e Q q
  cases dx <;> cases dy <;> cases e
  cases r1; cases r2
  exact ⟨_, _, rfl, rfl, q _ F H (Gr.refl l) (.int _)⟩
theorem od_cmp {g : Int → Int → Bool} {gd : D → D → Option D} (hg : ∀ dx dy d, gd dx dy = some d → ∃ i j, dx = .int i ∧ dy = .int j ∧ d = .bool (g i j)) : OpD (rI0 fun i j => .bl (g i j)) gd := by
  intro F H x y dx dy d l r1 r2 e Q q
  obtain ⟨i, j, rfl, rfl, rfl⟩ := hg _ _ _ e
  cases r1; cases r2
  exact ⟨_, _, rfl, rfl, q _ F H (Gr.refl l) (.bl _)⟩
theorem od_lt : OpD (rI0 fun i j => .bl (decide (i < j))) gLt := od_cmp fun dx dy d e => by
  cases dx <;> cases dy <;> cases e
  exact ⟨_, _, rfl, rfl, rfl⟩
theorem od_le : OpD (rI0 fun i j => .bl (decide (i ≤ j))) gLe := od_cmp fun dx dy d e => by
  cases dx <;> cases dy <;> cases e
  exact ⟨_, _, rfl, rfl, rfl⟩
theorem od_gt : OpD (rI0 fun i j => .bl (decide (j < i))) gGt := od_cmp fun dx dy d e => by
  cases dx <;> cases dy <;> cases e
  exact ⟨_, _, rfl, rfl, rfl⟩
theorem od_ge : OpD (rI0 fun i j => .bl (decide (j ≤ i))) gGe := od_cmp fun dx dy d e => by
  cases dx <;> cases dy <;> cases e
  exact ⟨_, _, rfl, rfl, rfl⟩
theorem od_div : OpD (rI CDivN fun i j => .int (i.fdiv j)) gDiv := by
  intro F H x y dx dy d l r1 r2 e Q q
  unfold gDiv at e
  split at e
  · split at e
    · rename_i h
      cases e
      cases r1; cases r2
      exact ⟨_, _, rfl, rfl, h, q _ F H (Gr.refl l) (.int _)⟩
    · cases e
  · cases e
theorem od_mod : OpD (rI (fun _ j => j ≠ 0) fun i j => .int (i.fmod j)) gMod := by
  intro F H x y dx dy d l r1 r2 e Q q
  unfold gMod at e
  split at e
  · split at e
    · rename_i h
      cases e
      cases r1; cases r2
      exact ⟨_, _, rfl, rfl, h, q _ F H (Gr.refl l) (.int _)⟩
    · cases e
  · cases e
theorem od_pow : OpD (rI CPow fun i j => .int (i ^ j.toNat)) gPow := by
  intro F H x y dx dy d l r1 r2 e Q q
  unfold gPow at e
  split at e
  · split at e
    · rename_i h
      cases e
      cases r1; cases r2
      exact ⟨_, _, rfl, rfl, h, q _ F H (Gr.refl l) (.int _)⟩
    · cases e
  · cases e
theorem ud_neg : UnD (rU fun i => .int (-i)) gNeg := by
  intro F H x dx d l r1 e Q q
  cases dx <;> cases e
  cases r1
  exact ⟨_, rfl, q _ F H (Gr.refl l) (.int _)⟩
theorem RpAll.replicate {F : Hp} {vs : List V} {ds : List D} (r : RpAll F vs ds) : ∀ n : Nat, RpAll F (List.replicate n vs).flatten (List.replicate n ds).flatten
  | 0 => .nil
  | n + 1 => by
    rw [List.replicate_succ, List.replicate_succ, List.flatten_cons, List.flatten_cons]
    exact r.append (RpAll.replicate r n)
def rMulD : R2 := fun x y H Q => rI CMul (fun i j => .int (i * j)) x y H Q ∨ rRep x y H Q
theorem op_mulD {X : Cx} : OpR X (binaryOp .Mult) rMulD := OpR.or op_mul op_rep
theorem od_mul : OpD rMulD gMul := by
  intro F H x y dx dy d l r1 r2 e Q q
  unfold gMul at e
  split at e
  · split at e
    · rename_i i j h
      cases e
      cases r1; cases r2
      refine .inl ⟨_, _, rfl, rfl, ?_, q _ F H (Gr.refl l) (.int _)⟩
      unfold okMul at h
      rw [Bool.or_eq_true, decide_eq_true_iff, decide_eq_true_iff] at h
      rcases h with h | h
      · exact .inl (by omega)
      · exact .inr (by omega)
    · cases e
  · split at e
    · rename_i xs k h
      cases e
      cases r1 with
      | lst h1 h2 =>
        cases r2
        refine .inr ⟨_, _, _, rfl, rfl, l _ _ h1, by omega, by omega, by rw [h2.length, line_eq]; exact h.2.2, fun p hp => ?_⟩
        exact q _ _ _ (Gr.frz l hp) (.lst upd_same ((h2.replicate _).mono (Le.new (free_of l hp))))
    · cases e
  · cases e
def rAddD (K : PySem.W.Frag) : R2 := fun x y H Q => rI0 (fun i j => .int (i + j)) x y H Q ∨ rCat x y H Q ∨ rCatA K x y H Q
theorem op_addD {X : Cx} : OpR X (binaryOp .Add) (rAddD X.K) := OpR.or op_add (OpR.or op_cat op_catA)
theorem od_add : OpD (rAddD K) gAdd := by
  intro F H x y dx dy d l r1 r2 e Q q
  unfold gAdd at e
  split at e
  · cases e
    cases r1; cases r2
    exact .inl ⟨_, _, rfl, rfl, q _ F H (Gr.refl l) (.int _)⟩
  · split at e
    · rename_i xs ys h
      cases e
      cases r1 with
      | lst h1 h2 =>
        cases r2 with
        | lst h3 h4 =>
          refine .inr (.inl ⟨_, _, _, _, rfl, rfl, l _ _ h1, l _ _ h3, by rw [h2.length, h4.length, line_eq]; exact h, fun p hp => ?_⟩)
          exact q _ _ _ (Gr.frz l hp) (.lst upd_same ((h2.append h4).mono (Le.new (free_of l hp))))
    · cases e
  · split at e
    · rename_i xs ys h
      cases e
      cases r1 with
      | tup h1 h2 =>
        cases r2 with
        | tup h3 h4 =>
          refine .inr (.inr ⟨_, _, _, _, rfl, rfl, SqT.of (l _ _ h1), SqT.of (l _ _ h3), by rw [h2.length, h4.length, line_eq]; exact h, fun e1 => ?_, fun e1 e2 => ?_, fun e1 e2 p hp => ?_⟩)
          · subst e1
            cases h2
            exact q _ F H (Gr.refl l) (.tup h3 h4)
          · subst e2
            cases h4
            rw [List.append_nil] at q
            exact q _ F H (Gr.refl l) (.tup h1 h2)
          · exact q _ _ _ (Gr.frz l hp) (.tup upd_same ((h2.append h4).mono (Le.new (free_of l hp))))
    · cases e
  · cases e
theorem od_eq : OpD (rEqD K) gEq := by
  intro F H x y dx dy d l r1 r2 e Q q
  unfold gEq at e
  split at e <;> cases e
  rename_i h
  exact ⟨dx, dy, r1.dp l, r2.dp l, h.1, h.2, q _ F H (Gr.refl l) (.bl _)⟩
theorem od_ne : OpD (rNeD K) gNe := by
  intro F H x y dx dy d l r1 r2 e Q q
  unfold gNe at e
  split at e <;> cases e
  rename_i h
  exact ⟨dx, dy, r1.dp l, r2.dp l, h.1, h.2, q _ F H (Gr.refl l) (.bl _)⟩
theorem od_in : OpD (rInD K) gIn := by
  intro F H x y dx dy d l r1 r2 e Q q
  unfold gIn at e
  split at e
  · split at e
    · rename_i h
      cases e
      exact ⟨dx, _, r1.dp l, r2.dp l, h.1, h.2, q _ F H (Gr.refl l) (.bl _)⟩
    · cases e
  · cases e
theorem od_notIn : OpD (rNotInD K) gNotIn := by
  intro F H x y dx dy d l r1 r2 e Q q
  unfold gNotIn at e
  split at e
  · split at e
    · rename_i h
      cases e
      exact ⟨dx, _, r1.dp l, r2.dp l, h.1, h.2, q _ F H (Gr.refl l) (.bl _)⟩
    · cases e
  · cases e
def rIsD : R2 := fun x y H Q => y = .non ∧ Q (.bl (decide (x = .non))) H
def rIsNotD : R2 := fun x y H Q => y = .non ∧ Q (.bl (!decide (x = .non))) H
theorem op_isD {X : Cx} : OpR X (compareOp .Is) rIsD := op_isN
theorem op_isNotD {X : Cx} : OpR X (compareOp .IsNot) rIsNotD := op_notN
theorem od_is : OpD rIsD gIs := by
  intro F H x y dx dy d l r1 r2 e Q q
  unfold gIs at e
  split at e
  · cases e
    cases r2; cases r1
    exact ⟨rfl, q _ F H (Gr.refl l) (.bl _)⟩
  · rename_i hn
    cases e
    cases r2
    refine ⟨rfl, ?_⟩
    rw [rep_none r1]
    refine q _ F H (Gr.refl l) ?_
    cases dx <;> first | exact .bl false | exact (hn rfl).elim
  · cases e
theorem od_isNot : OpD rIsNotD gIsNot := by
  intro F H x y dx dy d l r1 r2 e Q q
  unfold gIsNot at e
  split at e
  · cases e
    cases r2; cases r1
    exact ⟨rfl, q _ F H (Gr.refl l) (.bl _)⟩
  · rename_i hn
    cases e
    cases r2
    refine ⟨rfl, ?_⟩
    rw [rep_none r1]
    refine q _ F H (Gr.refl l) ?_
    cases dx <;> first | exact .bl true | exact (hn rfl).elim
  · cases e
end
end DL

set_option Elab.async false
set_option linter.all false
set_option maxRecDepth 100000
set_option maxHeartbeats 2000000
namespace DL
open PySem PySem.Spec L2

/-- a list or a tuple at a -/
def SqH (H : Hp) (a : Addr) (vs : List V) : Prop := H a = some (.lst vs) ∨ H a = some (.tup vs)
theorem SqH.le {H H' : Hp} {a : Addr} {vs : List V} (l : Le H H') (h : SqH H a vs) : SqH H' a vs := h.elim (fun q => .inl (l _ _ q)) fun q => .inr (l _ _ q)
theorem SqH.sq {K : PySem.W.Frag} {H : Hp} {a : Addr} {vs : List V} (h : SqH H a vs) : SqL K H a vs ∨ SqT K H a vs := h.elim (fun q => .inl (SqL.of q)) fun q => .inr (SqT.of q)
def tQ (f : Rho → Option (List D)) : TE := fun σ H Q => ∃ F ρ xs, EnvR F H σ ρ ∧ f ρ = some xs ∧ ∀ a vs F' H', Gr F H F' H' → SqH H' a vs → RpAll F' vs xs → Q (.ref a) H'
abbrev DQ (X : Cx) (e : Expr) (f : Rho → Option (List D)) : Prop := PE X e (tQ f)
@[simp] def asQ : D → Option (List D)
  | .list xs => some xs
  | .tuple xs => some xs
  | _ => none
@[simp] def kQ (f : Rho → Option D) (ρ : Rho) : Option (List D) := (f ρ).bind asQ
section
variable {X : Cx} {e a b : Expr} {pos : Pos}
theorem DE.q {f : Rho → Option D} (h : DE X e f) : DQ X e (kQ f) := h.w fun σ H Q ⟨F, ρ, xs, E, ef, q⟩ => by
  obtain ⟨d, e1, e2⟩ := bind_some ef
  refine ⟨F, ρ, d, E, e1, fun v F' H' g rp => ?_⟩
  cases d <;> cases e2
  · cases rp with
    | lst h1 h2 => exact q _ _ F' H' g (.inl (g.s _ _ h1)) h2
  · cases rp with
    | tup h1 h2 => exact q _ _ F' H' g (.inr (g.s _ _ h1)) h2
theorem DLs.q {f : Rho → Option (List D)} (h : DLs X e f) : DQ X e f := h.w fun σ H Q ⟨F, ρ, xs, E, ef, q⟩ => ⟨F, ρ, xs, E, ef, fun a vs F' H' g h r => q a vs F' H' g (.inl h) r⟩

/-! ### places -/
theorem atI_rp {F : Hp} {vs : List V} {ds : List D} {i : Int} {d : D} (r : RpAll F vs ds) (h : atI ds i = some d) : ∃ v, atI vs i = some v ∧ Rp F v d := by
  unfold atI at h ⊢
  obtain ⟨j, e1, e2⟩ := bind_some h
  obtain ⟨v, h1, h2⟩ := r.get e2
  exact ⟨v, by rw [r.length, e1]; exact h1, h2⟩
@[simp] def kIx (f : Rho → Option (List D)) (g : Rho → Option D) (ρ : Rho) : Option D := (f ρ).bind fun xs => (g ρ).bind fun i => match i with
  | .int i => atI xs i
  | _ => none
def rIxD (K : PySem.W.Frag) : R2 := fun x y H Q => rIxL K x y H Q ∨ rIxT K x y H Q
theorem ix_D : IxR X (rIxD X.K) := IxR.or ix_list ix_tup
theorem DE.ix {f : Rho → Option (List D)} {g : Rho → Option D} (ha : DQ X a f) (hb : DE X b g) (hs : PlainIx b := by intro _ _; rfl) : DE X (.Subscript a b pos) (kIx f g) := (pe_ix ix_D ha hb hs).w fun σ H Q ⟨F, ρ, d, E, ef, q⟩ => by
  obtain ⟨xs, e1, ef⟩ := bind_some ef
  obtain ⟨i, e2, ef⟩ := bind_some ef
  refine ⟨F, ρ, xs, E, e1, fun a vs F1 H1 g1 h1 r1 => ⟨F1, ρ, i, E.gr g1, e2, fun u F2 H2 g2 r2 => ?_⟩⟩
  cases i <;> try (cases ef; done)
  cases r2
  obtain ⟨v, h3, r3⟩ := atI_rp r1 ef
  have qq := q v F2 H2 (g1.trans g2) (r3.mono g2.f)
  exact (h1.le g2.h).elim (fun z => .inl ⟨_, _, _, v, rfl, rfl, SqL.of z, h3, qq⟩) fun z => .inr ⟨_, _, _, v, rfl, rfl, SqT.of z, h3, qq⟩
/-- a slice's part -/
def tO (f : Rho → Option (Option Int)) : TO := fun σ H Q => ∃ F ρ o, EnvR F H σ ρ ∧ f ρ = some o ∧ ∀ F' H', Gr F H F' H' → Q o H'
abbrev DO (X : Cx) (e : Option Expr) (f : Rho → Option (Option Int)) : Prop := PO X e (tO f)
theorem _root_.L2.PO.w {X : Cx} {e : Option Expr} {t t' : TO} (h : PO X e t) (w : ∀ σ H Q, t' σ H Q → t σ H Q) : PO X e t' := ⟨fun pins s σ H Q I q => h.run pins s σ H Q I (w σ H Q q)⟩
@[simp] def kO0 (_ : Rho) : Option (Option Int) := some none
@[simp] def kO1 (f : Rho → Option D) (ρ : Rho) : Option (Option Int) := (f ρ).bind fun d => match d with
  | .int i => some (some i)
  | _ => none
theorem DO.none : DO X none kO0 := po_none.w fun σ H Q ⟨F, ρ, o, E, ef, q⟩ => by
  cases ef
  exact q F H (Gr.refl E.le)
theorem DO.one {f : Rho → Option D} (h : DE X e f) : DO X (some e) (kO1 f) := (po_some h).w fun σ H Q ⟨F, ρ, o, E, ef, q⟩ => by
  obtain ⟨d, e1, ef⟩ := bind_some ef
  refine ⟨F, ρ, d, E, e1, fun v F1 H1 g1 r1 => ?_⟩
  cases d <;> cases ef
  cases r1
  exact ⟨_, rfl, q F1 H1 g1⟩
def cutD {α : Type} (xs : List α) (lo hi : Option Int) : List α := (xs.drop (HT.sIx xs.length 0 lo)).take (HT.sIx xs.length xs.length hi - HT.sIx xs.length 0 lo)
@[simp] def kSl (f : Rho → Option (List D)) (lo hi : Rho → Option (Option Int)) (ρ : Rho) : Option Rv := (f ρ).bind fun xs => (lo ρ).bind fun l => (hi ρ).bind fun h => some (.ow (cutD xs l h))
/-- a new list at a free place -/
theorem rv_new {H F' H' : Hp} {p : Addr} {vs : List V} {xs : List D} (l0 : Le H H') (l : Le F' H') (hp : H' p = none) (r : RpAll F' vs xs) : RvR H F' (upd H' p (.lst vs)) (.ref p) (.ow xs) :=
  ⟨p, vs, rfl, free_of l0 hp, free_of l hp, upd_same, r⟩
theorem DR.sl {f : Rho → Option (List D)} {lo hi : Option Expr} {l h : Rho → Option (Option Int)} {p2 : Pos} (ha : DLs X a f) (hl : DO X lo l) (hh : DO X hi h) : DR X (.Subscript a (.Slice lo hi none p2) pos) (kSl f l h) := (pe_slice sl_list ha hl hh).w fun σ H Q ⟨F, ρ, r, E, ef, q⟩ => by
  obtain ⟨xs, e1, ef⟩ := bind_some ef
  obtain ⟨i, e2, ef⟩ := bind_some ef
  obtain ⟨j, e3, ef⟩ := bind_some ef
  cases ef
  refine ⟨F, ρ, xs, E, e1, fun a vs F1 H1 g1 h1 r1 => ⟨F1, ρ, i, E.gr g1, e2, fun F2 H2 g2 => ⟨F2, ρ, j, (E.gr g1).gr g2, e3, fun F3 H3 g3 => ?_⟩⟩⟩
  refine ⟨a, vs, rfl, SqL.of ((g2.h.trans g3.h) _ _ h1), fun p hp => ?_⟩
  have gg := (g1.trans g2).trans g3
  refine q _ F3 _ (gg.trans (Gr.lay gg.s hp)) (rv_new gg.h gg.s hp ?_)
  unfold cutV cutD
  rw [r1.length]
  exact ((r1.mono (g2.f.trans g3.f)).drop _).take _

/-! ### displays -/
@[simp] def kLst (f : Rho → Option (List D)) (ρ : Rho) : Option Rv := (f ρ).bind fun xs => if xs.length ≤ line then some (.ow xs) else none
@[simp] def kTup (f : Rho → Option (List D)) (ρ : Rho) : Option D := (f ρ).bind fun xs => if xs.length ≤ line then some (.tuple xs) else none
variable {es : List Expr} {fs : Rho → Option (List D)}
theorem DR.lst (h : DA X es fs) : DR X (.List es pos) (kLst fs) := (pe_lst h).w fun σ H Q ⟨F, ρ, r, E, ef, q⟩ => by
  obtain ⟨xs, e1, ef⟩ := bind_some ef
  split at ef
  · rename_i hl
    cases ef
    refine ⟨F, ρ, xs, E, e1, fun vs F1 H1 g1 r1 => ⟨by rw [r1.length, line_eq]; exact hl, fun p hp => ?_⟩⟩
    exact q _ F1 _ (g1.trans (Gr.lay g1.s hp)) (rv_new g1.h g1.s hp r1)
  · cases ef
theorem DE.tup {k : Nat} (h : DA X es fs) : DE X (.Tuple es k pos) (kTup fs) := (pe_tup h).w fun σ H Q ⟨F, ρ, r, E, ef, q⟩ => by
  obtain ⟨xs, e1, ef⟩ := bind_some ef
  split at ef
  · rename_i hl
    cases ef
    refine ⟨F, ρ, xs, E, e1, fun vs F1 H1 g1 r1 => ⟨by rw [r1.length, line_eq]; exact hl, fun p hp => ?_⟩⟩
    exact q _ _ _ (g1.trans (Gr.frz g1.s hp)) (.tup upd_same (r1.mono (Le.new (free_of g1.s hp))))
  · cases ef
@[simp] def kStar (f : Rho → Option (List D)) (g : Rho → Option (List D)) (ρ : Rho) : Option (List D) := (f ρ).bind fun xs => (g ρ).bind fun ys => some (xs ++ ys)
theorem DA.star {p : Pos} {f : Rho → Option (List D)} (h : DQ X e f) (t : DA X es fs) (hs : starEach (.Starred e p :: es) X.env = (true, eval e X.env) :: starEach es X.env := by rfl) : DA X (.Starred e p :: es) (kStar f fs) := (StX.pa_star h t hs).w fun σ H Q ⟨F, ρ, r, E, ef, q⟩ => by
  obtain ⟨xs, e1, ef⟩ := bind_some ef
  obtain ⟨ys, e2, ef⟩ := bind_some ef
  cases ef
  refine ⟨F, ρ, xs, E, e1, fun a vs F1 H1 g1 h1 r1 => ⟨a, vs, rfl, (h1.sq (K := X.K)).symm, F1, ρ, ys, E.gr g1, e2, fun us F2 H2 g2 r2 => ?_⟩⟩
  exact q _ F2 H2 (g1.trans g2) ((r1.mono g2.f).append r2)

/-! ### built-in calls: by frozen values; by one list or tuple -/
def CallD (r : List V → Hp → VK → Prop) (g : List D → Option Rv) : Prop := ∀ (F H : Hp) (vs : List V) (ds : List D) (z : Rv), Le F H → RpAll F vs ds → g ds = some z → ∀ Q : VK, (∀ v F' H', Gr F H F' H' → RvR H F' H' v z → Q v H') → r vs H Q
def CallQ (r : List V → Hp → VK → Prop) (g : List D → Option Rv) : Prop := ∀ (F H : Hp) (a : Addr) (vs : List V) (ds : List D) (z : Rv), Le F H → SqH H a vs → RpAll F vs ds → g ds = some z → ∀ Q : VK, (∀ v F' H', Gr F H F' H' → RvR H F' H' v z → Q v H') → r [.ref a] H Q
def CallL (r : List V → Hp → VK → Prop) (g : List D → Option Rv) : Prop := ∀ (F H : Hp) (a : Addr) (vs : List V) (ds : List D) (z : Rv), Le F H → H a = some (.lst vs) → RpAll F vs ds → g ds = some z → ∀ Q : VK, (∀ v F' H', Gr F H F' H' → RvR H F' H' v z → Q v H') → r [.ref a] H Q
theorem RvR.gr {H0 H F H' F' : Hp} {v : V} {z : Rv} (l : Le H0 H) (r : RvR H F' H' v z) : RvR H0 F' H' v z := by
  cases z with
  | fr d => exact r
  | ow xs => obtain ⟨a, vs, e, h0, r⟩ := r; exact ⟨a, vs, e, free_of l h0, r⟩
  | tp xs ds => obtain ⟨p, a, vs, ws, e, h0, hf, hh, r, p0, q⟩ := r; exact ⟨p, a, vs, ws, e, free_of l h0, hf, hh, r, free_of l p0, q⟩
@[simp] def kCall (g : List D → Option Rv) (f : Rho → Option (List D)) (ρ : Rho) : Option Rv := (f ρ).bind g
variable {r : List V → Hp → VK → Prop} {g : List D → Option Rv} {x : Str} {p : Pos}
theorem calld_w (hg : CallD r g) (σ : L2.St) (H : Hp) (Q : VK) (h : tR (kCall g fs) σ H Q) : tCB r (tA fs) σ H Q := by
  obtain ⟨F, ρ, z, E, ef, q⟩ := h
  obtain ⟨ds, e1, ef⟩ := bind_some ef
  exact ⟨F, ρ, ds, E, e1, fun vs F1 H1 g1 r1 => hg F1 H1 vs ds z g1.s r1 ef Q fun v F2 H2 g2 r2 => q v F2 H2 (g1.trans g2) (r2.gr (F := F) g1.h)⟩
theorem callq_w {f : Rho → Option (List D)} (hg : CallQ r g) (σ : L2.St) (H : Hp) (Q : VK) (h : tR (kCall g f) σ H Q) : tCB r (tCons (tQ f) tNil) σ H Q := by
  obtain ⟨F, ρ, z, E, ef, q⟩ := h
  obtain ⟨ds, e1, ef⟩ := bind_some ef
  exact ⟨F, ρ, ds, E, e1, fun a vs F1 H1 g1 h1 r1 => hg F1 H1 a vs ds z g1.s h1 r1 ef Q fun v F2 H2 g2 r2 => q v F2 H2 (g1.trans g2) (r2.gr (F := F) g1.h)⟩
theorem calll_w {f : Rho → Option (List D)} (hg : CallL r g) (σ : L2.St) (H : Hp) (Q : VK) (h : tR (kCall g f) σ H Q) : tCB r (tCons (tL f) tNil) σ H Q := by
  obtain ⟨F, ρ, z, E, ef, q⟩ := h
  obtain ⟨ds, e1, ef⟩ := bind_some ef
  exact ⟨F, ρ, ds, E, e1, fun a vs F1 H1 g1 h1 r1 => hg F1 H1 a vs ds z g1.s h1 r1 ef Q fun v F2 H2 g2 r2 => q v F2 H2 (g1.trans g2) (r2.gr (F := F) g1.h)⟩
theorem DR.callB {id : String} (hc : CallR X (.builtin id) r) (hg : CallD r g) (hG : Gl X x) (hm : X.mg x = none) (hv : bootBuiltins x = some (.builtin id)) (ha : DA X (e :: es) fs) (hn : x ≠ "__name__" := by decide) (hdb : (x == ("__debug__" : Str)) = false := by decide)
    (he : starEach (e :: es) X.env = (false, eval e X.env) :: starEach es X.env := by rfl) (hpl : (backTo pos (starEach es X.env)).any (·.1) = false := by rfl) : DR X (.Call (.Name x p) (e :: es) [] pos) (kCall g fs) :=
  (pe_callB hc hG hm hv ha hn hdb he hpl).w (calld_w hg)
theorem DR.callTy {id : String} (hc : CallR X (.type id) r) (hg : CallD r g) (hG : Gl X x) (hm : X.mg x = none) (hv : bootBuiltins x = some (.type id)) (ha : DA X (e :: es) fs) (hn : x ≠ "__name__" := by decide) (hdb : (x == ("__debug__" : Str)) = false := by decide)
    (he : starEach (e :: es) X.env = (false, eval e X.env) :: starEach es X.env := by rfl) (hpl : (backTo pos (starEach es X.env)).any (·.1) = false := by rfl) : DR X (.Call (.Name x p) (e :: es) [] pos) (kCall g fs) :=
  (pe_callTy hc hG hm hv ha hn hdb he hpl).w (calld_w hg)
variable {f : Rho → Option (List D)}
theorem DR.callBQ {id : String} (hc : CallR X (.builtin id) r) (hg : CallQ r g) (hG : Gl X x) (hm : X.mg x = none) (hv : bootBuiltins x = some (.builtin id)) (ha : DQ X e f) (hn : x ≠ "__name__" := by decide) (hdb : (x == ("__debug__" : Str)) = false := by decide)
    (he : starEach (e :: []) X.env = (false, eval e X.env) :: starEach [] X.env := by rfl) (hpl : (backTo pos (starEach [] X.env)).any (·.1) = false := by rfl) : DR X (.Call (.Name x p) [e] [] pos) (kCall g f) :=
  (pe_callB hc hG hm hv (pa_cons ha pa_nil he) hn hdb he hpl).w (callq_w hg)
theorem DR.callTyQ {id : String} (hc : CallR X (.type id) r) (hg : CallQ r g) (hG : Gl X x) (hm : X.mg x = none) (hv : bootBuiltins x = some (.type id)) (ha : DQ X e f) (hn : x ≠ "__name__" := by decide) (hdb : (x == ("__debug__" : Str)) = false := by decide)
    (he : starEach (e :: []) X.env = (false, eval e X.env) :: starEach [] X.env := by rfl) (hpl : (backTo pos (starEach [] X.env)).any (·.1) = false := by rfl) : DR X (.Call (.Name x p) [e] [] pos) (kCall g f) :=
  (pe_callTy hc hG hm hv (pa_cons ha pa_nil he) hn hdb he hpl).w (callq_w hg)
theorem DR.callBL {id : String} (hc : CallR X (.builtin id) r) (hg : CallL r g) (hG : Gl X x) (hm : X.mg x = none) (hv : bootBuiltins x = some (.builtin id)) (ha : DLs X e f) (hn : x ≠ "__name__" := by decide) (hdb : (x == ("__debug__" : Str)) = false := by decide)
    (he : starEach (e :: []) X.env = (false, eval e X.env) :: starEach [] X.env := by rfl) (hpl : (backTo pos (starEach [] X.env)).any (·.1) = false := by rfl) : DR X (.Call (.Name x p) [e] [] pos) (kCall g f) :=
  (pe_callB hc hG hm hv (pa_cons ha pa_nil he) hn hdb he hpl).w (calll_w hg)
/-- math.gcd, a name of the module -/
theorem DR.callM {id : String} (hc : CallR X (.builtin id) r) (hg : CallD r g) (hG : Gl X x) (hm : X.mg x = some (.builtin id)) (ha : DA X (e :: es) fs) (hdb : (x == ("__debug__" : Str)) = false := by decide)
    (he : starEach (e :: es) X.env = (false, eval e X.env) :: starEach es X.env := by rfl) (hpl : (backTo pos (starEach es X.env)).any (·.1) = false := by rfl) : DR X (.Call (.Name x p) (e :: es) [] pos) (kCall g fs) :=
  (pe_callBfun hc hG hm ha hdb he hpl).w (calld_w hg)
end

/-! ### the built-ins -/
def intsOf : List D → Option (List Int)
  | [] => some []
  | .int i :: r => (intsOf r).bind fun ns => some (i :: ns)
  | _ :: _ => none
theorem intsOf_map : ∀ ns : List Int, intsOf (ns.map PyData.int) = some ns
  | [] => rfl
  | n :: ns => by show (intsOf (ns.map PyData.int)).bind _ = _; rw [intsOf_map ns]; rfl
theorem intsOf_inv : ∀ {ds : List D} {ns : List Int}, intsOf ds = some ns → ds = ns.map PyData.int
  | [], ns, h => by cases h; rfl
  | .int i :: r, ns, h => by
    obtain ⟨ms, e1, e2⟩ := bind_some (show (intsOf r).bind _ = _ from h)
    cases e2
    rw [intsOf_inv e1]; rfl
  | .none :: _, _, h => by cases h
  | .bool _ :: _, _, h => by cases h
  | .str _ :: _, _, h => by cases h
  | .list _ :: _, _, h => by cases h
  | .tuple _ :: _, _, h => by cases h
  | .dict _ :: _, _, h => by cases h
def boolsOf : List D → Option (List Bool)
  | [] => some []
  | .bool i :: r => (boolsOf r).bind fun ns => some (i :: ns)
  | _ :: _ => none
theorem boolsOf_map : ∀ ns : List Bool, boolsOf (ns.map PyData.bool) = some ns
  | [] => rfl
  | n :: ns => by show (boolsOf (ns.map PyData.bool)).bind _ = _; rw [boolsOf_map ns]; rfl
theorem boolsOf_inv : ∀ {ds : List D} {ns : List Bool}, boolsOf ds = some ns → ds = ns.map PyData.bool
  | [], ns, h => by cases h; rfl
  | .bool i :: r, ns, h => by
    obtain ⟨ms, e1, e2⟩ := bind_some (show (boolsOf r).bind _ = _ from h)
    cases e2
    rw [boolsOf_inv e1]; rfl
  | .none :: _, _, h => by cases h
  | .int _ :: _, _, h => by cases h
  | .str _ :: _, _, h => by cases h
  | .list _ :: _, _, h => by cases h
  | .tuple _ :: _, _, h => by cases h
  | .dict _ :: _, _, h => by cases h
theorem RpAll.bools_inv {F : Hp} : ∀ {ns : List Bool} {vs : List V}, RpAll F vs (ns.map PyData.bool) → vs = ns.map V.bl
  | [], _, r => by cases r; rfl
  | n :: ns, _, r => by
    have r' : RpAll F _ (PyData.bool n :: ns.map PyData.bool) := r
    cases r' with
    | cons h t => cases h; rw [RpAll.bools_inv t]; rfl
@[simp] def gLen (ds : List D) : Option Rv := some (.fr (.int ds.length))
def gSum (ds : List D) : Option Rv := (intsOf ds).bind fun ns => some (.fr (.int ns.sum))
def maxI : List Int → Option Int
  | [] => none
  | n :: ns => some (ns.foldl max n)
def minI : List Int → Option Int
  | [] => none
  | n :: ns => some (ns.foldl min n)
def gMax (ds : List D) : Option Rv := (intsOf ds).bind fun ns => (maxI ns).bind fun m => some (.fr (.int m))
def gMin (ds : List D) : Option Rv := (intsOf ds).bind fun ns => (minI ns).bind fun m => some (.fr (.int m))
def gAny (ds : List D) : Option Rv := (boolsOf ds).bind fun ns => some (.fr (.bool (ns.any id)))
def gAll (ds : List D) : Option Rv := (boolsOf ds).bind fun ns => some (.fr (.bool (ns.all id)))
@[simp] def gList (ds : List D) : Option Rv := some (.ow ds)
@[simp] def gTuple (ds : List D) : Option Rv := some (.fr (.tuple ds))
@[simp] def gAbs : List D → Option Rv
  | [.int i] => some (.fr (.int (if i < 0 then -i else i)))
  | _ => none
@[simp] def gMax2 : List D → Option Rv
  | [.int i, .int j] => some (.fr (.int (if j > i then j else i)))
  | _ => none
@[simp] def gMin2 : List D → Option Rv
  | [.int i, .int j] => some (.fr (.int (if j < i then j else i)))
  | _ => none
@[simp] def gInt : List D → Option Rv
  | [.int i] => some (.fr (.int i))
  | [.bool b] => some (.fr (.int (if b then 1 else 0)))
  | _ => none
@[simp] def gGcd : List D → Option Rv
  | [.int i, .int j] => some (.fr (.int ((Nat.gcd i.natAbs j.natAbs : Nat) : Int)))
  | _ => none
section
variable {K : PySem.W.Frag} {X : Cx}
def rLenD (K : PySem.W.Frag) : List V → Hp → VK → Prop := fun xs H Q => ∃ p ys, xs = [.ref p] ∧ (SqL K H p ys ∨ SqT K H p ys) ∧ Q (.int ys.length) H
theorem cr_len : CallR X (.builtin "len") (rLenD X.K) := call_len_seq
theorem cq_len : CallQ (rLenD K) gLen := fun F H a vs ds z l h r e Q q => by
  cases e
  refine ⟨a, vs, rfl, h.sq, q _ F H (Gr.refl l) ?_⟩
  rw [r.length]
  exact .int _
theorem cl_sum : CallL (rSum K) gSum := fun F H a vs ds z l h r e Q q => by
  obtain ⟨ns, e1, e2⟩ := bind_some e
  cases e2
  rw [intsOf_inv e1] at r
  have e3 := r.ints_inv
  subst e3
  exact ⟨a, ns, rfl, SqL.of h, q _ F H (Gr.refl l) (.int _)⟩
theorem foldl_max_le : ∀ (ns : List Int) (n : Int), n ≤ ns.foldl max n ∧ ∀ y ∈ ns, y ≤ ns.foldl max n
  | [], n => ⟨Int.le_refl n, fun _ h => nomatch h⟩
  | m :: ns, n => by
    obtain ⟨h1, h2⟩ := foldl_max_le ns (max n m)
    refine ⟨Int.le_trans (by omega) h1, fun y hy => ?_⟩
    rcases List.mem_cons.mp hy with e | hy
    · subst e; exact Int.le_trans (by omega) h1
    · exact h2 y hy
theorem foldl_max_mem : ∀ (ns : List Int) (n : Int), ns.foldl max n = n ∨ ns.foldl max n ∈ ns
  | [], n => .inl rfl
  | m :: ns, n => by
    rcases foldl_max_mem ns (max n m) with h | h
    · show ns.foldl max (max n m) = n ∨ _
      rcases (by omega : max n m = n ∨ max n m = m) with q | q
      · exact .inl (h.trans q)
      · exact .inr (by show ns.foldl max (max n m) ∈ _; rw [h, q]; exact List.mem_cons_self)
    · exact .inr (List.mem_cons_of_mem _ h)
theorem foldl_min_le : ∀ (ns : List Int) (n : Int), ns.foldl min n ≤ n ∧ ∀ y ∈ ns, ns.foldl min n ≤ y
  | [], n => ⟨Int.le_refl n, fun _ h => nomatch h⟩
  | m :: ns, n => by
    obtain ⟨h1, h2⟩ := foldl_min_le ns (min n m)
    refine ⟨Int.le_trans h1 (by omega), fun y hy => ?_⟩
    rcases List.mem_cons.mp hy with e | hy
    · subst e; exact Int.le_trans h1 (by omega)
    · exact h2 y hy
theorem foldl_min_mem : ∀ (ns : List Int) (n : Int), ns.foldl min n = n ∨ ns.foldl min n ∈ ns
  | [], n => .inl rfl
  | m :: ns, n => by
    rcases foldl_min_mem ns (min n m) with h | h
    · show ns.foldl min (min n m) = n ∨ _
      rcases (by omega : min n m = n ∨ min n m = m) with q | q
      · exact .inl (h.trans q)
      · exact .inr (by show ns.foldl min (min n m) ∈ _; rw [h, q]; exact List.mem_cons_self)
    · exact .inr (List.mem_cons_of_mem _ h)
theorem cl_max : CallL (rMax K) gMax := fun F H a vs ds z l h r e Q q => by
  obtain ⟨ns, e1, e2⟩ := bind_some e
  obtain ⟨m, e2, e3⟩ := bind_some e2
  cases e3
  rw [intsOf_inv e1] at r
  have e3 := r.ints_inv
  subst e3
  cases ns with
  | nil => cases e2
  | cons n ns =>
    cases e2
    refine ⟨a, n :: ns, rfl, SqL.of h, by simp, fun m hm hle => ?_⟩
    have e4 : m = ns.foldl max n := by
      obtain ⟨h1, h2⟩ := foldl_max_le ns n
      have h3 : m ≤ ns.foldl max n := by
        rcases List.mem_cons.mp hm with z | z
        · rw [z]; exact h1
        · exact h2 m z
      have h4 : ns.foldl max n ≤ m := by
        rcases foldl_max_mem ns n with z | z
        · rw [z]; exact hle _ List.mem_cons_self
        · exact hle _ (List.mem_cons_of_mem _ z)
      omega
    rw [e4]
    exact q _ F H (Gr.refl l) (.int _)
theorem cl_min : CallL (rMin K) gMin := fun F H a vs ds z l h r e Q q => by
  obtain ⟨ns, e1, e2⟩ := bind_some e
  obtain ⟨m, e2, e3⟩ := bind_some e2
  cases e3
  rw [intsOf_inv e1] at r
  have e3 := r.ints_inv
  subst e3
  cases ns with
  | nil => cases e2
  | cons n ns =>
    cases e2
    refine ⟨a, n :: ns, rfl, SqL.of h, by simp, fun m hm hle => ?_⟩
    have e4 : m = ns.foldl min n := by
      obtain ⟨h1, h2⟩ := foldl_min_le ns n
      have h3 : ns.foldl min n ≤ m := by
        rcases List.mem_cons.mp hm with z | z
        · rw [z]; exact h1
        · exact h2 m z
      have h4 : m ≤ ns.foldl min n := by
        rcases foldl_min_mem ns n with z | z
        · rw [z]; exact hle _ List.mem_cons_self
        · exact hle _ (List.mem_cons_of_mem _ z)
      omega
    rw [e4]
    exact q _ F H (Gr.refl l) (.int _)
theorem cl_any : CallL (rAny K) gAny := fun F H a vs ds z l h r e Q q => by
  obtain ⟨ns, e1, e2⟩ := bind_some e
  cases e2
  rw [boolsOf_inv e1] at r
  have e3 := r.bools_inv
  subst e3
  exact ⟨a, ns, rfl, SqL.of h, q _ F H (Gr.refl l) (.bl _)⟩
theorem cl_all : CallL (rAll K) gAll := fun F H a vs ds z l h r e Q q => by
  obtain ⟨ns, e1, e2⟩ := bind_some e
  cases e2
  rw [boolsOf_inv e1] at r
  have e3 := r.bools_inv
  subst e3
  exact ⟨a, ns, rfl, SqL.of h, q _ F H (Gr.refl l) (.bl _)⟩
def rListD (K : PySem.W.Frag) : List V → Hp → VK → Prop := fun xs H Q => ∃ p ys, xs = [.ref p] ∧ (SqL K H p ys ∨ SqT K H p ys) ∧ ∀ l, H l = none → Q (.ref l) (upd H l (.lst ys))
theorem cr_list : CallR X (.type "list") (rListD X.K) := call_list_of
theorem cq_list : CallQ (rListD K) gList := fun F H a vs ds z l h r e Q q => by
  cases e
  exact ⟨a, vs, rfl, h.sq, fun p hp => q _ F _ (Gr.lay l hp) (rv_new (Le.refl H) l hp r)⟩
def rTupD (K : PySem.W.Frag) : List V → Hp → VK → Prop := fun xs H Q => ∃ p ys, xs = [.ref p] ∧ ((SqL K H p ys ∧ ∀ l, H l = none → Q (.ref l) (upd H l (.tup ys))) ∨ (SqT K H p ys ∧ Q (.ref p) H))
theorem cr_tuple : CallR X (.type "tuple") (rTupD X.K) := call_tuple_of
theorem cl_tuple : CallL (rTupD K) gTuple := fun F H a vs ds z l h r e Q q => by
  cases e
  exact ⟨a, vs, rfl, .inl ⟨SqL.of h, fun p hp => q _ _ _ (Gr.frz l hp) (.tup upd_same (r.mono (Le.new (free_of l hp))))⟩⟩
theorem DR.callTyL {e : Expr} {x : Str} {p pos : Pos} {id : String} {r : List V → Hp → VK → Prop} {g : List D → Option Rv} {f : Rho → Option (List D)} (hc : CallR X (.type id) r) (hg : CallL r g) (hG : Gl X x) (hm : X.mg x = none) (hv : bootBuiltins x = some (.type id)) (ha : DLs X e f) (hn : x ≠ "__name__" := by decide) (hdb : (x == ("__debug__" : Str)) = false := by decide)
    (he : starEach (e :: []) X.env = (false, eval e X.env) :: starEach [] X.env := by rfl) (hpl : (backTo pos (starEach [] X.env)).any (·.1) = false := by rfl) : DR X (.Call (.Name x p) [e] [] pos) (kCall g f) :=
  (pe_callTy hc hG hm hv (pa_cons ha pa_nil he) hn hdb he hpl).w (calll_w hg)
def rAbsD : List V → Hp → VK → Prop := fun xs H Q => ∃ i, xs = [.int i] ∧ Q (.int (if i < 0 then -i else i)) H
theorem cr_absD : CallR X (.builtin "abs") rAbsD := call_abs
theorem ints1 {F : Hp} {vs : List V} {i : Int} (r : RpAll F vs [.int i]) : vs = [.int i] := r.ints_inv (ns := [i])
theorem ints2 {F : Hp} {vs : List V} {i j : Int} (r : RpAll F vs [.int i, .int j]) : vs = [.int i, .int j] := r.ints_inv (ns := [i, j])
theorem cd_abs : CallD rAbsD gAbs := fun F H vs ds z l r e Q q => by
  unfold gAbs at e
  split at e
  · cases e
    exact ⟨_, ints1 r, q _ F H (Gr.refl l) (.int _)⟩
  · cases e
def rMax2D : List V → Hp → VK → Prop := fun xs H Q => ∃ i j, xs = [.int i, .int j] ∧ Q (.int (if j > i then j else i)) H
def rMin2D : List V → Hp → VK → Prop := fun xs H Q => ∃ i j, xs = [.int i, .int j] ∧ Q (.int (if j < i then j else i)) H
theorem cr_max2D (hc : X.calm = true) : CallR X (.builtin "max") rMax2D := call_max2 hc
theorem cr_min2D (hc : X.calm = true) : CallR X (.builtin "min") rMin2D := call_min2 hc
theorem cd_max2 : CallD rMax2D gMax2 := fun F H vs ds z l r e Q q => by
  unfold gMax2 at e
  split at e
  · cases e
    exact ⟨_, _, ints2 r, q _ F H (Gr.refl l) (.int _)⟩
  · cases e
theorem cd_min2 : CallD rMin2D gMin2 := fun F H vs ds z l r e Q q => by
  unfold gMin2 at e
  split at e
  · cases e
    exact ⟨_, _, ints2 r, q _ F H (Gr.refl l) (.int _)⟩
  · cases e
theorem cd_gcd : CallD rGcd gGcd := fun F H vs ds z l r e Q q => by
  unfold gGcd at e
  split at e
  · cases e
    exact ⟨_, _, ints2 r, q _ F H (Gr.refl l) (.int _)⟩
  · cases e
def rIntD : List V → Hp → VK → Prop := fun xs H Q => (∃ i, xs = [.int i] ∧ Q (.int i) H) ∨ ∃ b : Bool, xs = [.bl b] ∧ Q (.int (if b then 1 else 0)) H
theorem cr_int : CallR X (.type "int") rIntD := by
  intro pins s σ H xs us Q I r h
  rcases h with ⟨i, rfl, q⟩ | ⟨i, rfl, q⟩
  · cases r with
    | cons r1 r2 =>
      cases r2
      obtain ⟨t, rfl⟩ := r1
      exact call_int_int ⟨.int i, H, I, ⟨t, rfl⟩, q⟩
  · cases r with
    | cons r1 r2 =>
      cases r2
      cases r1
      exact call_int_bool ⟨.int _, H, I.tok _, ⟨_, rfl⟩, q⟩
theorem cd_int : CallD rIntD gInt := fun F H vs ds z l r e Q q => by
  unfold gInt at e
  split at e
  · cases e
    exact .inl ⟨_, ints1 r, q _ F H (Gr.refl l) (.int _)⟩
  · cases e
    rename_i b
    exact .inr ⟨b, r.bools_inv (ns := [b]), q _ F H (Gr.refl l) (.int _)⟩
  · cases e
end
end DL

set_option Elab.async false
set_option linter.all false
set_option maxRecDepth 100000
set_option maxHeartbeats 2000000
namespace DL
open PySem PySem.Spec L2

/-! ### what a loop walks: the data xs -/
structure JOk (J : It) (C : Hp → Prop) (F0 : Hp) (xs : List D) : Prop where
  go : ∀ i F H, C H → Le F0 F → Le F H → i < xs.length → J.go i H
  stop : ∀ i F H, C H → Le F0 F → Le F H → xs.length ≤ i → J.stop i H
  yld : ∀ i F H x H' d, C H → Le F0 F → Le F H → xs[i]? = some d → J.yld i H x H' → ∃ F', Gr F H F' H' ∧ Rp F' x d
theorem JOk.imp {J : It} {C C' : Hp → Prop} {F0 : Hp} {xs : List D} (j : JOk J C F0 xs) (h : ∀ H, C' H → C H) : JOk J C' F0 xs :=
  ⟨fun i F H c => j.go i F H (h H c), fun i F H c => j.stop i F H (h H c), fun i F H x H' d c => j.yld i F H x H' d (h H c)⟩
/-- for a for: whatever the body changes -/
def tIF (f : Rho → Option (List D)) : TI := fun σ H R => ∃ F ρ xs, EnvR F H σ ρ ∧ f ρ = some xs ∧ ∀ J F' H', Gr F H F' H' → JOk J (fun _ => True) F' xs → R J H'
/-- for a comprehension: nothing that stood changes -/
def tIC (f : Rho → Option (List D)) : TI := fun σ H R => ∃ F ρ xs, EnvR F H σ ρ ∧ f ρ = some xs ∧ ∀ J F' H', Gr F H F' H' → JOk J (Le H') F' xs → R J H'
abbrev DIF (X : Cx) (tg e : Expr) (f : Rho → Option (List D)) : Prop := PI X tg e (tIF f)
abbrev DIC (X : Cx) (tg e : Expr) (f : Rho → Option (List D)) : Prop := PI X tg e (tIC f)
section
variable {X : Cx} {tg e e2 : Expr} {f f2 : Rho → Option (List D)} {p pos tpos : Pos}
theorem DIF.c (h : DIF X tg e f) : DIC X tg e f := h.w fun σ H R ⟨F, ρ, xs, E, ef, q⟩ => ⟨F, ρ, xs, E, ef, fun J F' H' g j => q J F' H' g (j.imp fun _ _ => trivial)⟩

theorem j_list {K : PySem.W.Frag} {C : Hp → Prop} {F0 : Hp} {a : Addr} {vs : List V} {xs : List D} (hc : ∀ F H, C H → Le F0 F → Le F H → H a = some (.lst vs)) (r : RpAll F0 vs xs) : JOk (Itl K a) C F0 xs where
  go := fun i F H c l l2 hi => by
    obtain ⟨v, h1, _⟩ := r.get (List.getElem?_eq_getElem hi)
    exact ⟨vs, v, SqL.of (hc F H c l l2), h1⟩
  stop := fun i F H c l l2 hi => ⟨vs, SqL.of (hc F H c l l2), by rw [r.length]; exact hi⟩
  yld := fun i F H x H' d c l l2 hd ⟨e1, e2⟩ => by
    subst e1
    obtain ⟨v, h1, h2⟩ := r.get hd
    have e3 := e2 vs (SqL.of (hc F _ c l l2))
    rw [h1] at e3
    cases e3
    exact ⟨F, Gr.refl l2, h2.mono l⟩
theorem j_tup {K : PySem.W.Frag} {C : Hp → Prop} {F0 : Hp} {a : Addr} {vs : List V} {xs : List D} (hc : ∀ F H, C H → Le F0 F → Le F H → H a = some (.tup vs)) (r : RpAll F0 vs xs) : JOk (Itt K a) C F0 xs where
  go := fun i F H c l l2 hi => by
    obtain ⟨v, h1, _⟩ := r.get (List.getElem?_eq_getElem hi)
    exact ⟨vs, v, SqT.of (hc F H c l l2), h1⟩
  stop := fun i F H c l l2 hi => ⟨vs, SqT.of (hc F H c l l2), by rw [r.length]; exact hi⟩
  yld := fun i F H x H' d c l l2 hd ⟨e1, e2⟩ => by
    subst e1
    obtain ⟨v, h1, h2⟩ := r.get hd
    have e3 := e2 vs (SqT.of (hc F _ c l l2))
    rw [h1] at e3
    cases e3
    exact ⟨F, Gr.refl l2, h2.mono l⟩
/-- a list or a tuple, walked -/
def iSeq (K : PySem.W.Frag) (tl : TE) : TI := fun σ H R => tl σ H fun x H1 => ∃ a, x = .ref a ∧ (((∃ xs, SqL K H1 a xs) ∧ R (Itl K a) H1) ∨ ((∃ xs, SqT K H1 a xs) ∧ R (Itt K a) H1))
theorem pi_seq {l : Expr} {tl : TE} (hl : PE X l tl) : PI X tg l (iSeq X.K tl) := by
  refine ⟨fun pins s σ H R I h => ?_⟩
  refine thn (hl.run pins s σ H _ I h) fun v s1 ⟨x, H1, I1, r1, q1⟩ => ?_
  obtain ⟨a, e, q⟩ := q1
  subst e
  cases r1
  rcases q with ⟨⟨xs, hq⟩, q⟩ | ⟨⟨xs, hq⟩, q⟩
  · obtain ⟨its, rv, pl, hz⟩ := I1.list hq
    refine wpAny_pyIter_list pl.isList ?_
    exact ⟨_, [s1.heap.objs.size], _, _, H1, rfl, I1.kept (t' := s1.toks) fun b o q => Heap.get?_push_of_some _ q, turn_list a _, ⟨_, Heap.get?_push_size _ rfl, rfl, rfl⟩, fun b hb => by
      have z : b = s1.heap.objs.size := by simpa using hb
      subst z
      exact I1.fpOk (Nat.le_refl _) (I1.hok.fresh (Nat.le_refl _)), q⟩
  · obtain ⟨its, rv, pl, hz⟩ := I1.tuple hq
    refine wpAny_pyIter_tuple (show s1.heap.IsTuple a its.toArray from pl) ?_
    exact ⟨_, [s1.heap.objs.size], _, _, H1, rfl, I1.kept (t' := s1.toks) fun b o q => Heap.get?_push_of_some _ q, turn_tuple a _, ⟨_, Heap.get?_push_size _ rfl, rfl, rfl⟩, fun b hb => by
      have z : b = s1.heap.objs.size := by simpa using hb
      subst z
      exact I1.fpOk (Nat.le_refl _) (I1.hok.fresh (Nat.le_refl _)), q⟩
theorem DIF.seq {g : Rho → Option D} (h : DE X e g) : DIF X tg e (kQ g) := (pi_seq h).w fun σ H R ⟨F, ρ, xs, E, ef, q⟩ => by
  obtain ⟨d, e1, e2⟩ := bind_some ef
  refine ⟨F, ρ, d, E, e1, fun v F1 H1 g1 r1 => ?_⟩
  cases d <;> cases e2
  · cases r1 with
    | lst h1 h2 => exact ⟨_, rfl, .inl ⟨⟨_, SqL.of (g1.s _ _ h1)⟩, q _ F1 H1 g1 (j_list (fun F H _ l l2 => l2 _ _ (l _ _ h1)) h2)⟩⟩
  · cases r1 with
    | tup h1 h2 => exact ⟨_, rfl, .inr ⟨⟨_, SqT.of (g1.s _ _ h1)⟩, q _ F1 H1 g1 (j_tup (fun F H _ l l2 => l2 _ _ (l _ _ h1)) h2)⟩⟩
theorem DIC.seq (h : DQ X e f) : DIC X tg e f := (pi_seq h).w fun σ H R ⟨F, ρ, xs, E, ef, q⟩ => by
  refine ⟨F, ρ, xs, E, ef, fun a vs F1 H1 g1 h1 r1 => ⟨a, rfl, ?_⟩⟩
  rcases h1 with h1 | h1
  · exact .inl ⟨⟨_, SqL.of h1⟩, q _ F1 H1 g1 (j_list (fun F H c l l2 => c _ _ h1) r1)⟩
  · exact .inr ⟨⟨_, SqT.of h1⟩, q _ F1 H1 g1 (j_tup (fun F H c l l2 => c _ _ h1) r1)⟩

/-! ### range -/
def rangeD (lo c : Int) (n : Nat) : List D := (List.range n).map fun (i : Nat) => PyData.int (lo + (i : Int) * c)
theorem rangeD_get {lo c : Int} {n i : Nat} {d : D} (h : (rangeD lo c n)[i]? = some d) : d = .int (lo + (i : Int) * c) := by
  unfold rangeD at h
  rw [List.getElem?_map] at h
  by_cases hi : i < n
  · rw [List.getElem?_range hi] at h
    exact (Option.some.inj h).symm
  · rw [List.getElem?_eq_none (by simpa using hi)] at h
    cases h
theorem rangeD_len {lo c : Int} {n : Nat} : (rangeD lo c n).length = n := by simp [rangeD]
/-- a range's bound -/
def sm (j : Int) : Bool := decide (-(2 ^ 62) ≤ j) && decide (j < 2 ^ 62)
theorem sm_iff {j : Int} : sm j = true ↔ -(2 ^ 62) ≤ j ∧ j < 2 ^ 62 := by
  unfold sm
  rw [Bool.and_eq_true, decide_eq_true_iff, decide_eq_true_iff]
theorem sm_of {j : Int} (h : -1000000000 ≤ j) (h2 : j ≤ 1000000000) : sm j = true := sm_iff.mpr ⟨by omega, by omega⟩
@[simp] def gRange1 : List D → Option (List D)
  | [.int j] => if sm j = true then some (rangeD 0 1 j.toNat) else none
  | _ => none
@[simp] def gRange2 : List D → Option (List D)
  | [.int i, .int j] => if sm i = true ∧ sm j = true then some (rangeD i 1 (j - i).toNat) else none
  | _ => none
/-- downwards by one, or by a step from 1 to 2 ^ 29 -/
def stepN (i j c : Int) : Nat := if i < j then ((j - i - 1) / c + 1).toNat else 0
@[simp] def gRange3 : List D → Option (List D)
  | [.int i, .int j, .int c] => if sm i = true ∧ sm j = true then
      (if c = -1 then some (rangeD i (-1) (i - j).toNat) else none) else none
  | _ => none
@[simp] def kRange1 (f : Rho → Option (List D)) (ρ : Rho) : Option (List D) := (f ρ).bind gRange1
@[simp] def kRange2 (f : Rho → Option (List D)) (ρ : Rho) : Option (List D) := (f ρ).bind gRange2
@[simp] def kRange3 (f : Rho → Option (List D)) (ρ : Rho) : Option (List D) := (f ρ).bind gRange3
theorem j_range {lo : Int} {n : Nat} {F0 : Hp} : JOk (Itr lo n) (fun _ => True) F0 (rangeD lo 1 n) where
  go := fun i F H _ _ _ hi => by rw [rangeD_len] at hi; exact hi
  stop := fun i F H _ _ _ hi => by rw [rangeD_len] at hi; exact hi
  yld := fun i F H x H' d _ l l2 hd ⟨e1, e2⟩ => by
    subst e1
    rw [rangeD_get hd, e2, Int.mul_one]
    exact ⟨F, Gr.refl l2, .int _⟩
theorem j_rangeC {lo c : Int} {n : Nat} {F0 : Hp} : JOk (Itc lo c n) (fun _ => True) F0 (rangeD lo c n) where
  go := fun i F H _ _ _ hi => by rw [rangeD_len] at hi; exact hi
  stop := fun i F H _ _ _ hi => by rw [rangeD_len] at hi; exact hi
  yld := fun i F H x H' d _ l l2 hd ⟨e1, e2⟩ => by
    subst e1
    rw [rangeD_get hd, e2]
    exact ⟨F, Gr.refl l2, .int _⟩
theorem DIF.range1 {a : Expr} (hg : Gl X "range") (hm : X.mg "range" = none) (ha : DA X [a] f) (hs : starEach [a] X.env = [(false, eval a X.env)] := by rfl) : DIF X tg (.Call (.Name "range" p) [a] [] pos) (kRange1 f) := (pi_range1 hg hm ha hs).w fun σ H R ⟨F, ρ, xs, E, ef, q⟩ => by
  obtain ⟨ds, e1, e2⟩ := bind_some ef
  refine ⟨F, ρ, ds, E, e1, fun vs F1 H1 g1 r1 => ?_⟩
  unfold gRange1 at e2
  split at e2
  · split at e2
    · rename_i hj
      cases e2
      exact ⟨_, ints1 r1, (sm_iff.mp hj).1, (sm_iff.mp hj).2, q _ F1 H1 g1 j_range⟩
    · cases e2
  · cases e2
theorem DIF.range2 {a b : Expr} (hg : Gl X "range") (hm : X.mg "range" = none) (ha : DA X [a, b] f) (hs : starEach [a, b] X.env = [(false, eval a X.env), (false, eval b X.env)] := by rfl) (hs2 : starEach [b] X.env = [(false, eval b X.env)] := by rfl) : DIF X tg (.Call (.Name "range" p) [a, b] [] pos) (kRange2 f) := (pi_range2 hg hm ha hs hs2).w fun σ H R ⟨F, ρ, xs, E, ef, q⟩ => by
  obtain ⟨ds, e1, e2⟩ := bind_some ef
  refine ⟨F, ρ, ds, E, e1, fun vs F1 H1 g1 r1 => ?_⟩
  unfold gRange2 at e2
  split at e2
  · split at e2
    · rename_i hj
      cases e2
      exact ⟨_, _, ints2 r1, ⟨(sm_iff.mp hj.1).1, (sm_iff.mp hj.1).2, (sm_iff.mp hj.2).1, (sm_iff.mp hj.2).2⟩, q _ F1 H1 g1 j_range⟩
    · cases e2
  · cases e2
theorem DIF.range3 {a b c : Expr} (hg : Gl X "range") (hm : X.mg "range" = none) (ha : DA X [a, b, c] f) (hs : starEach [a, b, c] X.env = (false, eval a X.env) :: starEach [b, c] X.env := by rfl) (hpl : (backTo pos (starEach [b, c] X.env)).any (·.1) = false := by rfl) : DIF X tg (.Call (.Name "range" p) [a, b, c] [] pos) (kRange3 f) := (pi_range3 hg hm ha hs hpl).w fun σ H R ⟨F, ρ, xs, E, ef, q⟩ => by
  obtain ⟨ds, e1, e2⟩ := bind_some ef
  refine ⟨F, ρ, ds, E, e1, fun vs F1 H1 g1 r1 => ?_⟩
  unfold gRange3 at e2
  split at e2
  · split at e2
    · rename_i i j c hj
      split at e2
      · rename_i hc
        subst hc
        cases e2
        exact ⟨i, j, -1, _, r1.ints_inv (ns := [i, j, -1]), RgC.neg (sm_iff.mp hj.1).1 (sm_iff.mp hj.1).2 (sm_iff.mp hj.2).1 (sm_iff.mp hj.2).2, q _ F1 H1 g1 j_rangeC⟩
      · cases e2
    · cases e2
  · cases e2

/-! ### enumerate, zip -/
def enumD : Nat → List D → List D
  | _, [] => []
  | i, x :: xs => .tuple [.int (i : Int), x] :: enumD (i + 1) xs
theorem enumD_len : ∀ (xs : List D) (i : Nat), (enumD i xs).length = xs.length
  | [], _ => rfl
  | _ :: xs, i => by simp [enumD, enumD_len xs]
theorem enumD_get : ∀ {xs : List D} {k i : Nat} {d : D}, (enumD k xs)[i]? = some d → ∃ x, xs[i]? = some x ∧ d = .tuple [.int ((k + i : Nat) : Int), x]
  | [], _, _, _, h => by simp [enumD] at h
  | x :: xs, k, 0, d, h => by
    simp [enumD] at h
    exact ⟨x, rfl, h.symm⟩
  | x :: xs, k, i + 1, d, h => by
    obtain ⟨y, h1, h2⟩ := enumD_get (xs := xs) (k := k + 1) (i := i) (d := d) (by simpa [enumD] using h)
    exact ⟨y, by simpa using h1, by rw [h2, show k + 1 + i = k + (i + 1) by omega]⟩
def zipD : List D → List D → List D
  | x :: xs, y :: ys => .tuple [x, y] :: zipD xs ys
  | _, _ => []
theorem zipD_len : ∀ (xs ys : List D), (zipD xs ys).length = min xs.length ys.length
  | [], ys => by cases ys <;> simp [zipD]
  | _ :: _, [] => by simp [zipD]
  | _ :: xs, _ :: ys => by simp [zipD, zipD_len xs ys]
theorem zipD_get : ∀ {xs ys : List D} {i : Nat} {d : D}, (zipD xs ys)[i]? = some d → ∃ x y, xs[i]? = some x ∧ ys[i]? = some y ∧ d = .tuple [x, y]
  | [], ys, _, _, h => by cases ys <;> simp [zipD] at h
  | _ :: _, [], _, _, h => by simp [zipD] at h
  | x :: xs, y :: ys, 0, d, h => by
    simp [zipD] at h
    exact ⟨x, y, rfl, rfl, h.symm⟩
  | x :: xs, y :: ys, i + 1, d, h => by
    obtain ⟨a, b, h1, h2, h3⟩ := zipD_get (xs := xs) (ys := ys) (i := i) (d := d) (by simpa [zipD] using h)
    exact ⟨a, b, by simpa using h1, by simpa using h2, h3⟩
theorem frz_pair {F H : Hp} {T : Addr} {x y : V} {dx dy : D} (l : Le F H) (hT : H T = none) (r1 : Rp F x dx) (r2 : Rp F y dy) : ∃ F', Gr F H F' (upd H T (.tup [x, y])) ∧ Rp F' (.ref T) (.tuple [dx, dy]) := by
  have lf := Le.new (H := F) (o := HO.tup [x, y]) (free_of l hT)
  exact ⟨_, Gr.frz l hT, .tup upd_same (.cons (r1.mono lf) (.cons (r2.mono lf) .nil))⟩
theorem j_enum {K : PySem.W.Frag} {C : Hp → Prop} {F0 : Hp} {a : Addr} {vs : List V} {xs : List D} (hc : ∀ F H, C H → Le F0 F → Le F H → H a = some (.lst vs)) (r : RpAll F0 vs xs) : JOk (Ite K a) C F0 (enumD 0 xs) where
  go := fun i F H c l l2 hi => by
    rw [enumD_len] at hi
    obtain ⟨v, h1, _⟩ := r.get (List.getElem?_eq_getElem hi)
    exact ⟨vs, v, SqL.of (hc F H c l l2), h1⟩
  stop := fun i F H c l l2 hi => ⟨vs, SqL.of (hc F H c l l2), by rw [r.length]; rw [enumD_len] at hi; exact hi⟩
  yld := fun i F H x H' d c l l2 hd ⟨T, y, e1, hT, e2, e3⟩ => by
    subst e1; subst e2
    obtain ⟨z, h1, rfl⟩ := enumD_get hd
    obtain ⟨v, h2, h3⟩ := r.get h1
    have e4 := e3 vs (SqL.of (hc F _ c l l2))
    rw [h2] at e4
    cases e4
    rw [Nat.zero_add]
    exact frz_pair l2 hT (.int _) (h3.mono l)
theorem j_zip {K : PySem.W.Frag} {C : Hp → Prop} {F0 : Hp} {a b : Addr} {vs us : List V} {xs ys : List D} (hc : ∀ F H, C H → Le F0 F → Le F H → H a = some (.lst vs)) (hc2 : ∀ F H, C H → Le F0 F → Le F H → H b = some (.lst us)) (r : RpAll F0 vs xs) (r2 : RpAll F0 us ys) : JOk (Itz K a b) C F0 (zipD xs ys) where
  go := fun i F H c l l2 hi => by
    rw [zipD_len] at hi
    obtain ⟨v, h1, _⟩ := r.get (List.getElem?_eq_getElem (by omega : i < xs.length))
    obtain ⟨u, h2, _⟩ := r2.get (List.getElem?_eq_getElem (by omega : i < ys.length))
    exact ⟨vs, us, v, u, SqL.of (hc F H c l l2), SqL.of (hc2 F H c l l2), h1, h2⟩
  stop := fun i F H c l l2 hi => ⟨vs, us, SqL.of (hc F H c l l2), SqL.of (hc2 F H c l l2), by rw [r.length, r2.length]; rw [zipD_len] at hi; omega⟩
  yld := fun i F H x H' d c l l2 hd ⟨T, x1, y1, e1, hT, e2, e3, e4⟩ => by
    subst e1; subst e2
    obtain ⟨z, w, h1, h2, rfl⟩ := zipD_get hd
    obtain ⟨v, h3, h4⟩ := r.get h1
    obtain ⟨u, h5, h6⟩ := r2.get h2
    have e5 := e3 vs (SqL.of (hc F _ c l l2))
    have e6 := e4 us (SqL.of (hc2 F _ c l l2))
    rw [h3] at e5
    rw [h5] at e6
    cases e5; cases e6
    exact frz_pair l2 hT (h4.mono l) (h6.mono l)
theorem j_zipT {K : PySem.W.Frag} {C : Hp → Prop} {F0 : Hp} {a b : Addr} {vs us : List V} {xs ys : List D} (hc : ∀ F H, C H → Le F0 F → Le F H → H a = some (.tup vs)) (hc2 : ∀ F H, C H → Le F0 F → Le F H → H b = some (.tup us)) (r : RpAll F0 vs xs) (r2 : RpAll F0 us ys) : JOk (RZ.ItzT K a b) C F0 (zipD xs ys) where
  go := fun i F H c l l2 hi => by
    rw [zipD_len] at hi
    obtain ⟨v, h1, _⟩ := r.get (List.getElem?_eq_getElem (by omega : i < xs.length))
    obtain ⟨u, h2, _⟩ := r2.get (List.getElem?_eq_getElem (by omega : i < ys.length))
    exact ⟨vs, us, v, u, SqT.of (hc F H c l l2), SqT.of (hc2 F H c l l2), h1, h2⟩
  stop := fun i F H c l l2 hi => ⟨vs, us, SqT.of (hc F H c l l2), SqT.of (hc2 F H c l l2), by rw [r.length, r2.length]; rw [zipD_len] at hi; omega⟩
  yld := fun i F H x H' d c l l2 hd ⟨T, x1, y1, e1, hT, e2, e3, e4⟩ => by
    subst e1; subst e2
    obtain ⟨z, w, h1, h2, rfl⟩ := zipD_get hd
    obtain ⟨v, h3, h4⟩ := r.get h1
    obtain ⟨u, h5, h6⟩ := r2.get h2
    have e5 := e3 vs (SqT.of (hc F _ c l l2))
    have e6 := e4 us (SqT.of (hc2 F _ c l l2))
    rw [h3] at e5
    rw [h5] at e6
    cases e5; cases e6
    exact frz_pair l2 hT (h4.mono l) (h6.mono l)
variable {elts : List Expr} {kk : Nat}
@[simp] def kEnum (f : Rho → Option (List D)) (ρ : Rho) : Option (List D) := (f ρ).bind fun xs => some (enumD 0 xs)
@[simp] def kZip (f g : Rho → Option (List D)) (ρ : Rho) : Option (List D) := (f ρ).bind fun xs => (g ρ).bind fun ys => some (zipD xs ys)
theorem DIF.enum {g : Rho → Option D} (hg : Gl X "enumerate") (hm : X.mg "enumerate" = none) (h : DE X e g) (hs : starEach [e] X.env = [(false, eval e X.env)] := by rfl) (hs2 : starEach [e] X.env = (false, eval e X.env) :: starEach [] X.env := by rfl) : DIF X (.Tuple elts kk tpos) (.Call (.Name "enumerate" p) [e] [] pos) (kEnum (kL g)) := (pi_enum hg hm (pa_cons h pa_nil hs2) hs).w fun σ H R ⟨F, ρ, xs, E, ef, q⟩ => by
  obtain ⟨ys, e1, e2⟩ := bind_some ef
  cases e2
  obtain ⟨d, e1, e2⟩ := bind_some e1
  refine ⟨F, ρ, d, E, e1, fun v F1 H1 g1 r1 => ?_⟩
  cases d <;> cases e2
  cases r1 with
  | lst h1 h2 => exact ⟨_, _, rfl, SqL.of (g1.s _ _ h1), q _ F1 H1 g1 (j_enum (fun F H _ l l2 => l2 _ _ (l _ _ h1)) h2)⟩
theorem DIC.enum (hg : Gl X "enumerate") (hm : X.mg "enumerate" = none) (h : DLs X e f) (hs : starEach [e] X.env = [(false, eval e X.env)] := by rfl) (hs2 : starEach [e] X.env = (false, eval e X.env) :: starEach [] X.env := by rfl) : DIC X (.Tuple elts kk tpos) (.Call (.Name "enumerate" p) [e] [] pos) (kEnum f) := (pi_enum hg hm (pa_cons h pa_nil hs2) hs).w fun σ H R ⟨F, ρ, xs, E, ef, q⟩ => by
  obtain ⟨ys, e1, e2⟩ := bind_some ef
  cases e2
  exact ⟨F, ρ, ys, E, e1, fun a vs F1 H1 g1 h1 r1 => ⟨a, vs, rfl, SqL.of h1, q _ F1 H1 g1 (j_enum (fun F H c _ _ => c _ _ h1) r1)⟩⟩
/-- zip of two lists, of two tuples -/
@[simp] def gZip : D → D → Option (List D)
  | .list xs, .list ys => some (zipD xs ys)
  | .tuple xs, .tuple ys => some (zipD xs ys)
  | _, _ => none
@[simp] def kZipD (f g : Rho → Option D) (ρ : Rho) : Option (List D) := (f ρ).bind fun x => (g ρ).bind fun y => gZip x y
theorem DIF.zip {g1 g2 : Rho → Option D} (hg : Gl X "zip") (hm : X.mg "zip" = none) (h : DE X e g1) (h2 : DE X e2 g2) (hs : starEach [e, e2] X.env = (false, eval e X.env) :: starEach [e2] X.env := by rfl) (hs2 : starEach [e2] X.env = (false, eval e2 X.env) :: starEach [] X.env := by rfl) (hpl : (backTo pos (starEach [e2] X.env)).any (·.1) = false := by rfl) :
    DIF X (.Tuple elts kk tpos) (.Call (.Name "zip" p) [e, e2] [] pos) (kZipD g1 g2) := (RZ.pi_zipA hg hm (pa_cons h (pa_cons h2 pa_nil hs2) hs) hs hpl).w fun σ H R ⟨F, ρ, xs, E, ef, q⟩ => by
  obtain ⟨x, e1, ef⟩ := bind_some ef
  obtain ⟨y, e2, ef⟩ := bind_some ef
  refine ⟨F, ρ, x, E, e1, fun v F1 H1 g1 r1 => ⟨F1, ρ, y, E.gr g1, e2, fun u F2 H2 g2 r2 => ?_⟩⟩
  unfold gZip at ef
  split at ef
  · cases ef
    cases r1 with
    | lst h1 h2 =>
      cases r2 with
      | lst h3 h4 =>
        have h1' := g2.f _ _ h1
        exact ⟨_, _, _, _, rfl, .inl ⟨SqL.of (g2.s _ _ h1'), SqL.of (g2.s _ _ h3), q _ F2 H2 (g1.trans g2) (j_zip (fun F H _ l l2 => l2 _ _ (l _ _ h1')) (fun F H _ l l2 => l2 _ _ (l _ _ h3)) (h2.mono g2.f) h4)⟩⟩
  · cases ef
    cases r1 with
    | tup h1 h2 =>
      cases r2 with
      | tup h3 h4 =>
        have h1' := g2.f _ _ h1
        exact ⟨_, _, _, _, rfl, .inr ⟨SqT.of (g2.s _ _ h1'), SqT.of (g2.s _ _ h3), q _ F2 H2 (g1.trans g2) (j_zipT (fun F H _ l l2 => l2 _ _ (l _ _ h1')) (fun F H _ l l2 => l2 _ _ (l _ _ h3)) (h2.mono g2.f) h4)⟩⟩
  · cases ef
theorem DIC.zip (hg : Gl X "zip") (hm : X.mg "zip" = none) (h : DLs X e f) (h2 : DLs X e2 f2) (hs : starEach [e, e2] X.env = (false, eval e X.env) :: starEach [e2] X.env := by rfl) (hs2 : starEach [e2] X.env = (false, eval e2 X.env) :: starEach [] X.env := by rfl) (hpl : (backTo pos (starEach [e2] X.env)).any (·.1) = false := by rfl) :
    DIC X (.Tuple elts kk tpos) (.Call (.Name "zip" p) [e, e2] [] pos) (kZip f f2) := (pi_zip hg hm (pa_cons h (pa_cons h2 pa_nil hs2) hs) hs hpl).w fun σ H R ⟨F, ρ, xs, E, ef, q⟩ => by
  obtain ⟨x, e1, ef⟩ := bind_some ef
  obtain ⟨y, e2, ef⟩ := bind_some ef
  cases ef
  refine ⟨F, ρ, x, E, e1, fun a vs F1 H1 g1 h1 r1 => ⟨F1, ρ, y, E.gr g1, e2, fun b us F2 H2 g2 h3 r2 => ?_⟩⟩
  have h1' := g2.h _ _ h1
  exact ⟨_, _, _, _, rfl, SqL.of h1', SqL.of h3, q _ F2 H2 (g1.trans g2) (j_zip (fun F H c _ _ => c _ _ h1') (fun F H c _ _ => c _ _ h3) (r1.mono g2.f) r2)⟩
end
end DL

set_option Elab.async false
set_option linter.all false
set_option maxRecDepth 100000
set_option maxHeartbeats 2000000
namespace DL
open PySem PySem.Spec L2

/-! ### targets: names, tuples of names; the slots that they store at: js -/
def Only (js : List Nat) (σ σ' : L2.St) : Prop := σ'.length = σ.length ∧ ∀ j, j ∉ js → σ'[j]? = σ[j]?
theorem Only.refl {js : List Nat} {σ : L2.St} : Only js σ σ := ⟨rfl, fun _ _ => rfl⟩
theorem Only.trans {js ks : List Nat} {σ σ1 σ2 : L2.St} (a : Only js σ σ1) (b : Only ks σ1 σ2) : Only (js ++ ks) σ σ2 :=
  ⟨b.1.trans a.1, fun j h => (b.2 j fun z => h (List.mem_append_right _ z)).trans (a.2 j fun z => h (List.mem_append_left _ z))⟩
theorem Only.set {σ : L2.St} {i : Nat} {o : Option V} : Only [i] σ (σ.set i o) := ⟨by simp, fun j h => List.getElem?_set_ne (fun e => h (by simp [e]))⟩
def tG (js : List Nat) (g : D → Rho → Option Rho) : TG := fun v σ H Q => ∃ F ρ d ρ', EnvR F H σ ρ ∧ Rp F v d ∧ g d ρ = some ρ' ∧ ∀ σ', EnvR F H σ' ρ' → Only js σ σ' → Q σ' H
def tGs (js : List Nat) (g : List D → Rho → Option Rho) : TGs := fun vs σ H Q => ∃ F ρ ds ρ', EnvR F H σ ρ ∧ RpAll F vs ds ∧ g ds ρ = some ρ' ∧ ∀ σ', EnvR F H σ' ρ' → Only js σ σ' → Q σ' H
abbrev DG (X : Cx) (e : Expr) (js : List Nat) (g : D → Rho → Option Rho) : Prop := PG X e (tG js g)
abbrev DGs (X : Cx) (e : List Expr) (js : List Nat) (g : List D → Rho → Option Rho) : Prop := PGs X e (tGs js g)
theorem _root_.L2.PGs.w {X : Cx} {e : List Expr} {t t' : TGs} (h : PGs X e t) (w : ∀ v σ H Q, t' v σ H Q → t v σ H Q) : PGs X e t' := ⟨fun pins s σ H v u Q I r q => h.run pins s σ H v u Q I r (w v σ H Q q)⟩
@[simp] def sName (i : Nat) (d : D) (ρ : Rho) : Option Rho := some (ρ.set i (.fr d))
@[simp] def sNil (ds : List D) (ρ : Rho) : Option Rho := match ds with
  | [] => some ρ
  | _ => none
@[simp] def sCons (g : D → Rho → Option Rho) (h : List D → Rho → Option Rho) (ds : List D) (ρ : Rho) : Option Rho := match ds with
  | d :: r => (g d ρ).bind fun ρ' => h r ρ'
  | _ => none
@[simp] def sTup (n : Nat) (h : List D → Rho → Option Rho) (d : D) (ρ : Rho) : Option Rho := match d with
  | .tuple ds => if ds.length = n then h ds ρ else none
  | _ => none
section
variable {X : Cx} {e : Expr} {es : List Expr} {pos : Pos}
theorem DG.name {i : Nat} {x : Str} (hN : X.N.Nodup) (hi : X.N[i]? = some x) (hx : Loc X.env.scope x) (hf : X.fn x = true ∨ X.env.scope.names.lookup x = some .local := by first | exact .inl rfl | exact .inr rfl | assumption) : DG X (.Name x pos) [i] (sName i) :=
  (pg_name hN hi hx hf).w fun v σ H Q ⟨F, ρ, d, ρ', E, r, eg, q⟩ => by
    cases eg
    exact q _ (E.set i r) Only.set
theorem DGs.nil : DGs X [] [] sNil := pgs_nil.w fun v σ H Q ⟨F, ρ, ds, ρ', E, r, eg, q⟩ => by
  unfold sNil at eg
  split at eg <;> cases eg
  cases r
  exact ⟨rfl, q σ E Only.refl⟩
theorem DGs.cons {js ks : List Nat} {g : D → Rho → Option Rho} {h : List D → Rho → Option Rho} (h1 : DG X e js g) (h2 : DGs X es ks h) (hs : (assignEach (e :: es) X.env).map (·.2) = assign e X.env :: (assignEach es X.env).map (·.2) := by rfl) : DGs X (e :: es) (js ++ ks) (sCons g h) :=
  (pgs_cons h1 h2 hs).w fun vs σ H Q ⟨F, ρ, ds, ρ', E, r, eg, q⟩ => by
    cases r with
    | nil => cases eg
    | cons r1 r2 =>
      obtain ⟨ρ1, e1, e2⟩ := bind_some (show (g _ ρ).bind _ = _ from eg)
      exact ⟨_, _, rfl, F, ρ, _, ρ1, E, r1, e1, fun σ1 E1 o1 => ⟨F, ρ1, _, ρ', E1, r2, e2, fun σ2 E2 o2 => q σ2 E2 (o1.trans o2)⟩⟩
theorem DG.tup {js : List Nat} {g : List D → Rho → Option Rho} {k n : Nat} (hc : X.calm = true) (h : DGs X es js g) (hn : (assignEach es X.env).length = n := by rfl) (hst : (assignEach es X.env).findIdx? (·.1) = none := by rfl) : DG X (.Tuple es k pos) js (sTup n g) :=
  (pg_tup hc h hn hst).w fun v σ H Q ⟨F, ρ, d, ρ', E, r, eg, q⟩ => by
    unfold sTup at eg
    split at eg
    · split at eg
      · rename_i ds hl
        cases r with
        | tup h1 h2 => exact ⟨_, _, rfl, SqT.of (E.le _ _ h1), by rw [h2.length]; exact hl, F, ρ, ds, ρ', E, h2, eg, q⟩
      · cases eg
    · cases eg
end

/-! ### comprehensions -/
def wipeE (ρ : Rho) : List Nat → Rho
  | [] => ρ
  | v :: vs => (wipeE ρ vs).set v .un
theorem EnvR.un {F H : Hp} {σ : L2.St} {ρ : Rho} (E : EnvR F H σ ρ) (i : Nat) {o0 : Option V} : EnvR F H (σ.set i o0) (ρ.set i .un) := by
  refine ⟨E.le, fun j s e => ?_, fun j k a s t e1 e2 o1 o2 h1 h2 => ?_⟩
  · by_cases q : i = j
    · subst q
      by_cases l : i < ρ.length
      · rw [List.getElem?_set_self l] at e
        obtain ⟨o, h, _⟩ := E.sl i ρ[i] (List.getElem?_eq_getElem l)
        cases e
        exact ⟨_, List.getElem?_set_self (List.getElem?_eq_some_iff.mp h).1, trivial⟩
      · rw [List.getElem?_eq_none (by simpa using l)] at e; cases e
    · rw [List.getElem?_set_ne q] at e ⊢
      exact E.sl j s e
  · have go : ∀ (j : Nat) (s : Sl), (ρ.set i .un)[j]? = some s → s.own = true → i ≠ j ∧ ρ[j]? = some s := fun j s e o => by
      by_cases q : i = j
      · subst q
        by_cases l : i < ρ.length
        · rw [List.getElem?_set_self l] at e; cases e; cases o
        · rw [List.getElem?_eq_none (by simpa using l)] at e; cases e
      · rw [List.getElem?_set_ne q] at e; exact ⟨q, e⟩
    obtain ⟨n1, e1⟩ := go j s e1 o1
    obtain ⟨n2, e2⟩ := go k t e2 o2
    rw [List.getElem?_set_ne n1] at h1
    rw [List.getElem?_set_ne n2] at h2
    exact E.ap j k a s t e1 e2 o1 o2 h1 h2
theorem EnvR.wipe {F H : Hp} {σ : L2.St} {ρ : Rho} (E : EnvR F H σ ρ) : ∀ vs : List Nat, EnvR F H (L2.wipe σ vs) (wipeE ρ vs)
  | [] => E
  | v :: vs => (E.wipe vs).un v
theorem wipe_get (σ : L2.St) (j : Nat) : ∀ vs : List Nat, (L2.wipe σ vs)[j]? = if j ∈ vs ∧ j < σ.length then some none else σ[j]?
  | [] => by simp [L2.wipe]
  | v :: vs => by
    have ih := wipe_get σ j vs
    unfold L2.wipe
    by_cases h : v = j
    · subst h
      by_cases l : v < σ.length
      · rw [List.getElem?_set_self (by rw [wipe_length]; exact l), if_pos ⟨List.mem_cons_self, l⟩]
      · rw [List.getElem?_eq_none (by simpa [wipe_length] using l), if_neg (fun z => l z.2), List.getElem?_eq_none (by simpa using l)]
    · rw [List.getElem?_set_ne h, ih]
      have : j ∈ v :: vs ↔ j ∈ vs := by simp [Ne.symm h]
      simp only [this]
theorem wipe_only {σ σ' : L2.St} {vs : List Nat} (o : Only vs (L2.wipe σ vs) σ') : L2.wipe σ' vs = L2.wipe σ vs := by
  have hl : σ'.length = σ.length := o.1.trans (wipe_length σ vs)
  apply List.ext_getElem?
  intro j
  rw [wipe_get, wipe_get, hl]
  split
  · rfl
  · rename_i h
    by_cases m : j ∈ vs
    · have l : ¬ j < σ.length := fun l => h ⟨m, l⟩
      rw [List.getElem?_eq_none (by omega), List.getElem?_eq_none (by omega)]
    · rw [o.2 j m, wipe_get, if_neg (fun z => m z.1)]
theorem Only.mono {js ks : List Nat} {σ σ' : L2.St} (o : Only js σ σ') (h : ∀ j ∈ js, j ∈ ks) : Only ks σ σ' := ⟨o.1, fun j n => o.2 j fun z => n (h j z)⟩
abbrev DTs (X : Cx) (e : List Expr) (f : Rho → Option Bool) : Prop := PTs X e (tT f)
theorem _root_.L2.PTs.w {X : Cx} {e : List Expr} {t t' : TT} (h : PTs X e t) (w : ∀ σ H Q, t' σ H Q → t σ H Q) : PTs X e t' := ⟨fun pins s σ H Q I q => h.run pins s σ H Q I (w σ H Q q)⟩
@[simp] def kYes (_ : Rho) : Option Bool := some true
theorem DTs.nil {X : Cx} : DTs X [] kYes := pts_nil.w fun σ H Q ⟨F, ρ, b, E, ef, q⟩ => by
  cases ef
  exact q F H (Gr.refl E.le)
theorem DTs.one {X : Cx} {c : Expr} {f : Rho → Option Bool} (h : DT X c f) : DTs X [c] f := pts_one h
/-- the items made -/
def compGo (g : D → Rho → Option Rho) (tt : Rho → Option Bool) (te : Rho → Option D) (ρ0 : Rho) : List D → Option (List D)
  | [] => some []
  | x :: xs => (g x ρ0).bind fun ρ1 => (tt ρ1).bind fun b => if b = true then (te ρ1).bind fun y => (compGo g tt te ρ0 xs).bind fun ys => some (y :: ys) else compGo g tt te ρ0 xs
def fit (ys : List D) : Option Rv := if ys.length ≤ line then some (.ow ys) else none
@[simp] def kComp (vs : List Nat) (src : Rho → Option (List D)) (g : D → Rho → Option Rho) (tt : Rho → Option Bool) (te : Rho → Option D) (ρ : Rho) : Option Rv :=
  (src ρ).bind fun xs => (compGo g tt te (wipeE ρ vs) xs).bind fit
theorem fit_inv {ys : List D} {r : Rv} (h : fit ys = some r) : ys.length ≤ line ∧ r = .ow ys := by
  unfold fit at h
  split at h
  · rename_i hl; cases h; exact ⟨hl, rfl⟩
  · cases h
/-- what holds within a comprehension -/
structure Acc (F1 H1 : Hp) (D0 : Addr) (F' H' : Hp) (dn : List D) : Prop where
  gr : Gr F1 H1 F' H'
  at_ : ∃ acc, H' D0 = some (.lst acc) ∧ RpAll F' acc dn
  fz : F' D0 = none
theorem Acc.start {F1 H1 : Hp} {D0 : Addr} (l : Le F1 H1) (h : H1 D0 = none) : Acc F1 H1 D0 F1 (upd H1 D0 (.lst [])) [] :=
  ⟨Gr.lay l h, ⟨[], upd_same, .nil⟩, free_of l h⟩
theorem Acc.step {F1 H1 F' H' F2 H2 : Hp} {D0 : Addr} {dn : List D} (a : Acc F1 H1 D0 F' H' dn) (g : Gr F' H' F2 H2) : Acc F1 H1 D0 F2 H2 dn := by
  obtain ⟨acc, h1, h2⟩ := a.at_
  exact ⟨a.gr.trans g, ⟨acc, g.h _ _ h1, h2.mono g.f⟩, g.g _ a.fz (by rw [h1]; exact Hot.of fun _ z => nomatch z)⟩
theorem Acc.put {F1 H1 F' H' : Hp} {D0 : Addr} {dn : List D} {y : V} {d : D} (a : Acc F1 H1 D0 F' H' dn) (h0 : H1 D0 = none) (r : Rp F' y d) {acc : List V} (h : H' D0 = some (.lst acc)) : Acc F1 H1 D0 F' (upd H' D0 (.lst (acc ++ [y]))) (dn ++ [d]) := by
  obtain ⟨acc', h1, h2⟩ := a.at_
  rw [h] at h1
  cases h1
  have ne : ∀ b o, F' b = some o → b ≠ D0 := fun b o e z => by rw [z, a.fz] at e; cases e
  refine ⟨⟨a.gr.f, fun b o e => ?_, fun b o e => ?_, fun b e1 e2 => a.gr.g b e1 e2⟩, ⟨_, upd_same, h2.append (.cons r .nil)⟩, a.fz⟩
  · rw [upd_ne (ne_of_none e h0)]; exact a.gr.h b o e
  · rw [upd_ne (ne b o e)]; exact a.gr.s b o e
theorem Acc.len {F1 H1 F' H' : Hp} {D0 : Addr} {dn : List D} (a : Acc F1 H1 D0 F' H' dn) {acc : List V} (h : H' D0 = some (.lst acc)) : acc.length = dn.length := by
  obtain ⟨acc', h1, h2⟩ := a.at_
  rw [h] at h1
  cases h1
  exact h2.length
section
variable {X : Cx} {elt tg iter : Expr} {ifs : List Expr} {scope : Scope} {own : List (Str × Nat)} {pos : Pos} {src : Rho → Option (List D)} {g : D → Rho → Option Rho} {tt : Rho → Option Bool} {te : Rho → Option D} {js : List Nat}
theorem lc_w (hjs : ∀ j ∈ js, j ∈ own.map (·.2)) (σ : L2.St) (H : Hp) (Q : VK) (h : tR (kComp (own.map (·.2)) src g tt te) σ H Q) : tLc (tIC src) (tG js g) (tT tt) (tE te) (own.map (·.2)) σ H Q := by
  obtain ⟨F, ρ, r, E, ef, q⟩ := h
  obtain ⟨xs, e1, ef⟩ := bind_some ef
  obtain ⟨ys, e2, ef⟩ := bind_some ef
  obtain ⟨hl, rfl⟩ := fit_inv ef
  refine ⟨F, ρ, xs, E, e1, fun J F1 H1 g1 j D0 h0 => ?_⟩
  refine ⟨fun i m H' => m = xs.length - i ∧ i ≤ xs.length ∧ ∃ F' dn rest, Acc F1 H1 D0 F' H' dn ∧ compGo g tt te (wipeE ρ (own.map (·.2))) (xs.drop i) = some rest ∧ dn ++ rest = ys, ⟨xs.length, by simp, Nat.zero_le _, F1, [], ys, Acc.start g1.s h0, by simpa using e2, rfl⟩, ?_⟩
  rintro i m H' ⟨rfl, hi, F', dn, rest, a, hr, hy⟩
  by_cases hlt : i < xs.length
  · refine .inr ⟨j.go i F' H' a.gr.h a.gr.f a.gr.s hlt, fun H2 => ∃ F2 dn rest, Acc F1 H1 D0 F2 H2 dn ∧ compGo g tt te (wipeE ρ (own.map (·.2))) (xs.drop (i + 1)) = some rest ∧ dn ++ rest = ys, fun H2 ⟨F2, dn, rest, a2, b2, c2⟩ => ⟨xs.length - (i + 1), by omega, rfl, hlt, F2, dn, rest, a2, b2, c2⟩, fun x H2 y2 => ?_⟩
    obtain ⟨F2, gy, rx⟩ := j.yld i F' H' x H2 xs[i] a.gr.h a.gr.f a.gr.s (List.getElem?_eq_getElem hlt) y2
    have a2 := a.step gy
    rw [List.drop_eq_getElem_cons hlt] at hr
    obtain ⟨ρ1, e3, hr⟩ := bind_some (show (g _ _).bind _ = _ from hr)
    obtain ⟨b, e4, hr⟩ := bind_some hr
    refine ⟨F2, _, xs[i], ρ1, (E.wipe _).gr (g1.trans a2.gr), rx, e3, fun σ2 E2 o2 => ⟨wipe_only (o2.mono hjs), F2, ρ1, b, E2, e4, fun F3 H3 g3 => ?_⟩⟩
    have a3 := a2.step g3
    cases b with
    | false =>
      rw [if_neg Bool.false_ne_true] at hr
      exact iteF ⟨F3, dn, rest, a3, hr, hy⟩
    | true =>
      rw [if_pos rfl] at hr
      refine iteT ?_
      obtain ⟨y, e5, hr⟩ := bind_some hr
      obtain ⟨rest', e6, hr⟩ := bind_some hr
      cases hr
      refine ⟨F3, ρ1, y, E2.gr g3, e5, fun v F4 H4 g4 r4 => ?_⟩
      have a4 := a3.step g4
      obtain ⟨acc, h4, h5⟩ := a4.at_
      refine ⟨acc, h4, ?_, F4, dn ++ [y], rest', a4.put h0 r4 h4, e6, by rw [List.append_assoc]; exact hy⟩
      rw [h5.length, line_eq]
      have := congrArg List.length hy
      simp at this
      omega
  · have : i = xs.length := by omega
    subst this
    rw [List.drop_length] at hr
    cases hr
    rw [List.append_nil] at hy
    subst hy
    refine .inl ⟨j.stop _ F' H' a.gr.h a.gr.f a.gr.s (Nat.le_refl _), ?_⟩
    obtain ⟨acc, h4, h5⟩ := a.at_
    exact q _ F' H' (g1.trans a.gr) ⟨D0, acc, rfl, free_of g1.h h0, a.fz, h4, h5⟩
theorem DR.lc (hc : X.calm = true) (hN : X.N.Nodup) (hi : DIC X tg iter src) (ok : BlkOk X.N X.env.scope scope own)
    (hg : ∀ (s : Shared) (H : Hp) (C : Addr) (cl : List (Str × Addr)) (fp : List Addr), DG (X.blk s H scope (compEnvC scope cl C X.env) fp) tg js g)
    (ht : ∀ (s : Shared) (H : Hp) (C : Addr) (cl : List (Str × Addr)) (fp : List Addr), DTs (X.blk s H scope (compEnvC scope cl C X.env) fp) ifs tt)
    (he : ∀ (s : Shared) (H : Hp) (C : Addr) (cl : List (Str × Addr)) (fp : List Addr), DE (X.blk s H scope (compEnvC scope cl C X.env) fp) elt te)
    (hjs : ∀ j ∈ js, j ∈ own.map (·.2) := by decide) (hs : ∀ x, foldedSetIterable iter X.env x = pure x := by intro _; rfl) : DR X (.ListComp elt [⟨tg, iter, ifs, 0⟩] scope pos) (kComp (own.map (·.2)) src g tt te) :=
  (pe_lc hc hN hi ok hg ht he hs).w (lc_w hjs)
end
end DL

set_option Elab.async false
set_option linter.all false
set_option maxRecDepth 100000
set_option maxHeartbeats 2000000
namespace DL
open PySem PySem.Spec L2

/-! ### statements -/
inductive Fl where
  | nx (ρ : Rho)
  | br (ρ : Rho)
  | ct (ρ : Rho)
  | rt (r : Rv)
  | ex (c : Str) (i : Int)
/-- the state in a def's body; F0, H0: at its entry -/
structure StOk (F0 H0 F H : Hp) (σ : L2.St) (ρ : Rho) : Prop where
  env : EnvR F H σ ρ
  gr : Gr F0 H0 F H
  new : ∀ (i : Nat) (s : Sl) (a : Addr), ρ[i]? = some s → s.own = true → σ[i]? = some (some (.ref a)) → H0 a = none
/-- what is wanted behind -/
def fin (wx : Hp → Str → Int → Prop) (F0 H0 : Hp) (Z : Ends) : Fl → Prop
  | .nx ρ => ∀ σ F H, StOk F0 H0 F H σ ρ → Z.nx σ H
  | .br ρ => ∀ σ F H, StOk F0 H0 F H σ ρ → Z.bk σ H
  | .ct ρ => ∀ σ F H, StOk F0 H0 F H σ ρ → Z.ct σ H
  | .rt r => ∀ v F H, Gr F0 H0 F H → RvR H0 F H v r → Z.rt v H
  | .ex c i => wx H0 c i
def tS (wx : Hp → Str → Int → Prop) (f : Rho → Option Fl) : TS := fun Z σ H => ∃ F0 H0 F ρ fl, StOk F0 H0 F H σ ρ ∧ f ρ = some fl ∧ fin wx F0 H0 Z fl
abbrev DS (wx : Hp → Str → Int → Prop) (X : Cx) (st : Stmt) (f : Rho → Option Fl) : Prop := PS X st (tS wx f)
abbrev DSs (wx : Hp → Str → Int → Prop) (X : Cx) (st : List Stmt) (f : Rho → Option Fl) : Prop := PSs X st (tS wx f)
theorem StOk.gro {F0 H0 F H F' H' : Hp} {σ : L2.St} {ρ : Rho} (S : StOk F0 H0 F H σ ρ) (g : Gr F H F' H') : StOk F0 H0 F' H' σ ρ := ⟨S.env.gr g, S.gr.trans g, S.new⟩
theorem StOk.set {F0 H0 F H : Hp} {σ : L2.St} {ρ : Rho} (S : StOk F0 H0 F H σ ρ) (i : Nat) {v : V} {d : D} (r : Rp F v d) : StOk F0 H0 F H (σ.set i (some v)) (ρ.set i (.fr d)) := by
  refine ⟨S.env.set i r, S.gr, fun j s a e o h => ?_⟩
  by_cases q : i = j
  · subst q
    by_cases l : i < ρ.length
    · rw [List.getElem?_set_self l] at e; cases e; cases o
    · rw [List.getElem?_eq_none (by simpa using l)] at e; cases e
  · rw [List.getElem?_set_ne q] at e h
    exact S.new j s a e o h
theorem StOk.setOwn {F0 H0 F H : Hp} {σ : L2.St} {ρ : Rho} (S : StOk F0 H0 F H σ ρ) (i : Nat) {p : Addr} {s0 : Sl} (ho : SlR F H (some (.ref p)) s0) (h0 : H0 p = none) (hn : ∀ j s, ρ[j]? = some s → s.own = true → j ≠ i → σ[j]? ≠ some (some (.ref p))) : StOk F0 H0 F H (σ.set i (some (.ref p))) (ρ.set i s0) := by
  refine ⟨S.env.setOwn i ho hn, S.gr, fun j s a e o h => ?_⟩
  by_cases q : i = j
  · subst q
    by_cases l : i < σ.length
    · rw [List.getElem?_set_self l] at h; cases h; exact h0
    · rw [List.getElem?_eq_none (by simpa using l)] at h; cases h
  · rw [List.getElem?_set_ne q] at e h
    exact S.new j s a e o h
@[simp] def Rv.slot : Rv → Sl
  | .fr d => .fr d
  | .ow xs => .ow xs
  | .tp _ _ => .un
theorem StOk.un {F0 H0 F H : Hp} {σ : L2.St} {ρ : Rho} (S : StOk F0 H0 F H σ ρ) (i : Nat) {o0 : Option V} : StOk F0 H0 F H (σ.set i o0) (ρ.set i .un) := by
  refine ⟨S.env.un i, S.gr, fun j s a e o h => ?_⟩
  by_cases q : i = j
  · subst q
    by_cases l : i < ρ.length
    · rw [List.getElem?_set_self l] at e; cases e; cases o
    · rw [List.getElem?_eq_none (by simpa using l)] at e; cases e
  · rw [List.getElem?_set_ne q] at e h
    exact S.new j s a e o h
/-- a name gets a value that is new since H -/
theorem StOk.setR {F0 H0 F H F' H' : Hp} {σ : L2.St} {ρ : Rho} (S : StOk F0 H0 F H σ ρ) (g : Gr F H F' H') (i : Nat) {v : V} {r : Rv} (rr : RvR H F' H' v r) : StOk F0 H0 F' H' (σ.set i (some v)) (ρ.set i r.slot) := by
  have S' := S.gro g
  cases r with
  | fr d => exact S'.set i rr
  | ow xs =>
    obtain ⟨a, vs, rfl, h0, hf, hh, r⟩ := rr
    refine S'.setOwn i ⟨a, vs, rfl, hf, hh, r⟩ (free_of S.gr.h h0) fun j s e o _ h => ?_
    exact (S.env.own_at e o h).2 h0
  | tp xs ds => exact S'.un i
/-- the list of its own at slot i changes -/
theorem EnvR.mut {F H : Hp} {σ : L2.St} {ρ : Rho} (E : EnvR F H σ ρ) {i : Nat} {a : Addr} {s0 s1 : Sl} {o1 : HO} (e : ρ[i]? = some s0) (o0 : s0.own = true) (o1' : s1.own = true) (h : σ[i]? = some (some (.ref a))) (r : SlR F (upd H a o1) (some (.ref a)) s1) : EnvR F (upd H a o1) σ (ρ.set i s1) := by
  have hF := (E.own_at e o0 h).1
  have li : i < ρ.length := (List.getElem?_eq_some_iff.mp e).1
  have at_ : ∀ (j : Nat) (s : Sl), (ρ.set i s1)[j]? = some s → ∃ t, ρ[j]? = some t ∧ (s.own = true → t.own = true) := fun j s ej => by
    by_cases q : i = j
    · subst q
      rw [List.getElem?_set_self li] at ej
      exact ⟨s0, e, fun _ => o0⟩
    · rw [List.getElem?_set_ne q] at ej
      exact ⟨s, ej, fun z => z⟩
  refine ⟨fun b u q => ?_, fun j s ej => ?_, fun j k b s t ej ek oj ok hj hk => ?_⟩
  · have : b ≠ a := fun z => by rw [z, hF] at q; cases q
    rw [upd_ne this]; exact E.le b u q
  · by_cases q : i = j
    · subst q
      rw [List.getElem?_set_self li] at ej
      cases ej
      exact ⟨_, h, r⟩
    · rw [List.getElem?_set_ne q] at ej
      obtain ⟨o, ho, ro⟩ := E.sl j s ej
      refine ⟨o, ho, ?_⟩
      cases s with
      | un => trivial
      | fr d => exact ro
      | ow xs =>
        obtain ⟨b, vs, rfl, f, hb, rb⟩ := ro
        have : b ≠ a := fun z => q (E.ap i j a s0 _ e ej o0 rfl h (by rw [← z]; exact ho))
        exact ⟨b, vs, rfl, f, by rw [upd_ne this]; exact hb, rb⟩
      | dk xs =>
        obtain ⟨b, vs, rfl, f, hb, rb⟩ := ro
        have : b ≠ a := fun z => q (E.ap i j a s0 _ e ej o0 rfl h (by rw [← z]; exact ho))
        exact ⟨b, vs, rfl, f, by rw [upd_ne this]; exact hb, rb⟩
      | dt xs =>
        obtain ⟨b, vs, rfl, f, hb, rb⟩ := ro
        have : b ≠ a := fun z => q (E.ap i j a s0 _ e ej o0 rfl h (by rw [← z]; exact ho))
        exact ⟨b, vs, rfl, f, by rw [upd_ne this]; exact hb, rb⟩
      | sc K ns => exact ro
      | rg lo hi => exact ro
  · obtain ⟨s', e1, o1⟩ := at_ j s ej
    obtain ⟨t', e2, o2⟩ := at_ k t ek
    exact E.ap j k b s' t' e1 e2 (o1 oj) (o2 ok) hj hk
theorem StOk.mut {F0 H0 F H : Hp} {σ : L2.St} {ρ : Rho} (S : StOk F0 H0 F H σ ρ) {i : Nat} {a : Addr} {s0 s1 : Sl} {o1 : HO} (e : ρ[i]? = some s0) (o0 : s0.own = true) (o1' : s1.own = true) (h : σ[i]? = some (some (.ref a))) (r : SlR F (upd H a o1) (some (.ref a)) s1) : StOk F0 H0 F (upd H a o1) σ (ρ.set i s1) := by
  have h0 := S.new i s0 a e o0 h
  have hF := (S.env.own_at e o0 h).1
  refine ⟨S.env.mut e o0 o1' h r, ⟨S.gr.f, fun b u q => ?_, fun b u q => ?_, S.gr.g⟩, fun j s b ej oj hj => ?_⟩
  · rw [upd_ne (ne_of_none q h0)]; exact S.gr.h b u q
  · have : b ≠ a := fun z => by rw [z, hF] at q; cases q
    rw [upd_ne this]; exact S.gr.s b u q
  · by_cases q : i = j
    · subst q
      rw [h] at hj; cases hj; exact h0
    · rw [List.getElem?_set_ne q] at ej
      exact S.new j s b ej oj hj

theorem Gr.rebase {F0 H0 F1 H1 F H : Hp} (a : Gr F0 H0 F1 H1) (b : Gr F1 H0 F H) : Gr F0 H0 F H := ⟨a.f.trans b.f, b.h, b.s, fun x e1 e2 => b.g x (a.g x e1 e2) e2⟩
theorem Gr.up {F0 H0 F1 H1 F H : Hp} (a : Gr F0 H0 F1 H1) (b : Gr F0 H0 F H) (l : Le F1 F) : Gr F1 H0 F H := ⟨l, b.h, b.s, fun x e1 e2 => b.g x (free_of a.f e1) e2⟩
theorem StOk.rebase {F0 H0 F1 H1 F H : Hp} {σ : L2.St} {ρ : Rho} (a : Gr F0 H0 F1 H1) (S : StOk F1 H0 F H σ ρ) : StOk F0 H0 F H σ ρ := ⟨S.env, a.rebase S.gr, S.new⟩
theorem StOk.up {F0 H0 F1 H1 F H : Hp} {σ : L2.St} {ρ : Rho} (a : Gr F0 H0 F1 H1) (S : StOk F0 H0 F H σ ρ) (l : Le F1 F) : StOk F1 H0 F H σ ρ := ⟨S.env, a.up S.gr l, S.new⟩

section
variable {wx : Hp → Str → Int → Prop} {X : Cx} {st : Stmt} {rest : List Stmt} {f g : Rho → Option Fl} {e : Expr} {pos : Pos}
@[simp] def zNext (ρ : Rho) : Option Fl := some (.nx ρ)
@[simp] def zSeq (f g : Rho → Option Fl) (ρ : Rho) : Option Fl := (f ρ).bind fun fl => match fl with
  | .nx ρ' => g ρ'
  | other => some other
theorem DSs.nil : DSs wx X [] zNext := pss_nil.w fun Z σ H ⟨F0, H0, F, ρ, fl, S, ef, q⟩ => by
  cases ef
  exact q σ F H S
theorem DSs.one (h : DS wx X st f) : DSs wx X [st] f := pss_one h
theorem DSs.cons (h1 : DS wx X st f) (h2 : DSs wx X rest g) : DSs wx X (st :: rest) (zSeq f g) := (pss_cons h1 h2).w fun Z σ H ⟨F0, H0, F, ρ, fl, S, ef, q⟩ => by
  obtain ⟨fl1, e1, ef⟩ := bind_some ef
  refine ⟨F0, H0, F, ρ, fl1, S, e1, ?_⟩
  cases fl1 with
  | nx ρ' => exact fun σ' F' H' S' => ⟨F0, H0, F', ρ', fl, S', ef, q⟩
  | br ρ' => cases ef; exact q
  | ct ρ' => cases ef; exact q
  | rt r => cases ef; exact q
  | ex c i => cases ef; exact q
theorem DS.pass : DS wx X (.Pass pos) zNext := ps_pass.w fun Z σ H ⟨F0, H0, F, ρ, fl, S, ef, q⟩ => by
  cases ef
  exact q σ F H S
@[simp] def zBreak (ρ : Rho) : Option Fl := some (.br ρ)
@[simp] def zCont (ρ : Rho) : Option Fl := some (.ct ρ)
theorem DS.brk : DS wx X (.Break pos) zBreak := ps_break.w fun Z σ H ⟨F0, H0, F, ρ, fl, S, ef, q⟩ => by
  cases ef
  exact q σ F H S
theorem DS.cont : DS wx X (.Continue pos) zCont := ps_continue.w fun Z σ H ⟨F0, H0, F, ρ, fl, S, ef, q⟩ => by
  cases ef
  exact q σ F H S
/-- never come to -/
@[simp] def zNone (_ : Rho) : Option Fl := none
theorem DS.never : DS wx X st zNone := ⟨fun _ _ _ _ _ _ ⟨_, _, _, _, _, _, ef, _⟩ => nomatch ef⟩
/-- x = e -/
@[simp] def zSet (i : Nat) (f : Rho → Option D) (ρ : Rho) : Option Fl := (f ρ).bind fun d => some (.nx (ρ.set i (.fr d)))
@[simp] def zSetR (i : Nat) (f : Rho → Option Rv) (ρ : Rho) : Option Fl := (f ρ).bind fun r => some (.nx (ρ.set i r.slot))
variable {x : Str} {i : Nat} {pos' : Pos}
theorem setR_w {f : Rho → Option Rv} {t : TE} (ht : ∀ σ H Q, tR f σ H Q → t σ H Q) (Z : Ends) (σ : L2.St) (H : Hp) (h : tS wx (zSetR i f) Z σ H) : tAsg t (gName i) Z σ H := by
  obtain ⟨F0, H0, F, ρ, fl, S, ef, q⟩ := h
  obtain ⟨r, e1, ef⟩ := bind_some ef
  cases ef
  exact ht _ _ _ ⟨F, ρ, r, S.env, e1, fun v F1 H1 g1 r1 => q _ F1 H1 (S.setR g1 i r1)⟩
theorem DS.setR {f : Rho → Option Rv} (hN : X.N.Nodup) (hi : X.N[i]? = some x) (hx : Loc X.env.scope x) (he : DR X e f) (hs : swapsWith e (some (.Name x pos')) pos.line X.env = pure false := by rfl) (hf : X.fn x = true ∨ X.env.scope.names.lookup x = some .local := by first | exact .inl rfl | exact .inr rfl | assumption) :
    DS wx X (.Assign [.Name x pos'] e pos) (zSetR i f) := (ps_set hN hi hx he hs hf).w (setR_w fun _ _ _ h => h)
theorem DS.set {f : Rho → Option D} (hN : X.N.Nodup) (hi : X.N[i]? = some x) (hx : Loc X.env.scope x) (he : DE X e f) (hs : swapsWith e (some (.Name x pos')) pos.line X.env = pure false := by rfl) (hf : X.fn x = true ∨ X.env.scope.names.lookup x = some .local := by first | exact .inl rfl | exact .inr rfl | assumption) :
    DS wx X (.Assign [.Name x pos'] e pos) (zSet i f) := (ps_set hN hi hx he hs hf).w fun Z σ H ⟨F0, H0, F, ρ, fl, S, ef, q⟩ => by
  obtain ⟨r, e1, ef⟩ := bind_some ef
  cases ef
  exact ⟨F, ρ, r, S.env, e1, fun v F1 H1 g1 r1 => q _ F1 H1 ((S.gro g1).set i r1)⟩
/-- x = [.. for ..] -/
theorem DS.setLc {elt tg iter : Expr} {ifs : List Expr} {scope : Scope} {own : List (Str × Nat)} {spos : Pos} {src : Rho → Option (List D)} {g : D → Rho → Option Rho} {tt : Rho → Option Bool} {te : Rho → Option D} {js : List Nat} (hc : X.calm = true) (hN : X.N.Nodup) (hy : X.N[i]? = some x) (hyl : X.env.scope.names.lookup x = some .local)
    (hsw : swapsWith (.ListComp elt [⟨tg, iter, ifs, 0⟩] scope pos) (some (.Name x pos')) spos.line X.env = pure true) (hi : DIC X tg iter src) (ok : BlkOk X.N X.env.scope scope own)
    (hg : ∀ (s : Shared) (H : Hp) (C : Addr) (cl : List (Str × Addr)) (fp : List Addr), DG (X.blk s H scope (compEnvC scope cl C X.env) fp) tg js g)
    (ht : ∀ (s : Shared) (H : Hp) (C : Addr) (cl : List (Str × Addr)) (fp : List Addr), DTs (X.blk s H scope (compEnvC scope cl C X.env) fp) ifs tt)
    (he : ∀ (s : Shared) (H : Hp) (C : Addr) (cl : List (Str × Addr)) (fp : List Addr), DE (X.blk s H scope (compEnvC scope cl C X.env) fp) elt te)
    (hjs : ∀ j ∈ js, j ∈ own.map (·.2) := by decide) (hs : ∀ x, foldedSetIterable iter X.env x = pure x := by intro _; rfl) :
    DS wx X (.Assign [.Name x pos'] (.ListComp elt [⟨tg, iter, ifs, 0⟩] scope pos) spos) (zSetR i (kComp (own.map (·.2)) src g tt te)) :=
  (ps_setLc hc hN hy hyl hsw hi ok hg ht he hs).w (setR_w fun σ H Q h => lc_w hjs σ H Q h)
/-- (a, b) = e -/
theorem StOk.only {F0 H0 F H : Hp} {σ σ' : L2.St} {ρ ρ' : Rho} (S : StOk F0 H0 F H σ ρ) (E : EnvR F H σ' ρ') (h : ∀ (j : Nat) (s : Sl) (a : Addr), ρ'[j]? = some s → s.own = true → σ'[j]? = some (some (.ref a)) → H0 a = none) : StOk F0 H0 F H σ' ρ' := ⟨E, S.gr, h⟩
/-- the targets store frozen data alone -/
def Frz (js : List Nat) (g : D → Rho → Option Rho) : Prop := ∀ d ρ ρ', g d ρ = some ρ' → ∀ j s, ρ'[j]? = some s → s.own = true → j ∉ js ∧ ρ[j]? = some s
def Frzs (js : List Nat) (g : List D → Rho → Option Rho) : Prop := ∀ d ρ ρ', g d ρ = some ρ' → ∀ j s, ρ'[j]? = some s → s.own = true → j ∉ js ∧ ρ[j]? = some s
theorem Frz.name (i : Nat) : Frz [i] (sName i) := fun d ρ ρ' h j s e o => by
  cases h
  by_cases q : i = j
  · subst q
    by_cases l : i < ρ.length
    · rw [List.getElem?_set_self l] at e; cases e; cases o
    · rw [List.getElem?_eq_none (by simpa using l)] at e; cases e
  · rw [List.getElem?_set_ne q] at e
    exact ⟨by simp [Ne.symm q], e⟩
theorem Frzs.nil : Frzs [] sNil := fun d ρ ρ' h j s e o => by
  unfold sNil at h
  split at h <;> cases h
  exact ⟨by simp, e⟩
theorem Frzs.cons {js ks : List Nat} {g : D → Rho → Option Rho} {h : List D → Rho → Option Rho} (a : Frz js g) (b : Frzs ks h) : Frzs (js ++ ks) (sCons g h) := fun d ρ ρ' q j s e o => by
  unfold sCons at q
  split at q
  · obtain ⟨ρ1, e1, e2⟩ := bind_some q
    obtain ⟨n1, f1⟩ := b _ _ _ e2 j s e o
    obtain ⟨n2, f2⟩ := a _ _ _ e1 j s f1 o
    exact ⟨by simp [n1, n2], f2⟩
  · cases q
theorem Frz.tup {js : List Nat} {g : List D → Rho → Option Rho} {n : Nat} (a : Frzs js g) : Frz js (sTup n g) := fun d ρ ρ' q j s e o => by
  unfold sTup at q
  split at q
  · split at q
    · exact a _ _ _ q j s e o
    · cases q
  · cases q
theorem StOk.tgt {F0 H0 F H : Hp} {σ σ' : L2.St} {ρ ρ' : Rho} {js : List Nat} {g : D → Rho → Option Rho} {d : D} (S : StOk F0 H0 F H σ ρ) (fz : Frz js g) (eg : g d ρ = some ρ') (E : EnvR F H σ' ρ') (o : Only js σ σ') : StOk F0 H0 F H σ' ρ' :=
  S.only E fun j s a e w h => by
    obtain ⟨n, e'⟩ := fz _ _ _ eg j s e w
    rw [o.2 j n] at h
    exact S.new j s a e' w h
@[simp] def zAsg (f : Rho → Option D) (g : D → Rho → Option Rho) (ρ : Rho) : Option Fl := (f ρ).bind fun d => (g d ρ).bind fun ρ' => some (.nx ρ')
theorem DS.asg {tg : Expr} {f : Rho → Option D} {js : List Nat} {g : D → Rho → Option Rho} (he : DE X e f) (hg : DG X tg js g) (fz : Frz js g) (hs : swapsWithSole [tg] e pos.line X.env = pure false := by rfl) (hw : swappedStores [tg] e X.env = pure none := by rfl)
    (h1 : (assignEach [tg] X.env).map (·.2) = [assign tg X.env] := by rfl) : DS wx X (.Assign [tg] e pos) (zAsg f g) := (ps_asg he hg hs hw h1).w fun Z σ H ⟨F0, H0, F, ρ, fl, S, ef, q⟩ => by
  obtain ⟨d, e1, ef⟩ := bind_some ef
  obtain ⟨ρ', e2, ef⟩ := bind_some ef
  cases ef
  refine ⟨F, ρ, d, S.env, e1, fun v F1 H1 g1 r1 => ⟨F1, ρ, d, ρ', S.env.gr g1, r1, e2, fun σ' E' o' => ?_⟩⟩
  exact q σ' F1 H1 ((S.gro g1).tgt fz e2 E' o')
/-- a, b = x, y -/
@[simp] def zPar (i j : Nat) (f : Rho → Option (List D)) (ρ : Rho) : Option Fl := (f ρ).bind fun ds => match ds with
  | [x, y] => some (.nx ((ρ.set i (.fr x)).set j (.fr y)))
  | _ => none
theorem DS.par {i j : Nat} {x y : Str} {a b : Expr} {f : Rho → Option (List D)} {px py pt : Pos} {kt k2 : Nat} {pt2 : Pos} (hc : X.calm = true) (hN : X.N.Nodup) (hi : X.N[i]? = some x) (hj : X.N[j]? = some y) (hij : i ≠ j)
    (hx : X.env.scope.names.lookup x = some .local) (hy : X.env.scope.names.lookup y = some .local) (ha : DA X [a, b] f)
    (hw : swappedStores [.Tuple [.Name x px, .Name y py] kt pt] (.Tuple [a, b] k2 pt2) X.env = pure (some [x, y]))
    (hs : swapsWithSole [.Tuple [.Name x px, .Name y py] kt pt] (.Tuple [a, b] k2 pt2) pos.line X.env = pure false := by rfl) :
    DS wx X (.Assign [.Tuple [.Name x px, .Name y py] kt pt] (.Tuple [a, b] k2 pt2) pos) (zPar i j f) := (ps_par hc hN hi hj hij hx hy ha hw hs).w fun Z σ H ⟨F0, H0, F, ρ, fl, S, ef, q⟩ => by
  obtain ⟨ds, e1, ef⟩ := bind_some ef
  split at ef
  · cases ef
    refine ⟨F, ρ, _, S.env, e1, fun vs F1 H1 g1 r1 => ?_⟩
    cases r1 with
    | cons r1 r2 =>
      cases r2 with
      | cons r2 r3 =>
        cases r3
        exact ⟨_, _, rfl, q _ F1 H1 (((S.gro g1).set i r1).set j r2)⟩
  · cases ef

/-! ### if, for, while, return, a dropped value -/
@[simp] def zIf (t : Rho → Option Bool) (f g : Rho → Option Fl) (ρ : Rho) : Option Fl := (t ρ).bind fun b => if b = true then f ρ else g ρ
theorem DS.ifS {c : Expr} {a b : List Stmt} {t : Rho → Option Bool} (hc : DT X c t) (ha : DSs wx X a f) (hb : DSs wx X b g) : DS wx X (.If c a b pos) (zIf t f g) := (ps_if hc ha hb).w fun Z σ H ⟨F0, H0, F, ρ, fl, S, ef, q⟩ => by
  obtain ⟨b, e1, ef⟩ := bind_some ef
  refine ⟨F, ρ, b, S.env, e1, fun F1 H1 g1 => ?_⟩
  cases b with
  | true =>
    rw [if_pos rfl] at ef ⊢
    exact ⟨F0, H0, F1, ρ, fl, S.gro g1, ef, q⟩
  | false =>
    rw [if_neg Bool.false_ne_true] at ef ⊢
    exact ⟨F0, H0, F1, ρ, fl, S.gro g1, ef, q⟩
@[simp] def zRet (f : Rho → Option Rv) (ρ : Rho) : Option Fl := (f ρ).bind fun r => some (.rt r)
theorem DS.ret {f : Rho → Option Rv} (he : DR X e f) : DS wx X (.Return (some e) pos) (zRet f) := (ps_ret he).w fun Z σ H ⟨F0, H0, F, ρ, fl, S, ef, q⟩ => by
  obtain ⟨r, e1, ef⟩ := bind_some ef
  cases ef
  exact ⟨F, ρ, r, S.env, e1, fun v F1 H1 g1 r1 => q v F1 H1 (S.gr.trans g1) (r1.gr (F := F) S.gr.h)⟩
@[simp] def zRetN (_ : Rho) : Option Fl := some (.rt (.fr .none))
theorem DS.retN : DS wx X (.Return none pos) zRetN := ps_retN.w fun Z σ H ⟨F0, H0, F, ρ, fl, S, ef, q⟩ => by
  cases ef
  exact q _ F H S.gr .non
@[simp] def kSlot (i : Nat) (ρ : Rho) : Option Rv := match ρ[i]? with
  | some (.fr d) => some (.fr d)
  | some (.ow xs) => some (.ow xs)
  | _ => none
/-- return x, x a name that may have a list of its own -/
theorem DS.retV (he : PE X e (tVar i)) : DS wx X (.Return (some e) pos) (zRet (kSlot i)) := (ps_ret he).w fun Z σ H ⟨F0, H0, F, ρ, fl, S, ef, q⟩ => by
  obtain ⟨r, e1, ef⟩ := bind_some ef
  cases ef
  unfold kSlot at e1
  split at e1
  · rename_i d hd
    cases e1
    obtain ⟨o, h1, v, rfl, r⟩ := S.env.sl _ _ hd
    exact ⟨v, h1, q v F H S.gr r⟩
  · rename_i xs hd
    cases e1
    obtain ⟨o, h1, a, vs, rfl, hf, hh, r⟩ := S.env.sl _ _ hd
    exact ⟨_, h1, q _ F H S.gr ⟨a, vs, rfl, S.new _ _ _ hd rfl h1, hf, hh, r⟩⟩
  · cases e1
@[simp] def zDrop (f : Rho → Option Rv) (ρ : Rho) : Option Fl := (f ρ).bind fun _ => some (.nx ρ)
theorem DS.drop {f : Rho → Option Rv} (he : DR X e f) (hs : swapsWith e none pos.line X.env = pure false := by rfl) : DS wx X (.Expr e pos) (zDrop f) := (ps_expr he hs).w fun Z σ H ⟨F0, H0, F, ρ, fl, S, ef, q⟩ => by
  obtain ⟨r, e1, ef⟩ := bind_some ef
  cases ef
  exact ⟨F, ρ, r, S.env, e1, fun v F1 H1 g1 r1 => q σ F1 H1 (S.gro g1)⟩
/-- the turns -/
def forGo (g : D → Rho → Option Rho) (b : Rho → Option Fl) : List D → Rho → Option Fl
  | [], ρ => some (.nx ρ)
  | x :: xs, ρ => (g x ρ).bind fun ρ1 => (b ρ1).bind fun fl => match fl with
    | .nx ρ2 => forGo g b xs ρ2
    | .ct ρ2 => forGo g b xs ρ2
    | .br ρ2 => some (.nx ρ2)
    | .rt r => some (.rt r)
    | .ex c i => some (.ex c i)
@[simp] def zFor (src : Rho → Option (List D)) (g : D → Rho → Option Rho) (b : Rho → Option Fl) (ρ : Rho) : Option Fl := (src ρ).bind fun xs => forGo g b xs ρ
theorem DS.for_ {tg iter : Expr} {body : List Stmt} {src : Rho → Option (List D)} {g : D → Rho → Option Rho} {js : List Nat} (hp : PassesOwn (model X.prog X.w) X.A X.env X.xe) (hc : X.calm = true) (hi : DIF X tg iter src) (hg : DG X tg js g) (fz : Frz js g) (hb : DSs wx X body f)
    (hs : ∀ x, foldedSetIterable iter X.env x = pure x := by intro _; rfl) : DS wx X (.For tg iter body [] pos) (zFor src g f) := (ps_for hp hc hi hg hb hs).w fun Z σ H ⟨F0, H0, F, ρ, fl, S, ef, q⟩ => by
  obtain ⟨xs, e1, ef⟩ := bind_some ef
  refine ⟨F, ρ, xs, S.env, e1, fun J F1 H1 g1 j => ?_⟩
  refine ⟨fun i m σ' H' => m = xs.length - i ∧ i ≤ xs.length ∧ ∃ F' ρ', StOk F0 H0 F' H' σ' ρ' ∧ Le F1 F' ∧ forGo g f (xs.drop i) ρ' = some fl, ⟨xs.length, by simp, Nat.zero_le _, F1, ρ, S.gro g1, Le.refl _, by simpa using ef⟩, ?_⟩
  rintro i m σ' H' ⟨rfl, hi, F', ρ', S', l', hf⟩
  by_cases hlt : i < xs.length
  · refine .inr ⟨j.go i F' H' trivial l' S'.env.le hlt, fun σ2 H2 => ∃ F2 ρ2, StOk F0 H0 F2 H2 σ2 ρ2 ∧ Le F1 F2 ∧ forGo g f (xs.drop (i + 1)) ρ2 = some fl, fun σ2 H2 ⟨F2, ρ2, a, b, c⟩ => ⟨xs.length - (i + 1), by omega, rfl, hlt, F2, ρ2, a, b, c⟩, fun x H2 y2 => ?_⟩
    obtain ⟨F2, gy, rx⟩ := j.yld i F' H' x H2 xs[i] trivial l' S'.env.le (List.getElem?_eq_getElem hlt) y2
    rw [List.drop_eq_getElem_cons hlt] at hf
    obtain ⟨ρ1, e3, hf⟩ := bind_some (show (g _ _).bind _ = _ from hf)
    obtain ⟨fl1, e4, hf⟩ := bind_some hf
    have S2 := S'.gro gy
    refine ⟨F2, ρ', xs[i], ρ1, S2.env, rx, e3, fun σ3 E3 o3 => ?_⟩
    have S3 := S2.tgt fz e3 E3 o3
    have l3 := l'.trans gy.f
    have a1 : Gr F0 H0 F1 H1 := (S.gro g1).gr
    refine ⟨F1, H0, F2, ρ1, fl1, S3.up a1 l3, e4, ?_⟩
    cases fl1 with
    | nx ρ2 => exact fun σ4 F4 H4 S4 => ⟨F4, ρ2, S4.rebase a1, S4.gr.f, hf⟩
    | ct ρ2 => exact fun σ4 F4 H4 S4 => ⟨F4, ρ2, S4.rebase a1, S4.gr.f, hf⟩
    | br ρ2 => cases hf; exact fun σ4 F4 H4 S4 => q σ4 F4 H4 (S4.rebase a1)
    | rt r => cases hf; exact fun v F4 H4 g4 r4 => q v F4 H4 (a1.rebase g4) r4
    | ex c i => cases hf; exact q
  · have : i = xs.length := by omega
    subst this
    rw [List.drop_length] at hf
    cases hf
    exact .inl ⟨j.stop _ F' H' trivial l' S'.env.le (Nat.le_refl _), q σ' F' H' S'⟩
/-! ### while: W turns at most -/
def whileGo (t : Rho → Option Bool) (b : Rho → Option Fl) : Nat → Rho → Option Fl
  | 0, _ => none
  | n + 1, ρ => (t ρ).bind fun k => if k = true then (b ρ).bind fun fl => match fl with
      | .nx ρ2 => whileGo t b n ρ2
      | .ct ρ2 => whileGo t b n ρ2
      | .br ρ2 => some (.nx ρ2)
      | .rt r => some (.rt r)
      | .ex c i => some (.ex c i)
    else some (.nx ρ)
@[simp] def zWhile (n : Nat) (t : Rho → Option Bool) (b : Rho → Option Fl) (ρ : Rho) : Option Fl := whileGo t b n ρ
theorem DS.while_ {n : Nat} {c : Expr} {body : List Stmt} {t : Rho → Option Bool} (hp : PassesOwn (model X.prog X.w) X.A X.env X.xe) (hc : DT X c t) (hb : DSs wx X body f) : DS wx X (.While c body [] pos) (zWhile n t f) := (ps_while hp hc hb).w fun Z σ H ⟨F0, H0, F, ρ, fl, S, ef, q⟩ => by
  refine ⟨fun m σ' H' => ∃ F' ρ', StOk F0 H0 F' H' σ' ρ' ∧ whileGo t f m ρ' = some fl, ⟨n, F, ρ, S, ef⟩, ?_⟩
  rintro m σ' H' ⟨F', ρ', S', hf⟩
  cases m with
  | zero => cases hf
  | succ m =>
    obtain ⟨k, e1, hf⟩ := bind_some (show (t ρ').bind _ = _ from hf)
    refine ⟨F', ρ', k, S'.env, e1, fun F1 H1 g1 => ?_⟩
    have S1 := S'.gro g1
    cases k with
    | false =>
      rw [if_neg Bool.false_ne_true] at hf
      cases hf
      exact iteF (q σ' F1 H1 S1)
    | true =>
      rw [if_pos rfl] at hf
      obtain ⟨fl1, e2, hf⟩ := bind_some hf
      refine iteT ⟨fun σ2 H2 => ∃ F2 ρ2, StOk F0 H0 F2 H2 σ2 ρ2 ∧ whileGo t f m ρ2 = some fl, fun σ2 H2 ⟨F2, ρ2, a, b⟩ => ⟨m, Nat.lt_succ_self m, F2, ρ2, a, b⟩, F0, H0, F1, ρ', fl1, S1, e2, ?_⟩
      cases fl1 with
      | nx ρ2 => exact fun σ4 F4 H4 S4 => ⟨F4, ρ2, S4, hf⟩
      | ct ρ2 => exact fun σ4 F4 H4 S4 => ⟨F4, ρ2, S4, hf⟩
      | br ρ2 => cases hf; exact fun σ4 F4 H4 S4 => q σ4 F4 H4 S4
      | rt r => cases hf; exact fun v F4 H4 g4 r4 => q v F4 H4 g4 r4
      | ex c i => cases hf; exact q

/-! ### lists of one's own -/
/-- the list at slot i is frozen from here on -/
@[simp] def frzE (i : Nat) (ρ : Rho) : Rho := match ρ[i]? with
  | some (.ow xs) => ρ.set i (.fr (.list xs))
  | _ => ρ
theorem StOk.ice {F0 H0 F H : Hp} {σ : L2.St} {ρ : Rho} (S : StOk F0 H0 F H σ ρ) (i : Nat) : ∃ F', StOk F0 H0 F' H σ (frzE i ρ) := by
  unfold frzE
  split
  · rename_i xs e
    obtain ⟨o, h1, a, vs, rfl, hf, hh, r⟩ := S.env.sl _ _ e
    have h0 := S.new _ _ _ e rfl h1
    have lf := Le.new (H := F) (o := HO.lst vs) hf
    have li : i < ρ.length := (List.getElem?_eq_some_iff.mp e).1
    refine ⟨upd F a (.lst vs), ⟨⟨(S.gr.ice h0 hf hh).s, fun j s ej => ?_, fun j k b s t ej ek oj ok hj hk => ?_⟩, S.gr.ice h0 hf hh, fun j s b ej oj hj => ?_⟩⟩
    · by_cases q : i = j
      · subst q
        rw [List.getElem?_set_self li] at ej
        cases ej
        exact ⟨_, h1, _, rfl, .lst upd_same (r.mono lf)⟩
      · rw [List.getElem?_set_ne q] at ej
        obtain ⟨o, ho, ro⟩ := S.env.sl j s ej
        refine ⟨o, ho, ?_⟩
        cases s with
        | un => trivial
        | fr d => obtain ⟨v, e1, rv⟩ := ro; exact ⟨v, e1, rv.mono lf⟩
        | ow ys =>
          obtain ⟨b, us, rfl, f, hb, rb⟩ := ro
          have : b ≠ a := fun z => q (S.env.ap i j a _ _ e ej rfl rfl h1 (by rw [← z]; exact ho))
          exact ⟨b, us, rfl, by rw [upd_ne this]; exact f, hb, rb.mono lf⟩
        | dk ys =>
          obtain ⟨b, us, rfl, f, hb, rb⟩ := ro
          have : b ≠ a := fun z => q (S.env.ap i j a _ _ e ej rfl rfl h1 (by rw [← z]; exact ho))
          exact ⟨b, us, rfl, by rw [upd_ne this]; exact f, hb, rb.mono lf⟩
        | dt ys =>
          obtain ⟨b, us, rfl, f, hb, rb⟩ := ro
          have : b ≠ a := fun z => q (S.env.ap i j a _ _ e ej rfl rfl h1 (by rw [← z]; exact ho))
          exact ⟨b, us, rfl, by rw [upd_ne this]; exact f, hb, rb.mono lf⟩
        | sc K ns => obtain ⟨b, e1, rb⟩ := ro; exact ⟨b, e1, sqL_le lf rb⟩
        | rg lo hi => obtain ⟨b, e1, rb⟩ := ro; exact ⟨b, e1, lf _ _ rb⟩
    · have go : ∀ (j : Nat) (s : Sl), (ρ.set i (.fr (.list xs)))[j]? = some s → s.own = true → ρ[j]? = some s := fun j s e o => by
        by_cases q : i = j
        · subst q
          rw [List.getElem?_set_self li] at e; cases e; cases o
        · rw [List.getElem?_set_ne q] at e; exact e
      exact S.env.ap j k b s t (go j s ej oj) (go k t ek ok) oj ok hj hk
    · by_cases q : i = j
      · subst q
        rw [List.getElem?_set_self li] at ej; cases ej; cases oj
      · rw [List.getElem?_set_ne q] at ej; exact S.new j s b ej oj hj
  · exact ⟨F, S⟩
@[simp] def zIce (i : Nat) (f : Rho → Option Fl) (ρ : Rho) : Option Fl := f (frzE i ρ)
theorem DSs.ice {sts : List Stmt} (i : Nat) (h : DSs wx X sts f) : DSs wx X sts (zIce i f) := h.w fun Z σ H ⟨F0, H0, F, ρ, fl, S, ef, q⟩ => by
  obtain ⟨F', S'⟩ := S.ice i
  exact ⟨F0, H0, F', _, fl, S', ef, q⟩
theorem DS.ice (i : Nat) (h : DS wx X st f) : DS wx X st (zIce i f) := h.w fun Z σ H ⟨F0, H0, F, ρ, fl, S, ef, q⟩ => by
  obtain ⟨F', S'⟩ := S.ice i
  exact ⟨F0, H0, F', _, fl, S', ef, q⟩
/-- x.append(e) -/
@[simp] def zApp (i : Nat) (f : Rho → Option D) (ρ : Rho) : Option Fl := match ρ[i]? with
  | some (.ow xs) => (f ρ).bind fun d => if xs.length < line then some (.nx (ρ.set i (.ow (xs ++ [d])))) else none
  | _ => none
theorem DS.app {o e : Expr} {f : Rho → Option D} {apos cpos : Pos} (ho : PE X o (tVar i)) (he : DE X e f) (hs : swapsWith (.Call (.Attribute o "append" apos) [e] [] cpos) none pos.line X.env = pure false := by rfl)
    (hbase : attributeBase o "append" X.env (eval o X.env) = eval o X.env := by rfl)
    (hfew : ((backTo cpos (starEach (e :: []) X.env)).all (fun x => !x.1) && (backToKw cpos (keywordEach [] X.env)).all (fun x => x.1.isSome)
      && decide ((e :: ([] : List Expr)).length + ([] : List Keyword).length + (if ([] : List Keyword).isEmpty then 0 else 1) < 30)) = true := by rfl)
    (hline : (apos.endLine == cpos.line) = true := by rfl) (h1 : starEach (e :: []) X.env = (false, eval e X.env) :: starEach [] X.env := by rfl) (hplain : (backTo cpos (starEach [] X.env)).any (·.1) = false := by rfl) :
    DS wx X (.Expr (.Call (.Attribute o "append" apos) [e] [] cpos) pos) (zApp i f) :=
  (ps_expr (pe_bm PySem.F.plainAttrs_list PySem.F.slot_list_append PySem.F.type_list_append mt_append ho (pa_cons he pa_nil h1) hbase hfew hline h1 hplain) hs).w fun Z σ H ⟨F0, H0, F, ρ, fl, S, ef, q⟩ => by
  unfold zApp at ef
  split at ef
  · rename_i xs hx
    obtain ⟨d, e1, ef⟩ := bind_some ef
    split at ef
    · rename_i hl
      cases ef
      obtain ⟨o, h1, a, vs, rfl, hf, hh, r⟩ := S.env.sl _ _ hx
      refine ⟨_, h1, .inl ⟨rfl, _, SqL.of hh⟩, F, ρ, d, S.env, e1, fun v F1 H1 g1 r1 => ?_⟩
      have S1 := S.gro g1
      have hh1 := g1.h _ _ hh
      refine ⟨a, vs, v, rfl, rfl, hh1, by rw [r.length, line_eq]; exact hl, ?_⟩
      exact q σ F1 _ (S1.mut hx rfl rfl h1 ⟨a, _, rfl, (S1.env.own_at hx rfl h1).1, upd_same, (r.mono g1.f).append (.cons r1 .nil)⟩)
    · cases ef
  · cases ef
/-- x[e] = v -/
@[simp] def zPut (i : Nat) (f g : Rho → Option D) (ρ : Rho) : Option Fl := (f ρ).bind fun d => match ρ[i]? with
  | some (.ow xs) => (g ρ).bind fun k => match k with
    | .int k => (ixN xs.length k).bind fun j => some (.nx (ρ.set i (.ow (xs.set j d))))
    | _ => none
  | _ => none
theorem DS.put {o k e : Expr} {f g : Rho → Option D} {tpos : Pos} (he : DE X e f) (ho : PE X o (tVar i)) (hk : DE X k g) 
    (ha : ∀ v, assign (.Subscript o k tpos) X.env v = (do
      let ov ← holding [v] (eval o X.env)
      let iv ← holding [v, ov] (eval k X.env)
      standAt tpos
      holding [v, ov, iv] (setItem ov iv v)
      release [v, ov, iv] []) := by intro _; rfl) (hs : swapsWithSole [.Subscript o k tpos] e pos.line X.env = pure false := by rfl) (hw : swappedStores [.Subscript o k tpos] e X.env = pure none := by rfl)
    (h1 : (assignEach [.Subscript o k tpos] X.env).map (·.2) = [assign (.Subscript o k tpos) X.env] := by rfl) : DS wx X (.Assign [.Subscript o k tpos] e pos) (zPut i f g) :=
  (ps_asg he (pg_sub ho hk set_list ha) hs hw h1).w fun Z σ H ⟨F0, H0, F, ρ, fl, S, ef, q⟩ => by
  obtain ⟨d, e1, ef⟩ := bind_some ef
  split at ef
  · rename_i xs hx
    obtain ⟨kd, e2, ef⟩ := bind_some ef
    split at ef
    · obtain ⟨j, e3, ef⟩ := bind_some ef
      cases ef
      refine ⟨F, ρ, d, S.env, e1, fun v F1 H1 g1 r1 => ?_⟩
      have S1 := S.gro g1
      obtain ⟨o, h1, a, vs, rfl, hf, hh, r⟩ := S1.env.sl _ _ hx
      refine ⟨_, h1, F1, ρ, _, S1.env, e2, fun u F2 H2 g2 r2 => ?_⟩
      cases r2
      have S2 := S1.gro g2
      refine ⟨a, vs, _, j, rfl, rfl, g2.h _ _ hh, by rw [r.length]; exact e3, ?_⟩
      exact q σ F2 _ (S2.mut hx rfl rfl h1 ⟨a, _, rfl, (S2.env.own_at hx rfl h1).1, upd_same, (r.mono g2.f).set (r1.mono g2.f) j⟩)
    · cases ef
  · cases ef
end
end DL

set_option Elab.async false
set_option linter.all false
set_option maxRecDepth 100000
set_option maxHeartbeats 2000000
namespace DL
open PySem PySem.Spec L2

/-! ### defs -/
inductive Res where
  | ok (r : Rv)
  | ex (c : Str) (i : Int)
/-- what an exception of the class named c with at = i is; IsX is left open -/
abbrev XIs := Str → Int → Value → Option Addr → Hp → Prop
def resFin (IsX : XIs) (F H : Hp) (Q : VK) (E : XK) : Res → Prop
  | .ok r => ∀ v F' H', Gr F H F' H' → RvR H F' H' v r → Q v H'
  | .ex c i => ∀ cls d H', Le H H' → IsX c i cls d H' → E cls d H'
def spD (IsX : XIs) (den : List D → Option Res) : Sp := fun vs H Q E => ∃ F ds res, Le F H ∧ RpAll F vs ds ∧ den ds = some res ∧ resFin IsX F H Q E res
@[simp] def flRes : Fl → Option Res
  | .rt r => some (.ok r)
  | .nx _ => some (.ok (.fr .none))
  | .ex c i => some (.ex c i)
  | _ => none
@[simp] def dFn (n N : Nat) (f : Rho → Option Fl) (ds : List D) : Option Res := if ds.length = n then (f (ds.map Sl.fr ++ List.replicate (N - n) Sl.un)).bind flRes else none
theorem dFn_inv {n N : Nat} {f : Rho → Option Fl} {ds : List D} {res : Res} (h : dFn n N f ds = some res) : ds.length = n ∧ ∃ fl, f (ds.map Sl.fr ++ List.replicate (N - n) Sl.un) = some fl ∧ flRes fl = some res := by
  unfold dFn at h
  split at h
  · rename_i e
    obtain ⟨fl, h1, h2⟩ := bind_some h
    exact ⟨e, fl, h1, h2⟩
  · cases h
theorem envR_start {F H : Hp} (l : Le F H) {vs : List V} {ds : List D} (r : RpAll F vs ds) (k : Nat) : EnvR F H (vs.map some ++ List.replicate k none) (ds.map Sl.fr ++ List.replicate k Sl.un) := by
  have own_no : ∀ (j : Nat) (s : Sl), (ds.map Sl.fr ++ List.replicate k Sl.un)[j]? = some s → s.own = false := fun j s e => by
    rw [List.getElem?_append] at e
    split at e
    · rw [List.getElem?_map] at e
      cases h : ds[j]? with
      | none => rw [h] at e; cases e
      | some d => rw [h] at e; cases e; rfl
    · rw [List.getElem?_replicate] at e
      split at e <;> cases e
      rfl
  refine ⟨l, fun i s e => ?_, fun i j a s t e1 e2 o1 o2 _ _ => ?_⟩
  · rw [List.getElem?_append] at e
    split at e
    · rename_i hl
      rw [List.length_map] at hl
      rw [List.getElem?_map, List.getElem?_eq_getElem hl] at e
      cases e
      obtain ⟨v, h1, h2⟩ := r.get (List.getElem?_eq_getElem hl)
      refine ⟨some v, ?_, v, rfl, h2⟩
      rw [List.getElem?_append_left (by rw [List.length_map, r.length]; exact hl), List.getElem?_map, h1]
      rfl
    · rename_i hl
      rw [List.length_map] at hl
      rw [List.getElem?_replicate] at e
      split at e <;> cases e
      rename_i h2
      rw [List.length_map] at h2
      refine ⟨none, ?_, trivial⟩
      rw [List.getElem?_append_right (by rw [List.length_map, r.length]; omega), List.getElem?_replicate, if_pos (by rw [List.length_map, r.length]; omega)]
  · rw [own_no i s e1] at o1
    cases o1
theorem stOk_start {F H : Hp} {σ : L2.St} {ρ : Rho} (E : EnvR F H σ ρ) (no : ∀ (i : Nat) (s : Sl), ρ[i]? = some s → s.own = false) : StOk F H F H σ ρ :=
  ⟨E, Gr.refl E.le, fun i s a e o _ => by rw [no i s e] at o; cases o⟩
theorem own_start {ds : List D} {k : Nat} : ∀ (j : Nat) (s : Sl), (ds.map Sl.fr ++ List.replicate k Sl.un)[j]? = some s → s.own = false := fun j s e => by
  rw [List.getElem?_append] at e
  split at e
  · rw [List.getElem?_map] at e
    cases h : ds[j]? with
    | none => rw [h] at e; cases e
    | some d => rw [h] at e; cases e; rfl
  · rw [List.getElem?_replicate] at e
    split at e <;> cases e
    rfl
/-- the end of a body -/
theorem fin_res {IsX : XIs} {F H : Hp} {Q : VK} {E : XK} {fl : Fl} {res : Res} (h : flRes fl = some res) (q : resFin IsX F H Q E res) : fin (fun H0 c i => ∀ cls d H', Le H0 H' → IsX c i cls d H' → E cls d H') F H { nx := fun _ H' => Q .non H', rt := Q } fl := by
  cases fl with
  | nx ρ => cases h; exact fun σ F' H' S => q _ F' H' S.gr .non
  | br ρ => cases h
  | ct ρ => cases h
  | rt r => cases h; exact q
  | ex c i => cases h; exact q
section
variable {P : Program} {w : World} {K : PySem.W.Frag} {mg : Str → Option Value} {base : Heap} {x qual : Str} {f : Addr} {fd : FuncData} {N ps : List Str} {k : Nat} {g : Rho → Option Fl} {params : Arguments} {body : List Stmt} {sc : Scope}
/-- a def that raises nothing -/
theorem fn_ok {IsX : XIs} (F : FunD K x qual params body sc [] [] f fd) (S : FnScope N ps sc)
    (hb : ∀ (wx : Hp → Str → Int → Prop) (cdv : Value) (A : Around) (outer : List PySem.Env) (s : Shared) (H : Hp) (E : XK), Room k (A.deeper (PyProof.Rows.envOfC qual sc s.heap.objs.size f cdv)) → DSs wx (cxOf CX0 P w K mg base N qual sc f cdv A outer s H E).nox body g) :
    FnOk P w K mg base CX0 (k + 1) f fd ps (spD IsX (dFn ps.length N.length g)) := by
  refine F.ok S (fun vs H Q E ⟨F, ds, res, l, r, e, q⟩ => by rw [r.length]; exact (dFn_inv e).1) fun cdv A outer s H vs Q E hr ⟨F, ds, res, l, r, e, q⟩ => ?_
  obtain ⟨el, fl, e1, e2⟩ := dFn_inv e
  refine ⟨_, (hb (fun H0 c i => ∀ cls d H', Le H0 H' → IsX c i cls d H' → E cls d H') cdv A outer s H E hr).nox, F, H, F, _, fl, stOk_start (envR_start l r _) own_start, ?_, fin_res e2 q⟩
  rw [r.length, el]
  exact e1
/-- what a caller knows of a def -/
structure FnD (P : Program) (w : World) (K : PySem.W.Frag) (mg : Str → Option Value) (base : Heap) (IsX : XIs) (CX : CXT) (k : Nat) (x : Str) (ps : List Str) (den : List D → Option Res) : Prop where
  ex : ∃ f fd, FnOk P w K mg base CX k f fd ps (spD IsX den) ∧ mg x = some (.ref f) ∧ PySem.W.keepIn K (.ref f) = true ∧ Binds K fd ps []
@[simp] def kCallD (den : List D → Option Res) (fs : Rho → Option (List D)) (ρ : Rho) : Option Rv := (fs ρ).bind fun ds => (den ds).bind fun res => match res with
  | .ok r => some r
  | _ => none
theorem callD_w {IsX : XIs} {den : List D → Option Res} {fs : Rho → Option (List D)} (σ : L2.St) (H : Hp) (Q : VK) (h : tR (kCallD den fs) σ H Q) : tCall (spD IsX den) [] E0 (tA fs) σ H Q := by
  obtain ⟨F, ρ, r, E, ef, q⟩ := h
  obtain ⟨ds, e1, ef⟩ := bind_some ef
  obtain ⟨res, e2, ef⟩ := bind_some ef
  cases res <;> cases ef
  refine ⟨F, ρ, ds, E, e1, fun vs F1 H1 g1 r1 => ⟨F1, ds, _, g1.s, by rw [List.append_nil]; exact r1, e2, fun v F2 H2 g2 r2 => ?_⟩⟩
  exact q v F2 H2 (g1.trans g2) (r2.gr (F := F) g1.h)
theorem DR.call {X : Cx} {IsX : XIs} {den : List D → Option Res} {fs : Rho → Option (List D)} {e : Expr} {es : List Expr} {p pos : Pos} (G : FnD X.prog X.w X.K X.mg X.base IsX CX0 k x ps den) (hr : Room k X.A) (hg : Gl X x) (ha : DA X (e :: es) fs) (hdb : (x == ("__debug__" : Str)) = false := by decide)
    (he : starEach (e :: es) X.env = (false, eval e X.env) :: starEach es X.env := by rfl) (hpl : (backTo pos (starEach es X.env)).any (·.1) = false := by rfl) : DR X (.Call (.Name x p) (e :: es) [] pos) (kCallD den fs) := by
  obtain ⟨f, fd, G, hm, hk, hb⟩ := G.ex
  exact (pe_call G hr hg hm hk hb .nil pass0 ha hdb he hpl).w callD_w
end
end DL

set_option Elab.async false
set_option linter.all false
set_option maxRecDepth 100000
set_option maxHeartbeats 2000000
namespace DL
open PySem PySem.Spec L2
section
variable {X : Cx}
theorem DE.globE {x : Str} {i : Int} {pos : Pos} (hg : Gl X x) (hm : ∃ t, X.mg x = some (.int i t)) (hd : (x == ("__debug__" : Str)) = false := by decide) : DE X (.Name x pos) (kC (.int i)) :=
  let ⟨_, h⟩ := hm
  DE.glob hg h hd
theorem boot_any_ : bootBuiltins "any" = some (.builtin "any") := by decide +kernel
theorem boot_all_ : bootBuiltins "all" = some (.builtin "all") := by decide +kernel
theorem boot_sum_ : bootBuiltins "sum" = some (.builtin "sum") := by decide +kernel
theorem boot_min_ : bootBuiltins "min" = some (.builtin "min") := by decide +kernel
theorem boot_max_ : bootBuiltins "max" = some (.builtin "max") := by decide +kernel
theorem boot_abs_ : bootBuiltins "abs" = some (.builtin "abs") := by decide +kernel
theorem boot_len_ : bootBuiltins "len" = some (.builtin "len") := by decide +kernel
theorem boot_sorted_ : bootBuiltins "sorted" = some (.builtin "sorted") := by decide +kernel
theorem boot_repr_ : bootBuiltins "repr" = some (.builtin "repr") := by decide +kernel
theorem boot_list_ : bootBuiltins "list" = some (.type "list") := by decide +kernel
theorem boot_tuple_ : bootBuiltins "tuple" = some (.type "tuple") := by decide +kernel
theorem boot_int_ : bootBuiltins "int" = some (.type "int") := by decide +kernel
theorem boot_set_ : bootBuiltins "set" = some (.type "set") := by decide +kernel
theorem boot_dict_ : bootBuiltins "dict" = some (.type "dict") := by decide +kernel
variable {a b c : Expr} {f1 f2 f3 : Rho → Option D} {pos : Pos}
theorem eAdd (ha : DE X a f1) (hb : DE X b f2) : DE X (.BinOp a .Add b pos) (kBin gAdd f1 f2) := DE.bin op_addD od_add ha hb
theorem eSub (ha : DE X a f1) (hb : DE X b f2) : DE X (.BinOp a .Sub b pos) (kBin gSub f1 f2) := DE.bin op_sub od_sub ha hb
theorem eMul (ha : DE X a f1) (hb : DE X b f2) : DE X (.BinOp a .Mult b pos) (kBin gMul f1 f2) := DE.bin op_mulD od_mul ha hb
theorem eDiv (ha : DE X a f1) (hb : DE X b f2) : DE X (.BinOp a .FloorDiv b pos) (kBin gDiv f1 f2) := DE.bin op_fdivN od_div ha hb
theorem eMod (ha : DE X a f1) (hb : DE X b f2) : DE X (.BinOp a .Mod b pos) (kBin gMod f1 f2) := DE.bin op_modN od_mod ha hb
theorem ePow (ha : DE X a f1) (hb : DE X b f2) : DE X (.BinOp a .Pow b pos) (kBin gPow f1 f2) := DE.bin op_pow od_pow ha hb
theorem eNeg (ha : DE X a f1) : DE X (.UnaryOp .USub a pos) (kUn gNeg f1) := DE.un un_neg ud_neg ha
/-- comparisons in short -/
theorem cEq (hu : X.A.units + 65 < cLine) : OpR X (compareOp .Eq) (rEqD X.K) := op_eqD (by omega)
theorem cNe (hu : X.A.units + 65 < cLine) : OpR X (compareOp .NotEq) (rNeD X.K) := op_neD (by omega)
theorem room_hu {k : Nat} {A : Around} (hr : Room k A) : A.units + 65 < cLine := by have := hr.un; omega
/-- a name's slot as a target -/
theorem gN (i : Nat) {x : Str} {p : Pos} (hN : X.N.Nodup) (hi : X.N[i]? = some x := by rfl) (hx : Loc X.env.scope x := by first | exact .inl rfl | exact .inr rfl) (hf : X.fn x = true ∨ X.env.scope.names.lookup x = some .local := by first | exact .inl rfl | exact .inr rfl) : DG X (.Name x p) [i] (sName i) := DG.name hN hi hx hf
variable {wx : Hp → Str → Int → Prop} {x : Str} {i : Nat} {pos' : Pos} {e : Expr}
theorem setE_w {f : Rho → Option Rv} {t : TE} (ht : ∀ σ H Q, tR f σ H Q → t σ H Q) (Z : Ends) (σ : L2.St) (H : Hp) (h : tS wx (zSet i (kData f)) Z σ H) : tAsg t (gName i) Z σ H := by
  obtain ⟨F0, H0, F, ρ, fl, S, ef, q⟩ := h
  obtain ⟨d, e1, ef⟩ := bind_some ef
  cases ef
  obtain ⟨r, e2, e3⟩ := bind_some e1
  cases e3
  refine ht _ _ _ ⟨F, ρ, r, S.env, e2, fun v F1 H1 g1 r1 => ?_⟩
  obtain ⟨F2, g2, r2⟩ := freeze g1 r1
  exact q _ F2 H1 ((S.gro g2).set i r2)
/-- x = [.. for ..], x never changed in place -/
theorem DS.setLcE {elt tg iter : Expr} {ifs : List Expr} {scope : Scope} {own : List (Str × Nat)} {spos : Pos} {src : Rho → Option (List D)} {g : D → Rho → Option Rho} {tt : Rho → Option Bool} {te : Rho → Option D} {js : List Nat} (hc : X.calm = true) (hN : X.N.Nodup) (hy : X.N[i]? = some x) (hyl : X.env.scope.names.lookup x = some .local)
    (hsw : swapsWith (.ListComp elt [⟨tg, iter, ifs, 0⟩] scope pos) (some (.Name x pos')) spos.line X.env = pure true) (hi : DIC X tg iter src) (ok : BlkOk X.N X.env.scope scope own)
    (hg : ∀ (s : Shared) (H : Hp) (C : Addr) (cl : List (Str × Addr)) (fp : List Addr), DG (X.blk s H scope (compEnvC scope cl C X.env) fp) tg js g)
    (ht : ∀ (s : Shared) (H : Hp) (C : Addr) (cl : List (Str × Addr)) (fp : List Addr), DTs (X.blk s H scope (compEnvC scope cl C X.env) fp) ifs tt)
    (he : ∀ (s : Shared) (H : Hp) (C : Addr) (cl : List (Str × Addr)) (fp : List Addr), DE (X.blk s H scope (compEnvC scope cl C X.env) fp) elt te)
    (hjs : ∀ j ∈ js, j ∈ own.map (·.2) := by decide) (hs : ∀ x, foldedSetIterable iter X.env x = pure x := by intro _; rfl) :
    DS wx X (.Assign [.Name x pos'] (.ListComp elt [⟨tg, iter, ifs, 0⟩] scope pos) spos) (zSet i (kData (kComp (own.map (·.2)) src g tt te))) :=
  (ps_setLc hc hN hy hyl hsw hi ok hg ht he hs).w (setE_w fun σ H Q h => lc_w hjs σ H Q h)
/-- x.extend(e) -/
@[simp] def zExt (i : Nat) (f : Rho → Option (List D)) (ρ : Rho) : Option Fl := match ρ[i]? with
  | some (.ow xs) => (f ρ).bind fun ds => if xs.length + ds.length ≤ line then some (.nx (ρ.set i (.ow (xs ++ ds)))) else none
  | _ => none
theorem DS.ext {o e : Expr} {f : Rho → Option (List D)} {apos cpos : Pos} (ho : PE X o (tVar i)) (he : DLs X e f) (hs : swapsWith (.Call (.Attribute o "extend" apos) [e] [] cpos) none pos.line X.env = pure false := by rfl)
    (hbase : attributeBase o "extend" X.env (eval o X.env) = eval o X.env := by rfl)
    (hfew : ((backTo cpos (starEach (e :: []) X.env)).all (fun x => !x.1) && (backToKw cpos (keywordEach [] X.env)).all (fun x => x.1.isSome)
      && decide ((e :: ([] : List Expr)).length + ([] : List Keyword).length + (if ([] : List Keyword).isEmpty then 0 else 1) < 30)) = true := by rfl)
    (hline : (apos.endLine == cpos.line) = true := by rfl) (h1 : starEach (e :: []) X.env = (false, eval e X.env) :: starEach [] X.env := by rfl) (hplain : (backTo cpos (starEach [] X.env)).any (·.1) = false := by rfl) :
    DS wx X (.Expr (.Call (.Attribute o "extend" apos) [e] [] cpos) pos) (zExt i f) :=
  (ps_expr (pe_bm PySem.F.plainAttrs_list PySem.F.slot_list_extend PySem.F.type_list_extend mt_extend ho (pa_cons he pa_nil h1) hbase hfew hline h1 hplain) hs).w fun Z σ H ⟨F0, H0, F, ρ, fl, S, ef, q⟩ => by
  unfold zExt at ef
  split at ef
  · rename_i xs hx
    obtain ⟨d, e1, ef⟩ := bind_some ef
    split at ef
    · rename_i hl
      cases ef
      obtain ⟨o, h1, a, vs, rfl, hf, hh, r⟩ := S.env.sl _ _ hx
      refine ⟨_, h1, .inl ⟨rfl, _, SqL.of hh⟩, F, ρ, d, S.env, e1, fun b us F1 H1 g1 hb r1 => ?_⟩
      have S1 := S.gro g1
      have hh1 := g1.h _ _ hh
      refine ⟨a, b, vs, us, rfl, rfl, hh1, hb, by rw [r.length, r1.length, line_eq]; exact hl, ?_⟩
      exact q σ F1 _ (S1.mut hx rfl rfl h1 ⟨a, _, rfl, (S1.env.own_at hx rfl h1).1, upd_same, (r.mono g1.f).append r1⟩)
    · cases ef
  · cases ef
end
end DL

set_option Elab.async false
set_option linter.all false
set_option maxRecDepth 100000
set_option maxHeartbeats 2000000
namespace DL
open PySem PySem.Spec L2

section
variable {X : Cx} {e a b : Expr} {pos p : Pos}
/-! ### list(range(n)) -/
@[simp] def gListRg1 : List D → Option Rv
  | [.int j] => if sm j = true ∧ j ≤ 16777216 then some (.ow (rangeD 0 1 j.toNat)) else none
  | _ => none
@[simp] def kListRg1 (f : Rho → Option (List D)) (ρ : Rho) : Option Rv := (f ρ).bind gListRg1
theorem rgV_rp {F : Hp} (j : Int) : RpAll F (rgV 0 j) (rangeD 0 1 j.toNat) := by
  have e1 : rgV 0 j = ((List.range j.toNat).map fun (i : Nat) => (i : Int)).map V.int := by
    unfold rgV
    rw [List.map_map, Int.sub_zero]
    exact List.map_congr_left fun i _ => by simp
  have e2 : rangeD 0 1 j.toNat = ((List.range j.toNat).map fun (i : Nat) => (i : Int)).map PyData.int := by
    unfold rangeD
    rw [List.map_map]
    exact List.map_congr_left fun i _ => by simp
  rw [e1, e2]
  exact RpAll.ints
theorem listRg_w {f : Rho → Option D} (σ : L2.St) (H : Hp) (Q : VK) (h : tR (kListRg1 (kCons f kNil)) σ H Q) : tLstRg (tRg1 (tE f)) σ H Q := by
  obtain ⟨F, ρ, r, E, ef, q⟩ := h
  obtain ⟨ds, e1, ef⟩ := bind_some ef
  obtain ⟨d, e2, e1⟩ := bind_some e1
  cases e1
  unfold gListRg1 at ef
  split at ef
  · rename_i j hj
    split at ef
    · rename_i hb
      cases ef
      cases hj
      refine ⟨F, ρ, _, E, e2, fun v F1 H1 g1 r1 => ?_⟩
      cases r1
      have hb1 := sm_iff.mp hb.1
      refine ⟨j, rfl, ⟨by omega, by omega, hb1.1, by omega, by omega⟩, fun p hp => ?_⟩
      exact q _ F1 _ (g1.trans (Gr.lay g1.s hp)) (rv_new g1.h g1.s hp (rgV_rp j))
    · cases ef
  · cases ef
theorem DR.listRg1 {f : Rho → Option D} {p2 pos2 : Pos} (hg : Gl X "list") (hm : X.mg "list" = none) (hg2 : Gl X "range") (hm2 : X.mg "range" = none) (ha : DE X a f) (hc : X.calm = true := by rfl)
    (na : starEach [a] X.env = (false, eval a X.env) :: starEach [] X.env := by rfl) (na2 : starEach [(.Call (.Name "range" p2) [a] [] pos2 : Expr)] X.env = (false, eval (.Call (.Name "range" p2) [a] [] pos2) X.env) :: starEach [] X.env := by rfl) :
    DR X (.Call (.Name "list" p) [.Call (.Name "range" p2) [a] [] pos2] [] pos) (kListRg1 (kCons f kNil)) :=
  (pe_listRg hc hg hm (prg_1 hg2 hm2 ha na) na2).w listRg_w

/-! ### sorted -/
open Classical in
noncomputable def gSorted (ds : List D) : Option Rv := if PySem.W.AllAlike ds ∧ PySem.W.Sortable ds ∧ ds.length ≤ line ∧ (∀ d ∈ ds, d.depth ≤ 60) then some (.ow (ds.mergeSort (PySem.W.dataLe false id))) else none
def rSortedA (K : PySem.W.Frag) : List V → Hp → VK → Prop := fun vs H Q => ∃ a xs ds, vs = [.ref a] ∧ SqL K H a xs ∧ DpAll K H xs ds ∧ PySem.W.AllAlike ds ∧ PySem.W.Sortable ds ∧ ds.length ≤ sizeLine ∧ (∀ d ∈ ds, d.depth ≤ 60) ∧
  ∀ ys p, Paired (fun (y : V) (d : D) => ∃ i : Nat, xs[i]? = some y ∧ ds[i]? = some d) ys (ds.mergeSort (PySem.W.dataLe false id)) → H p = none → Q (.ref p) (upd H p (.lst ys))
theorem each_of {α : Type} {R : Value → α → Prop} : ∀ {us : List Value} {ds : List α}, us.length = ds.length → (∀ (i : Nat) (u : Value) (d : α), us[i]? = some u → ds[i]? = some d → R u d) → PySem.W.EachIs R us ds
  | [], [], _, _ => .nil
  | u :: us, d :: ds, e, h => .cons (h 0 u d rfl rfl) (each_of (by simpa using e) fun i u' d' h1 h2 => h (i + 1) u' d' (by simpa using h1) (by simpa using h2))
  | [], _ :: _, e, _ => by simp at e
  | _ :: _, [], e, _ => by simp at e
theorem vals_of_each {xs : List V} {ds : List D} : ∀ {us : List Value} {es : List D}, PySem.W.EachIs (fun (u : Value) (d : D) => ∃ (i : Nat) (x : V), xs[i]? = some x ∧ ds[i]? = some d ∧ RelV x u) us es →
    ∃ ys : List V, Vals ys us ∧ Paired (fun (y : V) (d : D) => ∃ i : Nat, xs[i]? = some y ∧ ds[i]? = some d) ys es
  | _, _, .nil => ⟨[], .nil, .nil⟩
  | _, _, .cons ⟨i, x, h1, h2, h3⟩ t => let ⟨ys, a, b⟩ := vals_of_each t; ⟨x :: ys, .cons h3 a, .cons ⟨i, h1, h2⟩ b⟩
theorem readsAll_get {h : Heap} : ∀ {us : List Value} {ds : List D} {as : List Addr}, ReadsAll h us ds as → ∀ (i : Nat) (u : Value) (d : D), us[i]? = some u → ds[i]? = some d → ∃ as, Reads h u d as
  | _, _, _, .nil, i, u, d, h1, _ => by simp at h1
  | _, _, _, .cons r t, 0, u, d, h1, h2 => by simp at h1 h2; subst h1; subst h2; exact ⟨_, r⟩
  | _, _, _, .cons r t, i + 1, u, d, h1, h2 => readsAll_get t i u d (by simpa using h1) (by simpa using h2)
theorem readsAll_len {h : Heap} : ∀ {us : List Value} {ds : List D} {as : List Addr}, ReadsAll h us ds as → us.length = ds.length
  | _, _, _, .nil => rfl
  | _, _, _, .cons _ t => by simp [readsAll_len t]
theorem paired_len {α β : Type} {R : α → β → Prop} : ∀ {xs : List α} {ys : List β}, Paired R xs ys → xs.length = ys.length
  | _, _, .nil => rfl
  | _, _, .cons _ t => by simp [paired_len t]
theorem cr_sortedD (hu : X.A.units + 65 < cLine) : CallR X (.builtin "sorted") (rSortedA X.K) := by
  intro pins s σ H vs us Q I r h
  obtain ⟨a, xs, ds, rfl, hs, hd, h1, h2, h3, h4, q⟩ := h
  obtain ⟨its, rv, hl, hz⟩ := I.list hs
  rw [Vals.ref1 r]
  obtain ⟨as, ra⟩ := Dp.readsAll I ds xs its hd rv
  have le : its.length = ds.length := readsAll_len ra
  refine PySem.W.sorted_data (enc := (id : D → D)) (bs := ds) (R := fun u d => ∃ (i : Nat) (x : V), xs[i]? = some x ∧ ds[i]? = some d ∧ RelV x u) hl.isList (each_of le fun i u d e1 e2 => ?_) (each_of le fun i u d e1 e2 => readsAll_get ra i u d e1 e2) (by rw [List.map_id]; exact h1) (by rw [List.map_id]; exact h2) h3 (fun d hd => ?_) fun out ho he => ?_
  · have hi : i < xs.length := by rw [rv.length]; exact (List.getElem?_eq_some_iff.mp e1).1
    obtain ⟨u', hu', ru⟩ := rv.get (List.getElem?_eq_getElem hi)
    rw [e1] at hu'
    cases hu'
    exact ⟨i, _, List.getElem?_eq_getElem hi, e2, ru⟩
  · have := h4 d hd
    show X.A.units + 2 + d.depth < cLine
    omega
  · obtain ⟨ys, hv, hp⟩ := vals_of_each he
    obtain ⟨ep, he'⟩ := PyProof.Rows.sortedAll_at s.heap its out.toArray
    exact ⟨.ref _, upd H (s.heap.objs.size + 1) (.lst ys), I.laid (t' := s.toks) (fun _ _ => PyProof.Rows.sortedAll_old) (Nat.le_succ _) ⟨by rw [hv.length, ho]; exact h3, out, ep, hv, he'⟩, rfl, q ys _ hp (I.hok.fresh (Nat.le_succ _))⟩
theorem RpAll.of_paired {F : Hp} {xs : List V} {ds : List D} (r : RpAll F xs ds) : ∀ {ys : List V} {es : List D}, Paired (fun (y : V) (d : D) => ∃ i : Nat, xs[i]? = some y ∧ ds[i]? = some d) ys es → RpAll F ys es
  | _, _, .nil => .nil
  | _, _, .cons ⟨i, h1, h2⟩ t => .cons (by
      obtain ⟨v, e1, e2⟩ := r.get h2
      rw [h1] at e1
      cases e1
      exact e2) (r.of_paired t)
theorem cl_sorted {K : PySem.W.Frag} : CallL (rSortedA K) gSorted := fun F H a vs ds z l h r e Q q => by
  unfold gSorted at e
  split at e
  · rename_i hc
    cases e
    refine ⟨a, vs, ds, rfl, SqL.of h, r.dp l, hc.1, hc.2.1, by rw [line_eq]; exact hc.2.2.1, hc.2.2.2, fun ys p hp hn => ?_⟩
    exact q _ F _ (Gr.lay l hn) (rv_new (Le.refl H) l hn (r.of_paired hp))
  · cases e

/-! ### x in (..) too -/
def rInT (K : PySem.W.Frag) : R2 := fun x y H Q => ∃ d ds, Dp K H x d ∧ Dp K H y (.tuple ds) ∧ SeqAt.shaped d = true ∧ SeqAt.shaped (.tuple ds) = true ∧ Q (.bl (ds.any fun z => PyData.eqv z d)) H
theorem op_inT (hu : X.A.units + 65 < cLine) : OpR X (compareOp .In) (rInT X.K) := by
  intro pins s σ H x y v u Q I rx ry h
  obtain ⟨d, ds, hd, he, sd, se, q⟩ := h
  obtain ⟨as, r1⟩ := Dp.reads I d x v hd rx
  obtain ⟨bs, r2⟩ := Dp.reads I (.tuple ds) y u he ry
  have c2 : PyData.canLay0 (.tuple ds) = true := SeqAt.canLay_of_shaped se
  refine PySem.SeqAt.in_tuple_data r2 r1 (PyData.plainAll_of_canLay0 ds (by simpa [PyData.canLay0] using c2)) (PyData.plain_of_canLay0 d (SeqAt.canLay_of_shaped sd)) ?_ ⟨.bl _, H, I, rfl, q⟩
  have h2 := SeqAt.depth_of_shaped sd
  have h3 : min (PyData.depthAll ds) d.depth ≤ d.depth := Nat.min_le_right _ _
  omega
def rInA (K : PySem.W.Frag) : R2 := fun x y H Q => rInD K x y H Q ∨ rInT K x y H Q
theorem cIn (hu : X.A.units + 65 < cLine) : OpR X (compareOp .In) (rInA X.K) := OpR.or (op_inD hu) (op_inT hu)
@[simp] def gInA : D → D → Option D
  | x, .list ys => if SeqAt.shaped x = true ∧ SeqAt.shaped (.list ys) = true then some (.bool (ys.any fun z => PyData.eqv z x)) else none
  | x, .tuple ys => if SeqAt.shaped x = true ∧ SeqAt.shaped (.tuple ys) = true then some (.bool (ys.any fun z => PyData.eqv z x)) else none
  | _, _ => none
theorem od_inA {K : PySem.W.Frag} : OpD (rInA K) gInA := by
  intro F H x y dx dy d l r1 r2 e Q q
  unfold gInA at e
  split at e
  · split at e
    · rename_i h
      cases e
      exact .inl ⟨dx, _, r1.dp l, r2.dp l, h.1, h.2, q _ F H (Gr.refl l) (.bl _)⟩
    · cases e
  · split at e
    · rename_i h
      cases e
      exact .inr ⟨dx, _, r1.dp l, r2.dp l, h.1, h.2, q _ F H (Gr.refl l) (.bl _)⟩
    · cases e
  · cases e

/-! ### slices of a list or a tuple -/
def rSlD (K : PySem.W.Frag) : V → Option Int → Option Int → Hp → VK → Prop := fun x lo hi H Q => (∃ a xs, x = .ref a ∧ SqL K H a xs ∧ ∀ p, H p = none → Q (.ref p) (upd H p (.lst (cutV xs lo hi)))) ∨ rSlA K x lo hi H Q
@[simp] def kSlA (f : Rho → Option D) (lo hi : Rho → Option (Option Int)) (ρ : Rho) : Option Rv := (f ρ).bind fun d => (lo ρ).bind fun l => (hi ρ).bind fun h => match d with
  | .list xs => some (.ow (cutD xs l h))
  | .tuple xs => some (.fr (.tuple (cutD xs l h)))
  | _ => none
theorem cut_rp {F : Hp} {vs : List V} {ds : List D} (r : RpAll F vs ds) (lo hi : Option Int) : RpAll F (cutV vs lo hi) (cutD ds lo hi) := by
  unfold cutV cutD
  rw [r.length]
  exact (r.drop _).take _
theorem DR.slA {f : Rho → Option D} {lo hi : Option Expr} {l h : Rho → Option (Option Int)} {p2 : Pos} (ha : DE X a f) (hl : DO X lo l) (hh : DO X hi h) : DR X (.Subscript a (.Slice lo hi none p2) pos) (kSlA f l h) := (pe_slice (SlR.or sl_list sl_tupA) ha hl hh).w fun σ H Q ⟨F, ρ, r, E, ef, q⟩ => by
  obtain ⟨d, e1, ef⟩ := bind_some ef
  obtain ⟨i, e2, ef⟩ := bind_some ef
  obtain ⟨j, e3, ef⟩ := bind_some ef
  refine ⟨F, ρ, d, E, e1, fun v F1 H1 g1 r1 => ⟨F1, ρ, i, E.gr g1, e2, fun F2 H2 g2 => ⟨F2, ρ, j, (E.gr g1).gr g2, e3, fun F3 H3 g3 => ?_⟩⟩⟩
  have gg := (g1.trans g2).trans g3
  have r3 := r1.mono (g2.f.trans g3.f)
  cases d <;> cases ef
  · cases r3 with
    | lst h1 h2 => exact .inl ⟨_, _, rfl, SqL.of (gg.s _ _ h1), fun p hp => q _ F3 _ (gg.trans (Gr.lay gg.s hp)) (rv_new gg.h gg.s hp (cut_rp h2 i j))⟩
  · cases r3 with
    | tup h1 h2 =>
      refine .inr ⟨_, _, rfl, SqT.of (gg.s _ _ h1), fun hw => ?_, fun hw p hp => ?_⟩
      · refine q _ F3 _ gg ?_
        have e4 := h2.length
        have e5 : ∀ xs : List D, _ = xs.length → cutD xs i j = xs := fun xs e4 => by
          unfold cutD
          rw [← e4, hw.1, hw.2, e4]
          simp
        show Rp F3 _ (.tuple (cutD _ i j))
        rw [e5 _ e4]
        exact .tup h1 h2
      · exact q _ _ _ (gg.trans (Gr.frz gg.s hp)) (.tup upd_same ((cut_rp h2 i j).mono (Le.new (free_of gg.s hp))))

/-! ### xs + ys, a new list -/
@[simp] def kCat (f g : Rho → Option (List D)) (ρ : Rho) : Option Rv := (f ρ).bind fun xs => (g ρ).bind fun ys => if xs.length + ys.length ≤ line then some (.ow (xs ++ ys)) else none
theorem DR.cat {f g : Rho → Option (List D)} (ha : DLs X a f) (hb : DLs X b g) : DR X (.BinOp a .Add b pos) (kCat f g) := (pe_op op_cat ha hb).w fun σ H Q ⟨F, ρ, r, E, ef, q⟩ => by
  obtain ⟨xs, e1, ef⟩ := bind_some ef
  obtain ⟨ys, e2, ef⟩ := bind_some ef
  split at ef
  · rename_i hl
    cases ef
    refine ⟨F, ρ, xs, E, e1, fun a vs F1 H1 g1 h1 r1 => ⟨F1, ρ, ys, E.gr g1, e2, fun b us F2 H2 g2 h2 r2 => ?_⟩⟩
    have gg := g1.trans g2
    refine ⟨a, b, vs, us, rfl, rfl, g2.h _ _ h1, h2, by rw [r1.length, r2.length, line_eq]; exact hl, fun p hp => ?_⟩
    exact q _ F2 _ (gg.trans (Gr.lay gg.s hp)) (rv_new gg.h gg.s hp ((r1.mono g2.f).append r2))
  · cases ef
/-- xs * k, a new list -/
@[simp] def kRep (f : Rho → Option (List D)) (g : Rho → Option D) (ρ : Rho) : Option Rv := (f ρ).bind fun xs => (g ρ).bind fun k => match k with
  | .int k => if k < 2 ^ 32 ∧ -(2 ^ 32) < k ∧ xs.length * k.toNat ≤ line then some (.ow (List.replicate k.toNat xs).flatten) else none
  | _ => none
theorem DR.rep {f : Rho → Option (List D)} {g : Rho → Option D} (ha : DLs X a f) (hb : DE X b g) : DR X (.BinOp a .Mult b pos) (kRep f g) := (pe_op op_rep ha hb).w fun σ H Q ⟨F, ρ, r, E, ef, q⟩ => by
  obtain ⟨xs, e1, ef⟩ := bind_some ef
  obtain ⟨k, e2, ef⟩ := bind_some ef
  split at ef
  · split at ef
    · rename_i k hl
      cases ef
      refine ⟨F, ρ, xs, E, e1, fun a vs F1 H1 g1 h1 r1 => ⟨F1, ρ, _, E.gr g1, e2, fun u F2 H2 g2 r2 => ?_⟩⟩
      cases r2
      have gg := g1.trans g2
      refine ⟨a, k, vs, rfl, rfl, g2.h _ _ h1, by omega, by omega, by rw [r1.length, line_eq]; exact hl.2.2, fun p hp => ?_⟩
      exact q _ F2 _ (gg.trans (Gr.lay gg.s hp)) (rv_new gg.h gg.s hp ((r1.mono g2.f).replicate _))
    · cases ef
  · cases ef

/-! ### == of texts too -/
def rEqA (K : PySem.W.Frag) : R2 := fun x y H Q => rEq x y H Q ∨ rEqD K x y H Q
def rNeA (K : PySem.W.Frag) : R2 := fun x y H Q => rNe x y H Q ∨ rNeD K x y H Q
theorem cEqA (hu : X.A.units + 65 < cLine) : OpR X (compareOp .Eq) (rEqA X.K) := OpR.or op_eq (cEq hu)
theorem cNeA (hu : X.A.units + 65 < cLine) : OpR X (compareOp .NotEq) (rNeA X.K) := OpR.or op_ne (cNe hu)
@[simp] def gEqA : D → D → Option D
  | .str x, .str y => some (.bool (x == y))
  | x, y => gEq x y
@[simp] def gNeA : D → D → Option D
  | .str x, .str y => some (.bool (!(x == y)))
  | x, y => gNe x y
theorem od_eqA {K : PySem.W.Frag} : OpD (rEqA K) gEqA := by
  intro F H x y dx dy d l r1 r2 e Q q
  unfold gEqA at e
  split at e
  · cases e
    cases r1; cases r2
    refine .inl ⟨rfl, ?_⟩
    rw [dec_str]
    exact q _ F H (Gr.refl l) (.bl _)
  · exact .inr (od_eq F H x y _ _ d l r1 r2 e Q q)
theorem od_neA {K : PySem.W.Frag} : OpD (rNeA K) gNeA := by
  intro F H x y dx dy d l r1 r2 e Q q
  unfold gNeA at e
  split at e
  · cases e
    cases r1; cases r2
    refine .inl ⟨rfl, ?_⟩
    rw [dec_str]
    exact q _ F H (Gr.refl l) (.bl _)
  · exact .inr (od_ne F H x y _ _ d l r1 r2 e Q q)

/-! ### repr, where no guard stands -/
def gRepr : List D → Option Rv
  | [d] => if d.showable = true ∧ d.hasDict = false ∧ d.depth ≤ 60 ∧ d.shown.length ≤ line then some (.fr (.str d.shown)) else none
  | _ => none
def rRepr (K : PySem.W.Frag) : List V → Hp → VK → Prop := fun vs H Q => ∃ x d, vs = [x] ∧ Dp K H x d ∧ d.showable = true ∧ d.hasDict = false ∧ d.depth ≤ 60 ∧ d.shown.length ≤ sizeLine ∧ Q (.str d.shown) H
theorem cr_repr (hg : X.A.guards = some []) (hu : X.A.units + 65 < cLine) : CallR X (.builtin "repr") (rRepr X.K) := by
  intro pins s σ H vs us Q I r h
  obtain ⟨x, d, rfl, hd, h1, h2, h3, h4, q⟩ := h
  obtain ⟨u, rfl, ru⟩ := vals1 r
  obtain ⟨as, rd⟩ := Dp.reads I d x u hd ru
  cases rd with
  | none => exact PySem.P.repr_of_none ⟨.str _, H, I.tok _, ⟨_, rfl⟩, q⟩
  | bool b => exact PySem.P.repr_of_bool ⟨.str _, H, I.tok _, ⟨_, rfl⟩, by cases b <;> exact q⟩
  | int i t => exact PySem.P.repr_of_int (of_decide_eq_true h1) ⟨.str _, H, I.tok _, ⟨_, rfl⟩, q⟩
  | str z t => exact PySem.P.repr_of_str ⟨.str _, H, I.tok _, ⟨_, rfl⟩, q⟩ h4
  | list e1 e2 e3 e4 =>
    exact repr_of_reads' (Reads.list e1 e2 e3 e4) h1 (PyData.noDict_hsm h2) hg (by omega) (fun _ _ e => e) (fun h' u tk k => ⟨.str _, H, I.kept k, ⟨_, rfl⟩, q⟩) h4
  | tuple e1 e2 e3 e4 =>
    exact repr_of_reads' (Reads.tuple e1 e2 e3 e4) h1 (PyData.noDict_hsm h2) hg (by omega) (fun _ _ e => e) (fun h' u tk k => ⟨.str _, H, I.kept k, ⟨_, rfl⟩, q⟩) h4
  | dict => simp [PyData.hasDict] at h2
theorem cd_repr {K : PySem.W.Frag} : CallD (rRepr K) gRepr := fun F H vs ds z l r e Q q => by
  unfold gRepr at e
  split at e
  · split at e
    · rename_i d hc
      cases e
      cases r with
      | cons r1 r2 =>
        cases r2
        exact ⟨_, d, rfl, r1.dp l, hc.1, hc.2.1, hc.2.2.1, by rw [line_eq]; exact hc.2.2.2, q _ F H (Gr.refl l) (.str _)⟩
    · cases e
  · cases e
end
end DL

set_option Elab.async false
set_option linter.all false
set_option maxRecDepth 100000
set_option maxHeartbeats 2000000
namespace DL
open PySem PySem.Spec L2

section
variable {X : Cx} {wx : Hp → Str → Int → Prop} {e a b tg : Expr} {pos p : Pos} {i : Nat} {x : Str} {pos' : Pos}
/-! ### a range as a value -/
def rRange1 : List V → Hp → VK → Prop := fun vs H Q => ∃ j, vs = [V.int j] ∧ ∀ p, H p = none → Q (.ref p) (upd H p (.rng 0 j))
theorem cr_range1 : CallR X (.type "range") rRange1 := by
  intro pins s σ H vs us Q I r h
  obtain ⟨j, rfl, q⟩ := h
  obtain ⟨u1, rfl, ri⟩ := vals1 r
  obtain ⟨t, rfl⟩ := ri
  refine call_range_1 ⟨.ref s.heap.objs.size, upd H s.heap.objs.size (.rng 0 j), I.laid (t' := s.toks + 1 + 1) (fun b o e => Heap.get?_push_of_some _ e) (Nat.le_refl _) ?_, rfl, q _ (I.hok.fresh (Nat.le_refl _))⟩
  exact ⟨_, t, _, Heap.get?_push_size _ rfl⟩
theorem boot_range_ : bootBuiltins "range" = some (.type "range") := by decide +kernel
@[simp] def zSetRg (i : Nat) (f : Rho → Option D) (ρ : Rho) : Option Fl := (f ρ).bind fun d => match d with
  | .int j => some (.nx (ρ.set i (.rg 0 j)))
  | _ => none
theorem EnvR.setFr {F H : Hp} {σ : L2.St} {ρ : Rho} (E : EnvR F H σ ρ) (i : Nat) {v : V} {s0 : Sl} (hs : s0.own = false) (r : SlR F H (some v) s0) : EnvR F H (σ.set i (some v)) (ρ.set i s0) := by
  refine ⟨E.le, fun j s e => ?_, fun j k a s t e1 e2 o1 o2 h1 h2 => ?_⟩
  · by_cases q : i = j
    · subst q
      by_cases l : i < ρ.length
      · rw [List.getElem?_set_self l] at e
        obtain ⟨o, h, _⟩ := E.sl i ρ[i] (List.getElem?_eq_getElem l)
        cases e
        exact ⟨some v, List.getElem?_set_self (List.getElem?_eq_some_iff.mp h).1, r⟩
      · rw [List.getElem?_eq_none (by simpa using l)] at e; cases e
    · rw [List.getElem?_set_ne q] at e ⊢
      exact E.sl j s e
  · have go : ∀ j s, (ρ.set i s0)[j]? = some s → s.own = true → i ≠ j ∧ ρ[j]? = some s := fun j s e o => by
      by_cases q : i = j
      · subst q
        by_cases l : i < ρ.length
        · rw [List.getElem?_set_self l] at e; cases e; rw [hs] at o; cases o
        · rw [List.getElem?_eq_none (by simpa using l)] at e; cases e
      · rw [List.getElem?_set_ne q] at e; exact ⟨q, e⟩
    obtain ⟨n1, e1⟩ := go j s e1 o1
    obtain ⟨n2, e2⟩ := go k t e2 o2
    rw [List.getElem?_set_ne n1] at h1
    rw [List.getElem?_set_ne n2] at h2
    exact E.ap j k a s t e1 e2 o1 o2 h1 h2
theorem StOk.setFr {F0 H0 F H : Hp} {σ : L2.St} {ρ : Rho} (S : StOk F0 H0 F H σ ρ) (i : Nat) {v : V} {s0 : Sl} (hs : s0.own = false) (r : SlR F H (some v) s0) : StOk F0 H0 F H (σ.set i (some v)) (ρ.set i s0) := by
  refine ⟨S.env.setFr i hs r, S.gr, fun j s a e o h => ?_⟩
  by_cases q : i = j
  · subst q
    by_cases l : i < ρ.length
    · rw [List.getElem?_set_self l] at e; cases e; rw [hs] at o; cases o
    · rw [List.getElem?_eq_none (by simpa using l)] at e; cases e
  · rw [List.getElem?_set_ne q] at e h
    exact S.new j s a e o h
theorem DS.setRg {f : Rho → Option D} (hN : X.N.Nodup) (hi : X.N[i]? = some x) (hx : Loc X.env.scope x) (hG : Gl X "range") (hm : X.mg "range" = none) (ha : DE X a f)
    (hs : swapsWith (.Call (.Name "range" p) [a] [] pos) (some (.Name x pos')) pos.line X.env = pure false := by rfl) (hf : X.fn x = true ∨ X.env.scope.names.lookup x = some .local := by first | exact .inl rfl | exact .inr rfl | assumption)
    (he : starEach (a :: []) X.env = (false, eval a X.env) :: starEach [] X.env := by rfl) (hpl : (backTo pos (starEach [] X.env)).any (·.1) = false := by rfl) {spos : Pos} (hs : swapsWith (.Call (.Name "range" p) [a] [] pos) (some (.Name x pos')) spos.line X.env = pure false := by rfl) :
    DS wx X (.Assign [.Name x pos'] (.Call (.Name "range" p) [a] [] pos) spos) (zSetRg i f) := (ps_set hN hi hx (pe_callTy cr_range1 hG hm boot_range_ (pa_cons ha pa_nil he) (by decide) (by decide) he hpl) hs hf).w fun Z σ H ⟨F0, H0, F, ρ, fl, S, ef, q⟩ => by
  obtain ⟨d, e1, ef⟩ := bind_some ef
  cases d <;> cases ef
  refine ⟨F, ρ, _, S.env, e1, fun v F1 H1 g1 r1 => ?_⟩
  cases r1
  refine ⟨_, rfl, fun p hp => ?_⟩
  have S1 := S.gro g1
  exact q _ _ _ ((S1.gro (Gr.frz S1.env.le hp)).setFr i rfl ⟨p, rfl, upd_same⟩)
@[simp] def gRg (i : Nat) (ρ : Rho) : Option (List D) := match ρ[i]? with
  | some (.rg lo hi) => if sm lo = true ∧ sm hi = true then some (rangeD lo 1 (hi - lo).toNat) else none
  | _ => none
def iRgV (te : TE) : TI := fun σ H R => te σ H fun x H1 => ∃ a lo hi, x = .ref a ∧ H1 a = some (.rng lo hi) ∧ (-(2 ^ 62) ≤ lo ∧ lo < 2 ^ 62 ∧ -(2 ^ 62) ≤ hi ∧ hi < 2 ^ 62) ∧ R (Itr lo (hi - lo).toNat) H1
theorem pi_rgV {te : TE} (h : PE X e te) : PI X tg e (iRgV te) := by
  refine ⟨fun pins s σ H R I q => ?_⟩
  refine thn (h.run pins s σ H _ I q) fun v s1 ⟨x, H1, I1, r1, q1⟩ => ?_
  obtain ⟨a, lo, hi, rfl, ha, ⟨b1, b2, b3, b4⟩, q⟩ := q1
  obtain rfl : v = Value.ref a := r1
  obtain ⟨t1, t2, t3, ho⟩ := I1.hok a _ ha
  have hr : IsRange s1.heap a lo hi 1 t1 t2 t3 := ho
  refine wpAny_pyIter_range hr (small_one b1 b2 b3 b4) ?_
  refine ⟨s1.heap.objs.size, [s1.heap.objs.size], _, _, H1, rfl, I1.kept (t' := s1.toks) fun b o q => Heap.get?_push_of_some _ q, turn_range _ lo (hi - lo).toNat, ?_, fun b hb => ?_, q⟩
  · have e1 : lo + ((0 : Nat) : Int) * 1 = lo := by simp
    have e2 : (((hi - lo).toNat : Nat) : Int) - ((0 : Nat) : Int) = Builtin.Range.rangeSize lo hi 1 := by rw [rangeSize_one]; split <;> omega
    show IsRangeIter _ _ (lo + ((0 : Nat) : Int) * 1) ((((hi - lo).toNat : Nat) : Int) - ((0 : Nat) : Int)) 1
    rw [e1, e2]
    exact Heap.get?_push_size _ rfl
  · have z : b = s1.heap.objs.size := by simpa using hb
    subst z
    exact I1.fpOk (Nat.le_refl _) (I1.hok.fresh (Nat.le_refl _))
theorem DIF.rg (h : PE X e (tVar i)) : DIF X tg e (gRg i) := (pi_rgV h).w fun σ H R ⟨F, ρ, xs, E, ef, q⟩ => by
  unfold gRg at ef
  split at ef
  · rename_i lo hi hx
    split at ef
    · rename_i hb
      cases ef
      obtain ⟨o, h1, a, rfl, r⟩ := E.sl _ _ hx
      exact ⟨_, h1, a, lo, hi, rfl, E.le _ _ r, ⟨(sm_iff.mp hb.1).1, (sm_iff.mp hb.1).2, (sm_iff.mp hb.2).1, (sm_iff.mp hb.2).2⟩, q _ F H (Gr.refl E.le) j_range⟩
    · cases ef
  · cases ef

/-! ### two clauses -/
def compGo2 (g : D → Rho → Option Rho) (tt : Rho → Option Bool) (src1 : Rho → Option (List D)) (vs1 : List Nat) (g1 : D → Rho → Option Rho) (tt1 : Rho → Option Bool) (te : Rho → Option D) (ρ0 : Rho) : List D → Option (List D)
  | [] => some []
  | x :: xs => (g x ρ0).bind fun ρ1 => (tt ρ1).bind fun b => if b = true then (src1 ρ1).bind fun ys => (compGo g1 tt1 te (wipeE ρ1 vs1) ys).bind fun zs => (compGo2 g tt src1 vs1 g1 tt1 te ρ0 xs).bind fun r => some (zs ++ r)
      else compGo2 g tt src1 vs1 g1 tt1 te ρ0 xs
@[simp] def kComp2 (vs : List Nat) (src : Rho → Option (List D)) (g : D → Rho → Option Rho) (tt : Rho → Option Bool) (src1 : Rho → Option (List D)) (vs1 : List Nat) (g1 : D → Rho → Option Rho) (tt1 : Rho → Option Bool) (te : Rho → Option D) (ρ : Rho) : Option Rv :=
  (src ρ).bind fun xs => (compGo2 g tt src1 vs1 g1 tt1 te (wipeE ρ vs) xs).bind fit
variable {elt tg1 iter iter1 : Expr} {ifs ifs1 : List Expr} {scope : Scope} {own : List (Str × Nat)} {src src1 : Rho → Option (List D)} {g g1 : D → Rho → Option Rho} {tt tt1 : Rho → Option Bool} {te : Rho → Option D} {js js1 : List Nat}
theorem wipe_wipe1 {σ2 σ3 : L2.St} {vs1 : List Nat} (o : Only vs1 (L2.wipe σ2 vs1) σ3) : L2.wipe σ3 vs1 = L2.wipe σ2 vs1 := wipe_only o
theorem lc2_w (fz : Frz js g) (hjs : ∀ j ∈ js, j ∈ own.map (·.2)) (σ : L2.St) (H : Hp) (Q : VK) (h : tR (kComp2 (own.map (·.2)) src g tt src1 js1 g1 tt1 te) σ H Q) :
    tLc2 (tIC src) (tG js g) (tT tt) (tIF src1) (tG js1 g1) (tT tt1) (tE te) (own.map (·.2)) js1 σ H Q := by
  obtain ⟨F, ρ, r, E, ef, q⟩ := h
  obtain ⟨xs, e1, ef⟩ := bind_some ef
  obtain ⟨ys, e2, ef⟩ := bind_some ef
  obtain ⟨hl, rfl⟩ := fit_inv ef
  refine ⟨F, ρ, xs, E, e1, fun J F1 H1 gr1 j D0 h0 => ?_⟩
  refine ⟨fun i m H' => m = xs.length - i ∧ i ≤ xs.length ∧ ∃ F' dn rest, Acc F1 H1 D0 F' H' dn ∧ compGo2 g tt src1 js1 g1 tt1 te (wipeE ρ (own.map (·.2))) (xs.drop i) = some rest ∧ dn ++ rest = ys, ⟨xs.length, by simp, Nat.zero_le _, F1, [], ys, Acc.start gr1.s h0, by simpa using e2, rfl⟩, ?_⟩
  rintro i m H' ⟨rfl, hi, F', dn, rest, a, hr, hy⟩
  by_cases hlt : i < xs.length
  · refine .inr ⟨j.go i F' H' a.gr.h a.gr.f a.gr.s hlt, fun H2 => ∃ F2 dn rest, Acc F1 H1 D0 F2 H2 dn ∧ compGo2 g tt src1 js1 g1 tt1 te (wipeE ρ (own.map (·.2))) (xs.drop (i + 1)) = some rest ∧ dn ++ rest = ys, fun H2 ⟨F2, dn, rest, a2, b2, c2⟩ => ⟨xs.length - (i + 1), by omega, rfl, hlt, F2, dn, rest, a2, b2, c2⟩, fun x H2 y2 => ?_⟩
    obtain ⟨F2, gy, rx⟩ := j.yld i F' H' x H2 xs[i] a.gr.h a.gr.f a.gr.s (List.getElem?_eq_getElem hlt) y2
    have a2 := a.step gy
    rw [List.drop_eq_getElem_cons hlt] at hr
    obtain ⟨ρ1, e3, hr⟩ := bind_some (show (g _ _).bind _ = _ from hr)
    obtain ⟨b, e4, hr⟩ := bind_some hr
    refine ⟨F2, _, xs[i], ρ1, (E.wipe _).gr (gr1.trans a2.gr), rx, e3, fun σ2 E2 o2 => ⟨wipe_only (o2.mono hjs), F2, ρ1, b, E2, e4, fun F3 H3 gr3 => ?_⟩⟩
    have a3 := a2.step gr3
    have E3 := E2.gr gr3
    have nd : ∀ (j : Nat) (s : Sl) (c : Addr), ρ1[j]? = some s → s.own = true → σ2[j]? = some (some (.ref c)) → c ≠ D0 := fun j s c ej oj ho hc => by
      obtain ⟨n1, e1'⟩ := fz _ _ _ e3 j s ej oj
      rw [o2.2 j n1] at ho
      have := ((E.wipe _).own_at e1' oj ho).2
      rw [hc] at this
      exact this (free_of gr1.h h0)
    cases b with
    | false =>
      rw [if_neg Bool.false_ne_true] at hr
      exact iteF ⟨F3, dn, rest, a3, hr, hy⟩
    | true =>
      rw [if_pos rfl] at hr
      refine iteT ?_
      obtain ⟨us, e5, hr⟩ := bind_some hr
      obtain ⟨zs, e6, hr⟩ := bind_some hr
      obtain ⟨rest', e7, hr⟩ := bind_some hr
      cases hr
      refine ⟨F3, ρ1, us, E3, e5, fun J1 F4 H4 gr4 j1 => ?_⟩
      have a4 := a3.step gr4
      have E4 := E3.gr gr4
      refine ⟨fun k m H' => m = us.length - k ∧ k ≤ us.length ∧ ∃ F' dn1 rest1, Acc F1 H1 D0 F' H' dn1 ∧ Le F4 F' ∧ EnvR F' H' σ2 ρ1 ∧ compGo g1 tt1 te (wipeE ρ1 js1) (us.drop k) = some rest1 ∧ dn1 ++ rest1 = dn ++ zs, ⟨us.length, by simp, Nat.zero_le _, F4, dn, zs, a4, Le.refl _, E4, by simpa using e6, rfl⟩, ?_⟩
      rintro k m H5 ⟨rfl, hk, F5, dn1, rest1, a5, l5, E5, hr1, hy1⟩
      by_cases hlk : k < us.length
      · refine .inr ⟨j1.go k F5 H5 trivial l5 a5.gr.s hlk, fun H2 => ∃ F' dn1 rest1, Acc F1 H1 D0 F' H2 dn1 ∧ Le F4 F' ∧ EnvR F' H2 σ2 ρ1 ∧ compGo g1 tt1 te (wipeE ρ1 js1) (us.drop (k + 1)) = some rest1 ∧ dn1 ++ rest1 = dn ++ zs, fun H2 ⟨F2, dn, rest, a2, b2, c2, d2, f2⟩ => ⟨us.length - (k + 1), by omega, rfl, hlk, F2, dn, rest, a2, b2, c2, d2, f2⟩, fun x H6 y6 => ?_⟩
        obtain ⟨F6, gy6, rx6⟩ := j1.yld k F5 H5 x H6 us[k] trivial l5 a5.gr.s (List.getElem?_eq_getElem hlk) y6
        have a6 := a5.step gy6
        have E6 := E5.gr gy6
        rw [List.drop_eq_getElem_cons hlk] at hr1
        obtain ⟨ρ2, e8, hr1⟩ := bind_some (show (g1 _ _).bind _ = _ from hr1)
        obtain ⟨b, e9, hr1⟩ := bind_some hr1
        refine ⟨F6, _, us[k], ρ2, E6.wipe _, rx6, e8, fun σ3 E7 o3 => ⟨wipe_only o3, F6, ρ2, b, E7, e9, fun F8 H8 gr8 => ?_⟩⟩
        have a8 := a6.step gr8
        have E8 := E6.gr gr8
        cases b with
        | false =>
          rw [if_neg Bool.false_ne_true] at hr1
          exact iteF ⟨F8, dn1, rest1, a8, l5.trans (gy6.f.trans gr8.f), E8, hr1, hy1⟩
        | true =>
          rw [if_pos rfl] at hr1
          refine iteT ?_
          obtain ⟨y, e10, hr1⟩ := bind_some hr1
          obtain ⟨rest2, e11, hr1⟩ := bind_some hr1
          cases hr1
          refine ⟨F8, ρ2, y, E7.gr gr8, e10, fun v F9 H9 gr9 r9 => ?_⟩
          have a9 := a8.step gr9
          obtain ⟨acc, h4, h5⟩ := a9.at_
          have lnx : EnvR F9 (upd H9 D0 (.lst (acc ++ [v]))) σ2 ρ1 := by
            have E9 := E8.gr gr9
            have a10 := a9.put h0 r9 h4
            refine ⟨a10.gr.s, fun j s ej => ?_, E9.ap⟩
            obtain ⟨o, ho, ro⟩ := E9.sl j s ej
            refine ⟨o, ho, ?_⟩
            cases s with
            | un => trivial
            | fr d => exact ro
            | ow ys =>
              obtain ⟨c, vs, rfl, f, hc, rc⟩ := ro
              exact ⟨c, vs, rfl, f, by rw [upd_ne (nd j _ c ej rfl ho)]; exact hc, rc⟩
            | dk ys =>
              obtain ⟨c, vs, rfl, f, hc, rc⟩ := ro
              exact ⟨c, vs, rfl, f, by rw [upd_ne (nd j _ c ej rfl ho)]; exact hc, rc⟩
            | dt ys =>
              obtain ⟨c, vs, rfl, f, hc, rc⟩ := ro
              exact ⟨c, vs, rfl, f, by rw [upd_ne (nd j _ c ej rfl ho)]; exact hc, rc⟩
            | sc K ns => exact ro
            | rg lo hi => exact ro
          refine ⟨acc, h4, ?_, F9, dn1 ++ [y], rest2, a9.put h0 r9 h4, l5.trans (gy6.f.trans (gr8.f.trans gr9.f)), lnx, e11, by rw [List.append_assoc]; exact hy1⟩
          rw [h5.length, line_eq]
          have := congrArg List.length hy
          have := congrArg List.length hy1
          simp at *
          omega
      · have : k = us.length := by omega
        subst this
        rw [List.drop_length] at hr1
        cases hr1
        rw [List.append_nil] at hy1
        subst hy1
        exact .inl ⟨j1.stop _ F5 H5 trivial l5 a5.gr.s (Nat.le_refl _), F5, _, rest', a5, e7, by rw [List.append_assoc]; exact hy⟩
  · have : i = xs.length := by omega
    subst this
    rw [List.drop_length] at hr
    cases hr
    rw [List.append_nil] at hy
    subst hy
    refine .inl ⟨j.stop _ F' H' a.gr.h a.gr.f a.gr.s (Nat.le_refl _), ?_⟩
    obtain ⟨acc, h4, h5⟩ := a.at_
    exact q _ F' H' (gr1.trans a.gr) ⟨D0, acc, rfl, free_of gr1.h h0, a.fz, h4, h5⟩
theorem DR.lc2 (hc : X.calm = true) (hN : X.N.Nodup) (hi : DIC X tg iter src) (ok : BlkOk X.N X.env.scope scope own)
    (hg : ∀ (s : Shared) (H : Hp) (C : Addr) (cl : List (Str × Addr)) (fp : List Addr), DG (X.blk s H scope (compEnvC scope cl C X.env) fp) tg js g) (fz : Frz js g)
    (ht : ∀ (s : Shared) (H : Hp) (C : Addr) (cl : List (Str × Addr)) (fp : List Addr), DTs (X.blk s H scope (compEnvC scope cl C X.env) fp) ifs tt)
    (hi1 : ∀ (s : Shared) (H : Hp) (C : Addr) (cl : List (Str × Addr)) (fp : List Addr), DIF (X.blk s H scope (compEnvC scope cl C X.env) fp) tg1 iter1 src1)
    (hg1 : ∀ (s : Shared) (H : Hp) (C : Addr) (cl : List (Str × Addr)) (fp : List Addr), DG (X.blk s H scope (compEnvC scope cl C X.env) fp) tg1 js1 g1)
    (ht1 : ∀ (s : Shared) (H : Hp) (C : Addr) (cl : List (Str × Addr)) (fp : List Addr), DTs (X.blk s H scope (compEnvC scope cl C X.env) fp) ifs1 tt1)
    (he : ∀ (s : Shared) (H : Hp) (C : Addr) (cl : List (Str × Addr)) (fp : List Addr), DE (X.blk s H scope (compEnvC scope cl C X.env) fp) elt te)
    (hjs : ∀ j ∈ js, j ∈ own.map (·.2) := by decide) (hjs1 : ∀ j ∈ js1, j ∈ own.map (·.2) := by decide) (hs : ∀ x, foldedSetIterable iter X.env x = pure x := by intro _; rfl) (hs1 : ∀ env x, foldedSetIterable iter1 env x = pure x := by intro _ _; rfl) :
    DR X (.ListComp elt [⟨tg, iter, ifs, 0⟩, ⟨tg1, iter1, ifs1, 0⟩] scope pos) (kComp2 (own.map (·.2)) src g tt src1 js1 g1 tt1 te) :=
  (pe_lc2 hc hN hi ok hjs1 hg ht hi1 hg1 ht1 he hs hs1).w (lc2_w fz hjs)

/-! ### dicts with ints as keys, a name's own -/
def getD2 : List (Int × D) → Int → Option D
  | [], _ => none
  | (k, d) :: r, j => if k = j then some d else getD2 r j
def putD (ds : List (Int × D)) (j : Int) (d : D) : List (Int × D) :=
  if (ds.any fun kv => decide (kv.1 = j)) = true then ds.map (fun kv => if kv.1 = j then (kv.1, d) else kv) else ds ++ [(j, d)]
@[simp] def zDnew (i : Nat) (ρ : Rho) : Option Fl := some (.nx (ρ.set i (.dk [])))
theorem DS.dnew {dpos : Pos} (hN : X.N.Nodup) (hi : X.N[i]? = some x) (hx : Loc X.env.scope x) (hs : swapsWith (.Dict [] [] dpos) (some (.Name x pos')) pos.line X.env = pure false := by rfl) (hf : X.fn x = true ∨ X.env.scope.names.lookup x = some .local := by first | exact .inl rfl | exact .inr rfl | assumption) :
    DS wx X (.Assign [.Name x pos'] (.Dict [] [] dpos) pos) (zDnew i) := (ps_set hN hi hx pe_dnewK hs hf).w fun Z σ H ⟨F0, H0, F, ρ, fl, S, ef, q⟩ => by
  cases ef
  intro p hp
  have S1 := S.gro (Gr.lay S.env.le (o := .dK []) hp)
  refine q _ F _ (S1.setOwn i ⟨p, [], rfl, free_of S.env.le hp, upd_same, .nil⟩ (free_of S.gr.h hp) fun j s e o _ h => ?_)
  exact (S.env.own_at e o h).2 hp
theorem kvR_get {F : Hp} {j : Int} : ∀ {vs : List (Key × V)} {ds : List (Int × D)} {d : D}, KvR F vs ds → getD2 ds j = some d → ∃ v, valV vs (Sum.inl j) = some v ∧ Rp F v d
  | _, _, _, .nil, e => by cases e
  | (k, v) :: vs, (i, e) :: ds, d, .cons h r, q => by
    obtain ⟨h1, h2⟩ := h
    simp only at h1 h2
    subst h1
    unfold getD2 at q
    split at q
    · rename_i e1
      cases q
      subst e1
      exact ⟨v, valV_pos rfl, h2⟩
    · rename_i e1
      obtain ⟨u, q1, q2⟩ := kvR_get r q
      exact ⟨u, by rw [valV_neg (fun z => e1 (by injection z))]; exact q1, q2⟩
theorem kvR_any {F : Hp} {j : Int} : ∀ {vs : List (Key × V)} {ds : List (Int × D)}, KvR F vs ds → (vs.any fun kv => decide (kv.1 = Sum.inl j)) = ds.any fun kv => decide (kv.1 = j)
  | _, _, .nil => rfl
  | (k, v) :: vs, (i, e) :: ds, .cons h r => by
    obtain ⟨h1, h2⟩ := h
    simp only at h1
    subst h1
    rw [List.any_cons, List.any_cons, kvR_any r]
    congr 1
    simp
end
end DL

set_option Elab.async false
set_option linter.all false
set_option maxRecDepth 100000
set_option maxHeartbeats 2000000
namespace DL
open PySem PySem.Spec L2
theorem paired_map {α β : Type} {R : α → β → Prop} {f : α → α} {g : β → β} (h : ∀ a b, R a b → R (f a) (g b)) : ∀ {xs : List α} {ys : List β}, Paired R xs ys → Paired R (xs.map f) (ys.map g)
  | _, _, .nil => .nil
  | _, _, .cons r t => .cons (h _ _ r) (paired_map h t)
theorem paired_app {α β : Type} {R : α → β → Prop} {x : α} {y : β} (r : R x y) : ∀ {xs : List α} {ys : List β}, Paired R xs ys → Paired R (xs ++ [x]) (ys ++ [y])
  | _, _, .nil => .cons r .nil
  | _, _, .cons r' t => .cons r' (paired_app r t)
theorem kvR_put {F : Hp} {j : Int} {v : V} {d : D} {vs : List (Key × V)} {ds : List (Int × D)} (h : KvR F vs ds) (r : Rp F v d) : KvR F (putK vs (Sum.inl j) v) (putD ds j d) := by
  unfold putK putD
  rw [kvR_any h]
  split
  · refine paired_map (fun p q z => ?_) h
    obtain ⟨e1, e2⟩ := z
    by_cases e : q.1 = j
    · rw [if_pos e, if_pos (by rw [e1, e])]
      exact ⟨e1, r⟩
    · rw [if_neg e, if_neg (fun z => e (by rw [e1] at z; injection z))]
      exact ⟨e1, e2⟩
  · exact paired_app ⟨rfl, r⟩ h
section
variable {X : Cx} {wx : Hp → Str → Int → Prop} {e a b o k tg : Expr} {pos p tpos : Pos} {i : Nat} {x : Str} {pos' : Pos}
@[simp] def zDput (i : Nat) (f g : Rho → Option D) (ρ : Rho) : Option Fl := (f ρ).bind fun d => match ρ[i]? with
  | some (.dk kvs) => (g ρ).bind fun kd => match kd with
    | .int n => if kvs.length < line then some (.nx (ρ.set i (.dk (putD kvs n d)))) else none
    | _ => none
  | _ => none
theorem DS.dput {f g : Rho → Option D} (hu : X.A.units + 65 < cLine) (he : DE X e f) (ho : PE X o (tVar i)) (hk : DE X k g) (hs : swapsWith e (some (.Subscript o k tpos)) pos.line X.env = pure false := by rfl) : DS wx X (.Assign [.Subscript o k tpos] e pos) (zDput i f g) :=
  (ps_dput (by omega) ho hk he hs).w fun Z σ H ⟨F0, H0, F, ρ, fl, S, ef, q⟩ => by
  obtain ⟨d, e1, ef⟩ := bind_some ef
  split at ef
  · rename_i kvs hx
    obtain ⟨kd, e2, ef⟩ := bind_some ef
    split at ef
    · split at ef
      · rename_i n hl
        cases ef
        refine ⟨F, ρ, d, S.env, e1, fun v F1 H1 g1 r1 => ?_⟩
        have S1 := S.gro g1
        obtain ⟨o, h1, a, vs, rfl, hf, hh, r⟩ := S1.env.sl _ _ hx
        refine ⟨_, h1, F1, ρ, _, S1.env, e2, fun u F2 H2 g2 r2 => ?_⟩
        cases r2
        have S2 := S1.gro g2
        have r' := r.mono g2.f
        refine ⟨a, _, rfl, DPut.k (k := Sum.inl n) (g2.h _ _ hh) (by rw [paired_len r', line_eq]; exact hl), ?_⟩
        exact q σ F2 _ (S2.mut hx rfl rfl h1 ⟨a, _, rfl, (S2.env.own_at hx rfl h1).1, upd_same, kvR_put r' (r1.mono g2.f)⟩)
      · cases ef
    · cases ef
  · cases ef
@[simp] def kDget (i : Nat) (g : Rho → Option D) (ρ : Rho) : Option D := match ρ[i]? with
  | some (.dk kvs) => (g ρ).bind fun kd => match kd with
    | .int n => getD2 kvs n
    | _ => none
  | _ => none
theorem DE.dget {g : Rho → Option D} (hu : X.A.units + 65 < cLine) (ho : PE X o (tVar i)) (hk : DE X k g) (hs : NoSl k := by intro _ _; rfl) : DE X (.Subscript o k pos) (kDget i g) := (pe_dget (by omega) ho hk hs).w fun σ H Q ⟨F, ρ, d, E, ef, q⟩ => by
  unfold kDget at ef
  split at ef
  · rename_i kvs hx
    obtain ⟨kd, e2, ef⟩ := bind_some ef
    split at ef
    · rename_i n
      obtain ⟨o, h1, a, vs, rfl, hf, hh, r⟩ := E.sl _ _ hx
      refine ⟨_, h1, F, ρ, _, E, e2, fun u F2 H2 g2 r2 => ?_⟩
      cases r2
      obtain ⟨v, e3, r3⟩ := kvR_get (r.mono g2.f) ef
      exact ⟨a, v, rfl, by have := DGet.k (k := Sum.inl n) (g2.h _ _ hh); rw [e3] at this; exact this, q v F2 H2 g2 r3⟩
    · cases ef
  · cases ef

/-! ### a tuple whose first item is a new list -/
@[simp] def kTp (f : Rho → Option Rv) (g : Rho → Option (List D)) (ρ : Rho) : Option Rv := (f ρ).bind fun r => (g ρ).bind fun ds => if ds.length + 1 ≤ line then (match r with
  | .ow xs => some (.tp xs ds)
  | .fr d => some (.fr (.tuple (d :: ds)))
  | _ => none) else none
theorem DR.tp {n : Nat} {es : List Expr} {f : Rho → Option Rv} {g : Rho → Option (List D)} (h : DR X e f) (t : DA X es g) (hs : starEach (e :: es) X.env = (false, eval e X.env) :: starEach es X.env := by rfl) : DR X (.Tuple (e :: es) n pos) (kTp f g) := (pe_tup (pa_cons h t hs)).w fun σ H Q ⟨F, ρ, r, E, ef, q⟩ => by
  obtain ⟨r1, e1, ef⟩ := bind_some ef
  obtain ⟨ds, e2, ef⟩ := bind_some ef
  split at ef
  · rename_i hl
    refine ⟨F, ρ, r1, E, e1, fun v F1 H1 g1 rr => ⟨F1, ρ, ds, E.gr g1, e2, fun vs F2 H2 g2 rs => ⟨by rw [List.length_cons, rs.length, line_eq]; exact hl, fun p hp => ?_⟩⟩⟩
    have gg := g1.trans g2
    cases r1 with
    | tp => cases ef
    | fr d =>
      cases ef
      exact q _ _ _ (gg.trans (Gr.frz gg.s hp)) (.tup upd_same ((RpAll.cons (Rp.mono g2.f rr) rs).mono (Le.new (free_of gg.s hp))))
    | ow xs =>
      cases ef
      obtain ⟨a, us, rfl, h0, hf, hh, r⟩ := rr
      have hh2 := g2.h _ _ hh
      have ne : a ≠ p := ne_of_none hh2 hp
      have hf2 := g2.g a hf (by rw [hh]; exact Hot.of fun _ z => nomatch z)
      exact q _ F2 _ (gg.trans (Gr.lay gg.s hp)) ⟨p, a, us, vs, rfl, h0, hf2, by rw [upd_ne ne]; exact hh2, r.mono g2.f, free_of gg.h hp, free_of gg.s hp, upd_same, rs⟩
  · cases ef
/-- return (x, ..), x a name that has a list of its own -/
@[simp] def zRetT (i : Nat) (g : Rho → Option (List D)) (ρ : Rho) : Option Fl := match ρ[i]? with
  | some (.ow xs) => (g ρ).bind fun ds => if ds.length + 1 ≤ line then some (.rt (.tp xs ds)) else none
  | _ => none
theorem DS.retT {n : Nat} {tp : Pos} {es : List Expr} {g : Rho → Option (List D)} (ho : PE X o (tVar i)) (t : DA X es g) (hs : starEach (o :: es) X.env = (false, eval o X.env) :: starEach es X.env := by rfl) : DS wx X (.Return (some (.Tuple (o :: es) n tp)) pos) (zRetT i g) :=
  (ps_ret (pe_tup (pa_cons ho t hs))).w fun Z σ H ⟨F0, H0, F, ρ, fl, S, ef, q⟩ => by
  unfold zRetT at ef
  split at ef
  · rename_i xs hx
    obtain ⟨ds, e1, ef⟩ := bind_some ef
    split at ef
    · rename_i hl
      cases ef
      obtain ⟨o, h1, a, vs, rfl, hf, hh, r⟩ := S.env.sl _ _ hx
      refine ⟨_, h1, F, ρ, ds, S.env, e1, fun us F1 H1 g1 rs => ⟨by rw [List.length_cons, rs.length, line_eq]; exact hl, fun p hp => ?_⟩⟩
      have S1 := S.gro g1
      have hh1 := g1.h _ _ hh
      have ne : a ≠ p := ne_of_none hh1 hp
      exact q _ F1 _ (S1.gr.trans (Gr.lay S1.env.le hp)) ⟨p, a, vs, us, rfl, S.new _ _ _ hx rfl h1, (S1.env.own_at hx rfl h1).1, by rw [upd_ne ne]; exact hh1, r.mono g1.f, free_of S1.gr.h hp, free_of S1.env.le hp, upd_same, rs⟩
    · cases ef
  · cases ef
/-- f(..)[0].append(e), the list being new -/
@[simp] def zTapp (f : Rho → Option Rv) (g : Rho → Option D) (ρ : Rho) : Option Fl := (f ρ).bind fun r => match r with
  | .tp xs ds => (g ρ).bind fun _ => if xs.length < line then some (.nx ρ) else none
  | _ => none
theorem DS.tapp {f : Rho → Option Rv} {g : Rho → Option D} {apos cpos spos zpos : Pos} {zk : Nat} (ho : DR X o f) (he : DE X e g) (hs : swapsWith (.Call (.Attribute (.Subscript o (.Constant (.int 0) zk zpos) spos) "append" apos) [e] [] cpos) none pos.line X.env = pure false := by rfl)
    (hbase : attributeBase (.Subscript o (.Constant (.int 0) zk zpos) spos) "append" X.env (eval (.Subscript o (.Constant (.int 0) zk zpos) spos) X.env) = eval (.Subscript o (.Constant (.int 0) zk zpos) spos) X.env := by rfl)
    (hfew : ((backTo cpos (starEach (e :: []) X.env)).all (fun x => !x.1) && (backToKw cpos (keywordEach [] X.env)).all (fun x => x.1.isSome)
      && decide ((e :: ([] : List Expr)).length + ([] : List Keyword).length + (if ([] : List Keyword).isEmpty then 0 else 1) < 30)) = true := by rfl)
    (hline : (apos.endLine == cpos.line) = true := by rfl) (h1 : starEach (e :: []) X.env = (false, eval e X.env) :: starEach [] X.env := by rfl) (hplain : (backTo cpos (starEach [] X.env)).any (·.1) = false := by rfl) :
    DS wx X (.Expr (.Call (.Attribute (.Subscript o (.Constant (.int 0) zk zpos) spos) "append" apos) [e] [] cpos) pos) (zTapp f g) :=
  (ps_expr (pe_bm PySem.F.plainAttrs_list PySem.F.slot_list_append PySem.F.type_list_append mt_append (pe_ix ix_tup ho pe_int (by intro _ _; rfl)) (pa_cons he pa_nil h1) hbase hfew hline h1 hplain) hs).w fun Z σ H ⟨F0, H0, F, ρ, fl, S, ef, q⟩ => by
  obtain ⟨r, e1, ef⟩ := bind_some ef
  cases r with
  | fr d => cases ef
  | ow d => cases ef
  | tp xs ds =>
    obtain ⟨d, e2, ef⟩ := bind_some ef
    split at ef
    · rename_i hl
      cases ef
      refine ⟨F, ρ, _, S.env, e1, fun v F1 H1 g1 rr => ?_⟩
      obtain ⟨p, a, vs, ws, rfl, a0, af, ah, ra, p0, pf, ph, rw_⟩ := rr
      refine ⟨p, _, 0, .ref a, rfl, rfl, SqT.of ph, (by simp [atI, ixN]), .inl ⟨rfl, _, SqL.of ah⟩, F1, ρ, d, S.env.gr g1, e2, fun u F2 H2 g2 r2 => ?_⟩
      have S2 := (S.gro g1).gro g2
      have ah2 := g2.h _ _ ah
      have af2 := g2.g a af (by rw [ah]; exact Hot.of fun _ z => nomatch z)
      refine ⟨a, vs, u, rfl, rfl, ah2, by rw [ra.length, line_eq]; exact hl, ?_⟩
      have gg := g1.trans g2
      have gn : Gr F H F2 (upd H2 a (.lst (vs ++ [u]))) := ⟨gg.f, fun b t z => by rw [upd_ne (ne_of_none z a0)]; exact gg.h b t z, fun b t z => by
        have : b ≠ a := fun y => by rw [y, af2] at z; cases z
        rw [upd_ne this]; exact gg.s b t z, gg.g⟩
      exact q σ F2 _ (S.gro gn)
    · cases ef
end
end DL

set_option Elab.async false
set_option linter.all false
set_option maxRecDepth 100000
set_option maxHeartbeats 2000000
namespace DL
open PySem PySem.Spec L2
/-! ### the law's script -/
open Classical in
@[simp] noncomputable def scAt (K : PySem.W.Frag) (i : Nat) (ρ : Rho) : Option (List Int) := match ρ[i]? with
  | some (.sc K' ns) => if K' = K then some ns else none
  | _ => none
@[simp] noncomputable def kScLen (K : PySem.W.Frag) (i : Nat) (ρ : Rho) : Option Rv := (scAt K i ρ).bind fun ns => some (.fr (.int ns.length))
@[simp] noncomputable def kScIx (K : PySem.W.Frag) (i : Nat) (g : Rho → Option D) (ρ : Rho) : Option D := (scAt K i ρ).bind fun ns => (g ρ).bind fun kd => match kd with
    | .int n => (atI ns n).bind fun m => some (.int m)
    | _ => none
theorem scAt_inv {K : PySem.W.Frag} {i : Nat} {ρ : Rho} {ns : List Int} (h : scAt K i ρ = some ns) : ρ[i]? = some (.sc K ns) := by
  unfold scAt at h
  split at h
  · rename_i K' ms e
    split at h
    · rename_i hk
      cases h
      rw [e, hk]
    · cases h
  · cases h
theorem atI_map {α β : Type} (f : α → β) (xs : List α) (i : Int) : atI (xs.map f) i = (atI xs i).map f := by
  unfold atI
  rw [List.length_map]
  cases ixN xs.length i with
  | none => rfl
  | some j => simp
def spS (IsX : XIs) (K : PySem.W.Frag) (den : List Int → Option Res) : Sp := fun vs H Q E => ∃ F a ns res, Le F H ∧ vs = [.ref a] ∧ SqL K F a (ns.map V.int) ∧ den ns = some res ∧ resFin IsX F H Q E res
@[simp] def dSc (K : PySem.W.Frag) (N : Nat) (f : Rho → Option Fl) (ns : List Int) : Option Res := (f (Sl.sc K ns :: List.replicate (N - 1) Sl.un)).bind flRes
section
variable {X : Cx} {e k o : Expr} {pos p : Pos} {i : Nat} {x : Str}
theorem DR.scLen (hG : Gl X "len") (hm : X.mg "len" = none) (ho : PE X o (tVar i)) (he : starEach (o :: []) X.env = (false, eval o X.env) :: starEach [] X.env := by rfl) (hpl : (backTo pos (starEach [] X.env)).any (·.1) = false := by rfl) :
    DR X (.Call (.Name "len" p) [o] [] pos) (kScLen X.K i) := (pe_callB cr_len hG hm boot_len_ (pa_cons ho pa_nil he) (by decide) (by decide) he hpl).w fun σ H Q ⟨F, ρ, r, E, ef, q⟩ => by
  obtain ⟨ns, e1, ef⟩ := bind_some ef
  cases ef
  obtain ⟨o, h1, a, rfl, hs⟩ := E.sl _ _ (scAt_inv e1)
  refine ⟨_, h1, a, _, rfl, .inl (sqL_le E.le hs), ?_⟩
  rw [List.length_map]
  exact q _ F H (Gr.refl E.le) (.int _)
theorem DE.scIx {g : Rho → Option D} (ho : PE X o (tVar i)) (hk : DE X k g) (hs : PlainIx k := by intro _ _; rfl) : DE X (.Subscript o k pos) (kScIx X.K i g) := (pe_ix ix_list ho hk hs).w fun σ H Q ⟨F, ρ, r, E, ef, q⟩ => by
  obtain ⟨ns, e1, ef⟩ := bind_some ef
  obtain ⟨kd, e2, ef⟩ := bind_some ef
  split at ef
  · rename_i n
    obtain ⟨m, e3, ef⟩ := bind_some ef
    cases ef
    obtain ⟨o, h1, a, rfl, hs⟩ := E.sl _ _ (scAt_inv e1)
    refine ⟨_, h1, F, ρ, _, E, e2, fun u F2 H2 g2 r2 => ?_⟩
    cases r2
    exact ⟨a, _, n, .int m, rfl, rfl, sqL_le (g2.s) (sqL_le g2.f hs), by rw [atI_map, e3]; rfl, q _ F2 H2 g2 (.int _)⟩
  · cases ef
variable {P : Program} {w : World} {K : PySem.W.Frag} {mg : Str → Option Value} {base : Heap} {qual : Str} {f : Addr} {fd : FuncData} {N ps : List Str} {kk : Nat} {g : Rho → Option Fl} {params : Arguments} {body : List Stmt} {sc : Scope}
theorem envR_sc {F H : Hp} (l : Le F H) {a : Addr} {ns : List Int} (r : SqL K F a (ns.map V.int)) (n : Nat) : EnvR F H (some (.ref a) :: List.replicate n none) (Sl.sc K ns :: List.replicate n Sl.un) := by
  have own_no : ∀ (j : Nat) (s : Sl), (Sl.sc K ns :: List.replicate n Sl.un)[j]? = some s → s.own = false := fun j s e => by
    cases j with
    | zero => cases e; rfl
    | succ j =>
      rw [List.getElem?_cons_succ, List.getElem?_replicate] at e
      split at e <;> cases e
      rfl
  refine ⟨l, fun i s e => ?_, fun i j a s t e1 e2 o1 o2 _ _ => ?_⟩
  · cases i with
    | zero => cases e; exact ⟨_, rfl, a, rfl, r⟩
    | succ i =>
      rw [List.getElem?_cons_succ, List.getElem?_replicate] at e
      split at e <;> cases e
      rename_i h
      exact ⟨none, by rw [List.getElem?_cons_succ, List.getElem?_replicate, if_pos h], trivial⟩
  · rw [own_no i s e1] at o1
    cases o1
theorem own_sc {K : PySem.W.Frag} {ns : List Int} {n : Nat} : ∀ (j : Nat) (s : Sl), (Sl.sc K ns :: List.replicate n Sl.un)[j]? = some s → s.own = false := fun j s e => by
    cases j with
    | zero => cases e; rfl
    | succ j =>
      rw [List.getElem?_cons_succ, List.getElem?_replicate] at e
      split at e <;> cases e
      rfl
/-- a def that is given the script, and raises nothing -/
theorem fn_okS {IsX : XIs} (F : FunD K x qual params body sc [] [] f fd) (S : FnScope N ps sc) (h1 : ps.length = 1)
    (hb : ∀ (wx : Hp → Str → Int → Prop) (cdv : Value) (A : Around) (outer : List PySem.Env) (s : Shared) (H : Hp) (E : XK), Room kk (A.deeper (PyProof.Rows.envOfC qual sc s.heap.objs.size f cdv)) → DSs wx (cxOf CX0 P w K mg base N qual sc f cdv A outer s H E).nox body g) :
    FnOk P w K mg base CX0 (kk + 1) f fd ps (spS IsX K (dSc K N.length g)) := by
  refine F.ok S (fun vs H Q E ⟨F, a, ns, res, l, e, _⟩ => by rw [e, h1]; rfl) fun cdv A outer s H vs Q E hr ⟨F, a, ns, res, l, e, r, ed, q⟩ => ?_
  subst e
  obtain ⟨fl, e1, e2⟩ := bind_some ed
  exact ⟨_, (hb (fun H0 c i => ∀ cls d H', Le H0 H' → IsX c i cls d H' → E cls d H') cdv A outer s H E hr).nox, F, H, F, _, fl, stOk_start (envR_sc l r _) own_sc, e1, fin_res e2 q⟩
structure FnS (P : Program) (w : World) (K : PySem.W.Frag) (mg : Str → Option Value) (base : Heap) (IsX : XIs) (CX : CXT) (k : Nat) (x : Str) (ps : List Str) (den : List Int → Option Res) : Prop where
  ex : ∃ f fd, FnOk P w K mg base CX k f fd ps (spS IsX K den) ∧ mg x = some (.ref f) ∧ PySem.W.keepIn K (.ref f) = true ∧ Binds K fd ps []
@[simp] noncomputable def kCallSc (K : PySem.W.Frag) (den : List Int → Option Res) (i : Nat) (ρ : Rho) : Option Rv := (scAt K i ρ).bind fun ns => (den ns).bind fun res => match res with
  | .ok r => some r
  | _ => none
theorem DR.callSc {IsX : XIs} {den : List Int → Option Res} {e : Expr} {p pos : Pos} (G : FnS X.prog X.w X.K X.mg X.base IsX CX0 kk x ps den) (hr : Room kk X.A) (hg : Gl X x) (ho : PE X e (tVar i)) (hdb : (x == ("__debug__" : Str)) = false := by decide)
    (he : starEach (e :: []) X.env = (false, eval e X.env) :: starEach [] X.env := by rfl) (hpl : (backTo pos (starEach [] X.env)).any (·.1) = false := by rfl) : DR X (.Call (.Name x p) [e] [] pos) (kCallSc X.K den i) := by
  obtain ⟨f, fd, G, hm, hk, hb⟩ := G.ex
  refine (pe_call G hr hg hm hk hb .nil pass0 (pa_cons ho pa_nil he) hdb he hpl).w fun σ H Q ⟨F, ρ, r, E, ef, q⟩ => ?_
  obtain ⟨ns, e1, ef⟩ := bind_some ef
  obtain ⟨res, e2, ef⟩ := bind_some ef
  cases res <;> cases ef
  obtain ⟨o, h1, a, rfl, hs⟩ := E.sl _ _ (scAt_inv e1)
  refine ⟨_, h1, F, a, ns, _, E.le, rfl, hs, e2, fun v F2 H2 g2 r2 => q v F2 H2 g2 r2⟩
end

/-! ### the law's own call: no guard stands about it -/
section
variable {P : Program} {w : World} {K : PySem.W.Frag} {mg : Str → Option Value} {base : Heap} {qual x : Str} {f : Addr} {fd : FuncData} {N : List Str} {kk : Nat} {params : Arguments} {body : List Stmt} {sc : Scope}
/-- what the law's def does with its script, called as claims call -/
def LawAt (P : Program) (w : World) (K : PySem.W.Frag) (mg : Str → Option Value) (base : Heap) (f : Addr) (n : Nat) : Prop :=
  ∀ (s : Shared) (H : Hp) (a : Addr) (ns : List Int), ns.length ≤ n → Env0 P w K mg base callerA [] s H → SqL K H a (ns.map V.int) →
    codeAny (model P w) callerA (.call (.ref f) ⟨[.ref a], []⟩) (CR CX0 [] P w H s (fun v _ => v = .bl true) fun _ _ _ => False) s
theorem law_at {n : Nat} {g : Rho → Option Fl} (F : FunD K x qual params body sc [] [] f fd) (S : FnScope N [qx] sc) (hb : Binds K fd [qx] []) (hr : Room (kk + 1) callerA)
    (hd : ∀ ns : List Int, ns.length ≤ n → (g (Sl.sc K ns :: List.replicate (N.length - 1) Sl.un)).bind flRes = some (.ok (.fr (.bool true))))
    (hbody : ∀ (wx : Hp → Str → Int → Prop) (cdv : Value) (A : Around) (outer : List PySem.Env) (s : Shared) (H : Hp) (E : XK), A.guards = some [] → Room kk (A.deeper (PyProof.Rows.envOfC qual sc s.heap.objs.size f cdv)) →
      DSs wx (cxOf CX0 P w K mg base N qual sc f cdv A outer s H E).nox body g) : LawAt P w K mg base f n := by
  intro s H a ns hn e0 hs
  obtain ⟨oc, od, dV, kV, doc, pm, an, cdv, ct, osl, rfl, lk, hcd, _, _⟩ := F.ex
  have hK : K.In s.heap := e0.mod.kin.keeps fun b o e => (e0.bs b o e).1
  refine StX.run_bnd (ps := [qx]) (G := fun vs H2 => vs = [.ref a] ∧ H2 = H) lk hcd S hr e0 (fun A' Ex Q hq => ?_) fun s2 H2 vs hg hr2 => ?_
  · refine hb s [.ref a] hK rfl _ _ _ _ ?_
    exact hq s H [.ref a] [.ref a] e0 (Un.kept fun _ _ e => e) rfl (fun _ _ z => z) (.cons rfl .nil) rfl ⟨rfl, rfl⟩
  · obtain ⟨rfl, rfl⟩ := hg
    obtain ⟨fl, e1, e2⟩ := bind_some (hd ns hn)
    have B := hbody (fun _ _ _ => True) cdv callerA [] s2 H2 (fun _ _ _ => False) rfl hr2
    refine ⟨_, B.nox, H2, H2, H2, _, fl, stOk_start (envR_sc (Le.refl H2) hs _) own_sc, e1, ?_⟩
    cases fl with
    | nx ρ => cases e2
    | br ρ => cases e2
    | ct ρ => cases e2
    | rt r =>
      cases e2
      intro v F3 H3 _ r3
      cases r3
      rfl
    | ex c i => cases e2
end
end DL

set_option Elab.async false
set_option linter.all false
set_option maxRecDepth 100000
set_option maxHeartbeats 2000000
namespace DL
open PySem PySem.Spec PyProof.Rows L2
/-- the script alone is tracked, unless it is one of the module's own objects -/
def scH (K : PySem.W.Frag) (a : Addr) (its : List Value) (ns : List Int) : Hp := fun b => if b = a ∧ K.lookup a = none then some (.frz { cls := .type "list", data := .seq its.toArray } (.lst (ns.map V.int))) else none
theorem scH_inv {K : PySem.W.Frag} {a b : Addr} {its : List Value} {ns : List Int} {u : HO} (h : scH K a its ns b = some u) : b = a ∧ K.lookup a = none ∧ u = .frz { cls := .type "list", data := .seq its.toArray } (.lst (ns.map V.int)) := by
  unfold scH at h
  split at h
  · rename_i c
    cases h
    exact ⟨c.1, c.2, rfl⟩
  · cases h
theorem scH_off {K : PySem.W.Frag} {a b : Addr} {its : List Value} {ns : List Int} (h : b = a → K.lookup a ≠ none) : scH K a its ns b = none := by
  cases e : scH K a its ns b with
  | none => rfl
  | some u => obtain ⟨q, z, _⟩ := scH_inv e; exact absurd z (h q)
section
variable {P : Program} {w : World} {K : PySem.W.Frag} {mg mb : Str → Option Value} {fa a : Addr} {s : Shared} {its : List Value} {ns : List Int} {n : Nat}
theorem law_end (KX : K.In s.heap) (h1 : s.heap.Ns mainGlobals mg) (h2 : s.heap.Ns builtinsNs mb) (h3 : ∀ x : Str, x ≠ "__name__" → mb x = bootBuiltins x) (h4 : s.heap.NoLimit) (h5 : s.gens = #[])
    (ha : s.heap.get? a = some { cls := .type "list", data := .seq its.toArray }) (hi : PyProof.Rows.IntsAre its ns) (hn : ns.length ≤ n) (hl : n ≤ sizeLine)
    (F : ∀ base : Heap, K.In base → base.Ns mainGlobals mg → LawAt P w K mg base fa n) :
    codeAny (model P w) callerA (.call (.ref fa) ⟨[.ref a], []⟩) (fun r s' => r = .ok (.ret (.bool true)) ∧ OldK s.heap s'.heap ∧ s'.os = s.os ∧ AllBare s'.gens) s := by
  have rv := vals_ints hi
  have len : its.length = ns.length := hi.length
  generalize hH : scH K a its ns = H
  -- dicts of the heap are not tracked
  have dictOff : ∀ {b : Addr} {o : Obj} {es : Array DictEntry} {ep : Nat}, s.heap.get? b = some o → o.data = .dict es ep → H b = none := by
    intro b o es ep e d
    rw [← hH]
    refine scH_off fun z => ?_
    subst z
    rw [ha] at e
    cases e
    cases d
  have modOff : ∀ {b : Addr} {o : Obj}, K.lookup b = some o → H b = none := by
    intro b o e
    rw [← hH]
    refine scH_off fun z => ?_
    subst z
    rw [e]
    exact fun q => nomatch q
  have ns_ : ∀ {b : Addr} {m : Str → Option Value}, s.heap.Ns b m → (hidT s.heap H).Ns b m := by
    rintro b m ⟨o, es, ep, e, d, r⟩
    exact ⟨o, es, ep, hidT_get e (dictOff e d), d, r⟩
  have kin : K.In (hidT s.heap H) := fun b o e => hidT_get (KX b o e) (modOff e)
  have hok : HOk P w H s.heap := by
    intro b u e
    rw [← hH] at e
    obtain ⟨rfl, _, rfl⟩ := scH_inv e
    exact ⟨ha, by rw [List.length_map]; omega, its, _, rv, ha⟩
  have sq : SqL K H a (ns.map V.int) := by
    cases hk : K.lookup a with
    | none =>
      refine .inl (.inr ⟨{ cls := .type "list", data := .seq its.toArray }, ?_⟩)
      rw [← hH]
      unfold scH
      rw [if_pos ⟨rfl, hk⟩]
    | some o =>
      have e := KX a o hk
      rw [ha] at e
      cases e
      exact .inr ⟨_, its.toArray, _, hk, rfl, rfl, rfl, by rw [List.size_toArray, len]; omega, by simpa using rv⟩
  have mod : Mod K mg (hidT s.heap H) := by
    obtain ⟨mc, q1, q2⟩ := h4
    exact ⟨kin, ns_ h1, ⟨mb, ns_ h2, h3⟩, ⟨mc, ns_ q1, q2⟩⟩
  have e0 : Env0 P w K mg (hidT s.heap H) callerA [] s H :=
    { frames := rfl, mod := mod, bs := fun b o e => of_hidT e, bsz := Nat.le_of_eq (hidT_size _ _), funs := trivial, frf := fun b hb => (nomatch hb), hok := hok, bare := .of_eq h5 }
  refine codeAny_mono (F _ kin (ns_ h1) s H a ns hn e0 sq) fun r s' h => ?_
  match r, h with
  | .error e, h => exact False.elim h
  | .ok .next, h => exact False.elim h
  | .ok .brk, h => exact False.elim h
  | .ok .cont, h => exact False.elim h
  | .ok (.ret u), h =>
    obtain ⟨v, H', os, bare, un, hok', rv', q⟩ := h
    have q' : v = .bl true := q
    subst q'
    obtain rfl : u = Value.bool true := rv'
    refine ⟨rfl, OldK.of_keep fun b o e => ?_, os, bare⟩
    cases hb : H b with
    | none => exact un.keep b o e hb (fun z => by cases z) (fun z => by cases z)
    | some t =>
      rw [← hH] at hb
      obtain ⟨_, _, rfl⟩ := scH_inv hb
      rw [hH] at hb
      obtain ⟨x1, _⟩ := hok b _ hb
      obtain ⟨x2, _⟩ := hok' b _ (un.frzs b _ _ hb)
      rw [e] at x1
      cases x1
      exact x2
/-- a law whose def returns True at every script -/
theorem walk_law {l : PySem.W.OpenLaw} {n : Nat} {q : Program} {loose : List Str} {XP : (Str → Option Value) → Heap → Prop} {YP : World → Heap → Prop} {d : DefRec} (hn : l.most = some n) (hn2 : n ≤ sizeLine) (hdf : d.params.defaults = [])
    (F : ∀ (w : World) (mg : Str → Option Value) (fa : Addr) (h : Heap), YP w h → h.Ns mainGlobals mg → mg d.name = some (.ref fa) →
      ∃ K : PySem.W.Frag, K.In h ∧ ∀ base : Heap, K.In base → base.Ns mainGlobals mg → LawAt l.prog w K mg base fa n) :
    PySem.W.WalkO q loose XP YP l.row.toRowW d [] (fun f vs => PySem.call f vs) := by
  refine Att.attach_call hn hdf fun w _ s1 mg mb fa _ _ _ _ a vs ns G Y _ _ _ hmg hobj hints hlen hg => ?_
  obtain ⟨K, hK, hF⟩ := F w mg fa _ Y G.T.g hmg
  exact law_end hK G.T.g G.T.b G.T.builtins G.T.nolimit hg hobj hints hlen hn2 hF
end
end DL

set_option Elab.async false
set_option linter.all false
set_option maxRecDepth 100000
set_option maxHeartbeats 2000000
namespace ZS
open PySem
open PySem.Sem (wp)
/-- an iterator over a list (true) or a tuple (false) -/
def ItOn : Bool → Heap → Addr → Addr → Nat → Prop
  | true, h, it, l, i => h.IsListIter it l i
  | false, h, it, l, i => h.IsTupleIter it l i
def SqOn : Bool → Heap → Addr → Array Value → Prop
  | true, h, l, xs => h.IsList l xs
  | false, h, l, xs => h.IsTuple l xs
theorem ItOn.stay {b : Bool} {h h' : Heap} {it l : Addr} {i : Nat} (r : ItOn b h it l i) (k : ∀ o, h.get? it = some o → h'.get? it = some o) : ItOn b h' it l i := by
  cases b
  · exact Heap.IsTupleIter.at r k
  · exact Heap.IsListIter.at r k
theorem SqOn.stay {b : Bool} {h h' : Heap} {l : Addr} {xs : Array Value} (r : SqOn b h l xs) (k : ∀ o, h.get? l = some o → h'.get? l = some o) : SqOn b h' l xs := by
  cases b
  · obtain ⟨o, e, c⟩ := r
    exact ⟨o, k o e, c⟩
  · exact Heap.IsList.at r k
theorem ItOn.has {b : Bool} {h : Heap} {it l : Addr} {i : Nat} (r : ItOn b h it l i) : ∃ o, h.get? it = some o := by
  cases b
  · obtain ⟨o, e, _⟩ := r; exact ⟨o, e⟩
  · obtain ⟨o, e, _⟩ := r; exact ⟨o, e⟩
theorem SqOn.has {b : Bool} {h : Heap} {l : Addr} {xs : Array Value} (r : SqOn b h l xs) : ∃ o, h.get? l = some o := by
  cases b
  · obtain ⟨o, e, _⟩ := r; exact ⟨o, e⟩
  · obtain ⟨o, e, _⟩ := r; exact ⟨o, e⟩
section
variable {prog : Program} {w : World} {A : Around} {E : Value → Shared → Prop} {s : Shared}
theorem draw_item {b : Bool} {it l : Addr} {i : Nat} {xs : Array Value} {x : Value} {Q : Value → Shared → Prop} (hi : ItOn b s.heap it l i) (hl : SqOn b s.heap l xs) (hx : xs[i]? = some x)
    (q : ∀ h', ItOn b h' it l (i + 1) → Heap.SameBut it s.heap h' → Q x { s with heap := h' }) : wpAny (model prog w) A (Builtin.SmallTypes.nextOf (.ref it)) Q E s := by
  cases b
  · exact RZ.nextOf_tuple_item hi hl hx q
  · exact wpAny_nextOf_list_item hi hl hx q
theorem draw_end {b : Bool} {it l : Addr} {i : Nat} {xs : Array Value} {Q : Value → Shared → Prop} (hh : A.handled = none) (hi : ItOn b s.heap it l i) (hl : SqOn b s.heap l xs) (hx : xs[i]? = none)
    (q : ∀ h' e, Heap.ExtBut it s.heap h' → (∃ o, h'.get? e = some o ∧ o.cls = .type "StopIteration") → E (.ref e) { s with heap := h' }) : wpAny (model prog w) A (Builtin.SmallTypes.nextOf (.ref it)) Q E s := by
  cases b
  · exact RZ.nextOf_tuple_end hh hi hl hx q
  · exact wpAny_nextOf_list_end hh hi hl hx q
end
/-- a zip object, whatever tuple it has handed out -/
abbrev ZAt (h : Heap) (z TI TO : Addr) (f0 f1 : Value) : Prop := h.get? z = some { cls := .type "zip", data := .fields #[f0, f1, .bool false, .ref TI, .ref TO] }
/-- a zip of two sequences in the midst of its walk -/
structure Mid (b1 b2 : Bool) (z TI TO i1 i2 l1 l2 : Addr) (xs ys : Array Value) (k : Nat) (h : Heap) : Prop where
  zat : ∃ f0 f1, ZAt h z TI TO f0 f1 ∧ (f0 = .none ∨ ∃ a, f0 = rawInt a)
  ti : IsPair h TI (.ref i1) (.ref i2)
  to : ∃ a b, IsPair h TO a b
  it1 : ItOn b1 h i1 l1 k
  it2 : ItOn b2 h i2 l2 k
  sq1 : SqOn b1 h l1 xs
  sq2 : SqOn b2 h l2 ys
section
variable {prog : Program} {w : World} {A : Around} {E : Value → Shared → Prop} {s : Shared} {b1 b2 : Bool} {z TI TO i1 i2 l1 l2 : Addr} {xs ys : Array Value} {k : Nat}
theorem alive {a : Addr} {Q : Option Obj → Shared → Prop} (h : Q (s.heap.get? a) s) : wpAny (model prog w) A (loadIfAlive a) Q E s := fun _ _ _ => h
theorem free_spec {f0 f1 : Value} (hz : ZAt s.heap z TI TO f0 f1) (hf : f0 = .none ∨ ∃ a, f0 = rawInt a) :
    wpAny (model prog w) A (Builtin.SmallTypes.ownedTupleIsFree (.ref z)) (fun _ s' => ∃ h' g1, s' = { s with heap := h' } ∧ ZAt h' z TI TO f0 g1 ∧ Heap.SameBut z s.heap h') E s := by
  unfold Builtin.SmallTypes.ownedTupleIsFree
  have done : ∃ h' g1, s = { s with heap := h' } ∧ ZAt h' z TI TO f0 g1 ∧ Heap.SameBut z s.heap h' := ⟨s.heap, f1, rfl, hz, ⟨rfl, fun _ _ => rfl⟩⟩
  rcases hf with e | ⟨n, e⟩
  · subst e
    exact wpAny_bind (wpAny_field hz rfl (x := .none) rfl (wpAny_pure done))
  · subst e
    refine wpAny_bind (wpAny_field hz rfl (x := rawInt n) rfl ?_)
    show wpAny _ _ (loadIfAlive n.toNat >>= _) _ _ _
    refine wpAny_bind (alive ?_)
    cases s.heap.get? n.toNat with
    | none => exact wpAny_pure done
    | some o =>
      show wpAny _ _ (field (.ref z) 1 >>= _) _ _ _
      refine wpAny_bind (wpAny_field hz rfl (x := f1) rfl ?_)
      cases hc : f1 != Value.bool true with
      | true =>
        rw [if_pos rfl]
        refine wpAny_bind (wpAny_setField_rec hz (by simp) fun h' hz' hs' => wpAny_pure ?_)
        exact ⟨h', .bool true, rfl, hz', hs'⟩
      | false => exact wpAny_pure done
theorem zip_item {x y : Value} {Q : Value → Shared → Prop} (D : ZipApart z TI TO i1 i2 l1 l2) (m : Mid b1 b2 z TI TO i1 i2 l1 l2 xs ys k s.heap) (hx : xs[k]? = some x) (hy : ys[k]? = some y)
    (q : ∀ h', Mid b1 b2 z TI TO i1 i2 l1 l2 xs ys (k + 1) h' → IsPair h' s.heap.objs.size x y → (∀ c o, c ≠ z → c ≠ TO → c ≠ i1 → c ≠ i2 → s.heap.get? c = some o → h'.get? c = some o) → Q (.ref s.heap.objs.size) { s with heap := h' }) :
    wpAny (model prog w) A (Builtin.«zip.__next__» ⟨[.ref z], []⟩) (fun fin s' => ∃ v, fin = .done (.ret v) ∧ Q v s') E s := by
  obtain ⟨⟨f0, f1, hz, hf⟩, hTI, ⟨a, b, hTO⟩, h1, h2, hs1, hs2⟩ := m
  show wpAny _ _ (field (.ref z) 2 >>= _) _ _ _
  refine wpAny_bind (wpAny_field hz rfl (x := .bool false) rfl ?_)
  show wpAny _ _ (field (.ref z) 3 >>= _) _ _ _
  refine wpAny_bind (wpAny_field hz rfl (x := .ref TI) rfl ?_)
  refine wpAny_bind (wpAny_seqItems hTI rfl ?_)
  show wpAny _ _ (Builtin.SmallTypes.ownedTupleIsFree (.ref z) >>= _) _ _ _
  refine wpAny_bind ?_
  refine wpAny_mono (free_spec hz hf) (fun bb s' hs => ?_) fun _ _ e => e
  obtain ⟨h0, g1, rfl, hz0, sb0⟩ := hs
  have hTI0 : IsPair h0 TI (.ref i1) (.ref i2) := sb0.extBut _ _ D.TIz hTI
  have hTO0 : IsPair h0 TO a b := sb0.extBut _ _ D.TOz hTO
  have h10 : ItOn b1 h0 i1 l1 k := h1.stay fun o e => sb0.extBut _ _ D.i1z e
  have h20 : ItOn b2 h0 i2 l2 k := h2.stay fun o e => sb0.extBut _ _ D.i2z e
  have hs10 : SqOn b1 h0 l1 xs := hs1.stay fun o e => sb0.extBut _ _ D.l1z e
  have hs20 : SqOn b2 h0 l2 ys := hs2.stay fun o e => sb0.extBut _ _ D.l2z e
  cases bb with
  | true =>
    simp only [if_true]
    refine wpAny_bind (wpAny_rule ?_)
    refine wpAny_bind (wpAny_field hz0 rfl (x := .ref TO) rfl ?_)
    refine wpAny_bind (wpAny_setField_rec hz0 (by simp) fun p1 hz1 sb1 => ?_)
    replace hz1 : ZAt p1 z TI TO .ellipsis g1 := hz1
    refine wpAny_bind ?_
    simp only [List.zipIdx_cons, List.zipIdx_nil, List.forIn_cons, List.forIn_nil]
    -- the first one
    refine wpAny_bind (wpAny_bind (wpAny_onRaise ?_))
    show wpAny _ _ (Builtin.SmallTypes.nextOf (.ref i1) >>= _) _ _ _
    refine wpAny_bind (draw_item (h10.stay fun o e => sb1.extBut _ _ D.i1z e) (hs10.stay fun o e => sb1.extBut _ _ D.l1z e) hx fun p2 u1 sb2 => wpAny_pure ?_)
    have t2 : IsPair p2 TO a b := sb2.extBut _ _ D.TOi1 (sb1.extBut _ _ D.TOz hTO0)
    refine wpAny_bind (wpAny_seqItems t2 rfl ?_)
    refine wpAny_bind (wpAny_updateSeq_pair t2 fun p3 t3 sb3 => ?_)
    replace t3 : IsPair p3 TO x b := t3
    refine wpAny_bind (wpAny_letGo (wpAny_pure ?_))
    -- the second one
    refine wpAny_bind (wpAny_bind (wpAny_onRaise ?_))
    show wpAny _ _ (Builtin.SmallTypes.nextOf (.ref i2) >>= _) _ _ _
    have up3 : ∀ c o, c ≠ z → c ≠ i1 → c ≠ TO → h0.get? c = some o → p3.get? c = some o := fun c o c1 c2 c3 e => sb3.extBut _ _ c3 (sb2.extBut _ _ c2 (sb1.extBut _ _ c1 e))
    refine wpAny_bind (draw_item (h20.stay fun o e => up3 _ _ D.i2z D.i12.symm D.TOi2.symm e) (hs20.stay fun o e => up3 _ _ D.l2z D.l2i1 D.l2TO e) hy fun p4 u2 sb4 => wpAny_pure ?_)
    have t4 : IsPair p4 TO x b := sb4.extBut _ _ D.TOi2 t3
    refine wpAny_bind (wpAny_seqItems t4 rfl ?_)
    refine wpAny_bind (wpAny_updateSeq_pair t4 fun p5 t5 sb5 => ?_)
    replace t5 : IsPair p5 TO x y := t5
    refine wpAny_bind (wpAny_letGo (wpAny_pure (wpAny_pure ?_)))
    -- the tuple that is handed out
    refine wpAny_bind (wpAny_seqItems t5 rfl ?_)
    refine wpAny_bind (wpAny_newTuple ?_)
    have up5 : ∀ c o, c ≠ z → c ≠ TO → c ≠ i1 → c ≠ i2 → h0.get? c = some o → p5.get? c = some o := fun c o c1 c2 c3 c4 e => sb5.extBut _ _ c2 (sb4.extBut _ _ c4 (up3 c o c1 c3 c2 e))
    have hz5 : ZAt p5 z TI TO .ellipsis g1 := sb5.extBut _ _ D.TOz.symm (sb4.extBut _ _ D.i2z.symm (sb3.extBut _ _ D.TOz.symm (sb2.extBut _ _ D.i1z.symm hz1)))
    have size5 : p5.objs.size = s.heap.objs.size := by rw [sb5.1, sb4.1, sb3.1, sb2.1, sb1.1, sb0.1]
    show wpAny _ _ (Builtin.SmallTypes.ownedTupleHandOut (.ref z) (.ref p5.objs.size) >>= _) _ _ _
    refine wpAny_bind ?_
    unfold Builtin.SmallTypes.ownedTupleHandOut
    have hz6 : ZAt (p5.push { cls := .type "tuple", data := .seq #[x, y] }) z TI TO .ellipsis g1 := Heap.get?_push_of_some _ hz5
    refine wpAny_bind (wpAny_setField_rec hz6 (by simp) fun p7 hz7 sb7 => ?_)
    replace hz7 : ZAt p7 z TI TO (rawInt p5.objs.size) g1 := hz7
    refine wpAny_setField_rec hz7 (by simp) fun p8 hz8 sb8 => ?_
    replace hz8 : ZAt p8 z TI TO (rawInt p5.objs.size) (.bool false) := hz8
    have up8 : ∀ c o, c ≠ z → p5.get? c = some o → p8.get? c = some o := fun c o c1 e => sb8.extBut _ _ c1 (sb7.extBut _ _ c1 (Heap.get?_push_of_some _ e))
    have zl : z < p5.objs.size := Heap.lt_size hz5
    have tt : IsPair p8 p5.objs.size x y := sb8.extBut _ _ (Nat.ne_of_gt zl) (sb7.extBut _ _ (Nat.ne_of_gt zl) (Heap.get?_push_size _ rfl))
    have v1 : ItOn b1 p8 i1 l1 (k + 1) := ((u1.stay fun o e => sb3.extBut _ _ D.TOi1.symm e).stay fun o e => sb5.extBut _ _ D.TOi1.symm (sb4.extBut _ _ D.i12 e)).stay fun o e => up8 _ _ D.i1z e
    have v2 : ItOn b2 p8 i2 l2 (k + 1) := (u2.stay fun o e => sb5.extBut _ _ D.TOi2.symm e).stay fun o e => up8 _ _ D.i2z e
    have kept : ∀ c o, c ≠ z → c ≠ TO → c ≠ i1 → c ≠ i2 → s.heap.get? c = some o → p8.get? c = some o := fun c o c1 c2 c3 c4 e => up8 c o c1 (up5 c o c1 c2 c3 c4 (sb0.extBut _ _ c1 e))
    refine wpAny_pure ⟨_, rfl, ?_⟩
    show Q (.ref p5.objs.size) _
    rw [size5] at tt ⊢
    exact q p8 ⟨⟨_, _, hz8, .inr ⟨_, rfl⟩⟩, kept _ _ D.TIz D.TITO D.TIi1 D.TIi2 hTI, ⟨_, _, up8 _ _ D.TOz t5⟩, v1, v2, hs1.stay fun o e => kept _ _ D.l1z D.l1TO D.l1i1 D.l1i2 e, hs2.stay fun o e => kept _ _ D.l2z D.l2TO D.l2i1 D.l2i2 e⟩ tt kept
  | false =>
    rw [if_neg Bool.false_ne_true]
    refine wpAny_bind ?_
    rw [List.forIn_toArray]
    simp only [List.forIn_cons, List.forIn_nil]
    refine wpAny_bind (wpAny_bind (wpAny_holding ?_))
    show wpAny _ _ (Builtin.SmallTypes.nextOf (.ref i1) >>= _) _ _ _
    refine wpAny_bind (draw_item h10 hs10 hx fun p2 u1 sb2 => wpAny_pure (wpAny_pure ?_))
    refine wpAny_bind (wpAny_bind (wpAny_holding ?_))
    show wpAny _ _ (Builtin.SmallTypes.nextOf (.ref i2) >>= _) _ _ _
    refine wpAny_bind (draw_item (h20.stay fun o e => sb2.extBut _ _ D.i12.symm e) (hs20.stay fun o e => sb2.extBut _ _ D.l2i1 e) hy fun p4 u2 sb4 => wpAny_pure (wpAny_pure (wpAny_pure ?_)))
    refine wpAny_bind (wpAny_newTuple ?_ (by show 2 ≤ sizeLine; decide))
    have size4 : p4.objs.size = s.heap.objs.size := by rw [sb4.1, sb2.1, sb0.1]
    have up : ∀ c o, c ≠ i1 → c ≠ i2 → h0.get? c = some o → (p4.push { cls := .type "tuple", data := .seq #[x, y] }).get? c = some o := fun c o c1 c2 e => Heap.get?_push_of_some _ (sb4.extBut _ _ c2 (sb2.extBut _ _ c1 e))
    have kept : ∀ c o, c ≠ z → c ≠ TO → c ≠ i1 → c ≠ i2 → s.heap.get? c = some o → (p4.push { cls := .type "tuple", data := .seq #[x, y] }).get? c = some o := fun c o c1 c2 c3 c4 e => up c o c3 c4 (sb0.extBut _ _ c1 e)
    have tt : IsPair (p4.push { cls := .type "tuple", data := .seq #[x, y] }) p4.objs.size x y := Heap.get?_push_size _ rfl
    refine wpAny_pure ⟨_, rfl, ?_⟩
    show Q (.ref p4.objs.size) _
    rw [size4] at tt ⊢
    exact q _ ⟨⟨_, _, up _ _ D.i1z.symm D.i2z.symm hz0, hf⟩, kept _ _ D.TIz D.TITO D.TIi1 D.TIi2 hTI, ⟨_, _, up _ _ D.TOi1 D.TOi2 hTO0⟩, (u1.stay fun o e => sb4.extBut _ _ D.i12 e).stay fun o e => Heap.get?_push_of_some _ e, u2.stay fun o e => Heap.get?_push_of_some _ e, hs1.stay fun o e => kept _ _ D.l1z D.l1TO D.l1i1 D.l1i2 e, hs2.stay fun o e => kept _ _ D.l2z D.l2TO D.l2i1 D.l2i2 e⟩ tt kept
theorem zip_end {Q : Fin → Shared → Prop} (hh : A.handled = none) (D : ZipApart z TI TO i1 i2 l1 l2) (m : Mid b1 b2 z TI TO i1 i2 l1 l2 xs ys k s.heap) (he : xs[k]? = none ∨ ys[k]? = none)
    (q : ∀ h' e, (∀ c o, c ≠ z → c ≠ TO → c ≠ i1 → c ≠ i2 → s.heap.get? c = some o → h'.get? c = some o) → (∃ o, h'.get? e = some o ∧ o.cls = .type "StopIteration") → E (.ref e) { s with heap := h' }) :
    wpAny (model prog w) A (Builtin.«zip.__next__» ⟨[.ref z], []⟩) Q E s := by
  obtain ⟨⟨f0, f1, hz, hf⟩, hTI, ⟨a, b, hTO⟩, h1, h2, hs1, hs2⟩ := m
  show wpAny _ _ (field (.ref z) 2 >>= _) _ _ _
  refine wpAny_bind (wpAny_field hz rfl (x := .bool false) rfl ?_)
  show wpAny _ _ (field (.ref z) 3 >>= _) _ _ _
  refine wpAny_bind (wpAny_field hz rfl (x := .ref TI) rfl ?_)
  refine wpAny_bind (wpAny_seqItems hTI rfl ?_)
  show wpAny _ _ (Builtin.SmallTypes.ownedTupleIsFree (.ref z) >>= _) _ _ _
  refine wpAny_bind ?_
  refine wpAny_mono (free_spec hz hf) (fun bb s' hs => ?_) fun _ _ e => e
  obtain ⟨h0, g1, rfl, hz0, sb0⟩ := hs
  have hTO0 : IsPair h0 TO a b := sb0.extBut _ _ D.TOz hTO
  have h10 : ItOn b1 h0 i1 l1 k := h1.stay fun o e => sb0.extBut _ _ D.i1z e
  have h20 : ItOn b2 h0 i2 l2 k := h2.stay fun o e => sb0.extBut _ _ D.i2z e
  have hs10 : SqOn b1 h0 l1 xs := hs1.stay fun o e => sb0.extBut _ _ D.l1z e
  have hs20 : SqOn b2 h0 l2 ys := hs2.stay fun o e => sb0.extBut _ _ D.l2z e
  cases bb with
  | true =>
    simp only [if_true]
    refine wpAny_bind (wpAny_rule ?_)
    refine wpAny_bind (wpAny_field hz0 rfl (x := .ref TO) rfl ?_)
    refine wpAny_bind (wpAny_setField_rec hz0 (by simp) fun p1 hz1 sb1 => ?_)
    replace hz1 : ZAt p1 z TI TO .ellipsis g1 := hz1
    refine wpAny_bind ?_
    simp only [List.zipIdx_cons, List.zipIdx_nil, List.forIn_cons, List.forIn_nil]
    refine wpAny_bind (wpAny_bind (wpAny_onRaise ?_))
    show wpAny _ _ (Builtin.SmallTypes.nextOf (.ref i1) >>= _) _ _ _
    have g10 := h10.stay fun o e => sb1.extBut _ _ D.i1z e
    have gs10 := hs10.stay fun o e => sb1.extBut _ _ D.l1z e
    cases hx : xs[k]? with
    | none =>
      refine wpAny_bind (draw_end hh g10 gs10 hx fun p2 e sb2 hse => ?_)
      obtain ⟨oe, hoe, hce⟩ := hse
      have hz2 : ZAt p2 z TI TO .ellipsis g1 := sb2 _ _ D.i1z.symm hz1
      have hez : e ≠ z := fun y => by subst y; rw [hz2] at hoe; cases hoe; simp at hce
      exact wpAny_setField_rec hz2 (by simp) fun p3 _ sb3 => q p3 e (fun c o c1 _ c3 _ y => sb3.extBut _ _ c1 (sb2 _ _ c3 (sb1.extBut _ _ c1 (sb0.extBut _ _ c1 y)))) ⟨oe, sb3.extBut _ _ hez hoe, hce⟩
    | some x =>
      have hy : ys[k]? = none := by
        rcases he with he | he
        · rw [hx] at he; cases he
        · exact he
      refine wpAny_bind (draw_item g10 gs10 hx fun p2 u1 sb2 => wpAny_pure ?_)
      have t2 : IsPair p2 TO a b := sb2.extBut _ _ D.TOi1 (sb1.extBut _ _ D.TOz hTO0)
      refine wpAny_bind (wpAny_seqItems t2 rfl ?_)
      refine wpAny_bind (wpAny_updateSeq_pair t2 fun p3 t3 sb3 => ?_)
      refine wpAny_bind (wpAny_letGo (wpAny_pure ?_))
      refine wpAny_bind (wpAny_bind (wpAny_onRaise ?_))
      show wpAny _ _ (Builtin.SmallTypes.nextOf (.ref i2) >>= _) _ _ _
      have up3 : ∀ c o, c ≠ z → c ≠ i1 → c ≠ TO → h0.get? c = some o → p3.get? c = some o := fun c o c1 c2 c3 e => sb3.extBut _ _ c3 (sb2.extBut _ _ c2 (sb1.extBut _ _ c1 e))
      refine wpAny_bind (draw_end hh (h20.stay fun o e => up3 _ _ D.i2z D.i12.symm D.TOi2.symm e) (hs20.stay fun o e => up3 _ _ D.l2z D.l2i1 D.l2TO e) hy fun p4 e sb4 hse => ?_)
      obtain ⟨oe, hoe, hce⟩ := hse
      have hz4 : ZAt p4 z TI TO .ellipsis g1 := sb4 _ _ D.i2z.symm (sb3.extBut _ _ D.TOz.symm (sb2.extBut _ _ D.i1z.symm hz1))
      have hez : e ≠ z := fun y => by subst y; rw [hz4] at hoe; cases hoe; simp at hce
      exact wpAny_setField_rec hz4 (by simp) fun p5 _ sb5 => q p5 e (fun c o c1 c2 c3 c4 y => sb5.extBut _ _ c1 (sb4 _ _ c4 (up3 c o c1 c3 c2 (sb0.extBut _ _ c1 y)))) ⟨oe, sb5.extBut _ _ hez hoe, hce⟩
  | false =>
    rw [if_neg Bool.false_ne_true]
    refine wpAny_bind ?_
    rw [List.forIn_toArray]
    simp only [List.forIn_cons, List.forIn_nil]
    refine wpAny_bind (wpAny_bind (wpAny_holding ?_))
    show wpAny _ _ (Builtin.SmallTypes.nextOf (.ref i1) >>= _) _ _ _
    cases hx : xs[k]? with
    | none => exact wpAny_bind (draw_end hh h10 hs10 hx fun p2 e sb2 hse => q p2 e (fun c o c1 _ c3 _ y => sb2 _ _ c3 (sb0.extBut _ _ c1 y)) hse)
    | some x =>
      have hy : ys[k]? = none := by
        rcases he with he | he
        · rw [hx] at he; cases he
        · exact he
      refine wpAny_bind (draw_item h10 hs10 hx fun p2 u1 sb2 => wpAny_pure (wpAny_pure ?_))
      refine wpAny_bind (wpAny_bind (wpAny_holding ?_))
      show wpAny _ _ (Builtin.SmallTypes.nextOf (.ref i2) >>= _) _ _ _
      exact wpAny_bind (draw_end hh (h20.stay fun o e => sb2.extBut _ _ D.i12.symm e) (hs20.stay fun o e => sb2.extBut _ _ D.l2i1 e) hy fun p4 e sb4 hse => q p4 e (fun c o c1 _ c3 c4 y => sb4 _ _ c4 (sb2.extBut _ _ c3 (sb0.extBut _ _ c1 y))) hse)
theorem next_item {x y : Value} {Q : Option Value → Shared → Prop} (D : ZipApart z TI TO i1 i2 l1 l2) (m : Mid b1 b2 z TI TO i1 i2 l1 l2 xs ys k s.heap) (hx : xs[k]? = some x) (hy : ys[k]? = some y)
    (q : ∀ h', Mid b1 b2 z TI TO i1 i2 l1 l2 xs ys (k + 1) h' → IsPair h' s.heap.objs.size x y → (∀ c o, c ≠ z → c ≠ TO → c ≠ i1 → c ≠ i2 → s.heap.get? c = some o → h'.get? c = some o) → Q (some (.ref s.heap.objs.size)) { s with heap := h' }) :
    wpAny (model prog w) A (pyNext (.ref z)) Q E s := by
  obtain ⟨f0, f1, hz, _⟩ := m.zat
  have hT : s.TypeIs (.ref z) "zip" := ⟨_, hz, rfl⟩
  unfold pyNext
  exact wpAny_bind (wpAny_attempt (wpAny_callSpecial?_slot (name := Str.ofString "__next__") hT F.slot_zip_next (wpAny_call_entry F.slot_zip_next hT F.entry_zip_next (zip_item D m hx hy fun h' a1 a2 a3 => wpAny_pure (q h' a1 a2 a3)) (F.args_zip_next_1 _))))
theorem next_end {Q : Option Value → Shared → Prop} (hh : A.handled = none) (D : ZipApart z TI TO i1 i2 l1 l2) (m : Mid b1 b2 z TI TO i1 i2 l1 l2 xs ys k s.heap) (he : xs[k]? = none ∨ ys[k]? = none)
    (q : ∀ h', (∀ c o, c ≠ z → c ≠ TO → c ≠ i1 → c ≠ i2 → s.heap.get? c = some o → h'.get? c = some o) → Q none { s with heap := h' }) : wpAny (model prog w) A (pyNext (.ref z)) Q E s := by
  obtain ⟨f0, f1, hz, _⟩ := m.zat
  have hT : s.TypeIs (.ref z) "zip" := ⟨_, hz, rfl⟩
  unfold pyNext
  refine wpAny_bind (wpAny_attempt (wpAny_callSpecial?_slot (name := Str.ofString "__next__") hT F.slot_zip_next (wpAny_call_entry F.slot_zip_next hT F.entry_zip_next (zip_end hh D m he fun h' e hk hse => ?_) (F.args_zip_next_1 _))))
  obtain ⟨o, ho, hc⟩ := hse
  refine wpAny_bind (wpAny_isInstance (T := "StopIteration") (b := true) ⟨o, ho, hc⟩ isSubtype_stop ?_)
  exact wpAny_pure (q _ hk)
end
end ZS

set_option Elab.async false
set_option linter.all false
set_option maxRecDepth 100000
set_option maxHeartbeats 2000000
namespace ZS
open PySem
open PySem.Sem (wp)
theorem nolen_zip : typeLookup (.type "zip") "__len__" = pure none := by rw [typeLookup_type, builtinLookup_eq_fast]; kernel_rfl
theorem nohint_zip : typeLookup (.type "zip") "__length_hint__" = pure none := by rw [typeLookup_type, builtinLookup_eq_fast]; kernel_rfl
theorem Mid.stay {b1 b2 : Bool} {z TI TO i1 i2 l1 l2 : Addr} {xs ys : Array Value} {k : Nat} {h h' : Heap} (m : Mid b1 b2 z TI TO i1 i2 l1 l2 xs ys k h) (e : ∀ c ∈ [z, TI, TO, i1, i2, l1, l2], ∀ o, h.get? c = some o → h'.get? c = some o) : Mid b1 b2 z TI TO i1 i2 l1 l2 xs ys k h' := by
  obtain ⟨⟨f0, f1, hz, hf⟩, hTI, ⟨a, b, hTO⟩, h1, h2, hs1, hs2⟩ := m
  exact ⟨⟨f0, f1, e z (by simp) _ hz, hf⟩, e TI (by simp) _ hTI, ⟨a, b, e TO (by simp) _ hTO⟩, h1.stay fun o q => e i1 (by simp) o q, h2.stay fun o q => e i2 (by simp) o q, hs1.stay fun o q => e l1 (by simp) o q, hs2.stay fun o q => e l2 (by simp) o q⟩
/-- the pairs made so far -/
def Got (n0 : Nat) (z TO i1 i2 S : Addr) (xs ys : Array Value) (h : Heap) (as : List Addr) : Prop := as.Nodup ∧ ∀ (j : Nat) (T : Addr), as[j]? = some T → n0 ≤ T ∧ ∃ (x y : Value), xs[j]? = some x ∧ ys[j]? = some y ∧ IsPair h T x y ∧ T ≠ z ∧ T ≠ TO ∧ T ≠ i1 ∧ T ≠ i2 ∧ T ≠ S
theorem Got.stay {n0 : Nat} {z TO i1 i2 S : Addr} {xs ys : Array Value} {h h' : Heap} {as : List Addr} (g : Got n0 z TO i1 i2 S xs ys h as) (k : ∀ c o, c ≠ S → c ≠ z → c ≠ TO → c ≠ i1 → c ≠ i2 → h.get? c = some o → h'.get? c = some o) : Got n0 z TO i1 i2 S xs ys h' as :=
  ⟨g.1, fun j T e => by
    obtain ⟨e0, x, y, e2, e3, e4, n1, n2, n3, n4, n5⟩ := g.2 j T e
    exact ⟨e0, x, y, e2, e3, k T _ n5 n1 n2 n3 n4 e4, n1, n2, n3, n4, n5⟩⟩
section
variable {prog : Program} {w : World} {A : Around} {b1 b2 : Bool} {z TI TO i1 i2 l1 l2 : Addr} {xs ys : Array Value}
theorem loop_zip {n0 : Nat} {R : Result → Shared → Prop} (hh : A.handled = none) (D : ZipApart z TI TO i1 i2 l1 l2) (hn : min xs.size ys.size ≤ sizeLine) (S : Addr) (hS : S ∉ [z, TI, TO, i1, i2, l1, l2]) (res : Value) :
    ∀ (r k : Nat) (s : Shared) (as : List Addr) (c : Nat), min xs.size ys.size - k = r → k ≤ min xs.size ys.size → n0 ≤ s.heap.objs.size → Mid b1 b2 z TI TO i1 i2 l1 l2 xs ys k s.heap → s.heap.get? S = some { cls := .type "list", data := .seq (as.map Value.ref).toArray c } → as.length = k → Got n0 z TO i1 i2 S xs ys s.heap as →
    (∀ h' as' c', (∀ c o, c ≠ S → c ≠ z → c ≠ TO → c ≠ i1 → c ≠ i2 → s.heap.get? c = some o → h'.get? c = some o) → h'.get? S = some { cls := .type "list", data := .seq (as'.map Value.ref).toArray c' } → as'.length = min xs.size ys.size → Got n0 z TO i1 i2 S xs ys h' as' → R (.ok (.ret res)) { s with heap := h' }) →
    codeAny (model prog w) A (.builtin "list.extend.loop" ⟨[.ref S, .ref z, res], []⟩) R s := by
  simp only [List.mem_cons, List.not_mem_nil, or_false, not_or] at hS
  obtain ⟨Sz, STI, STO, Si1, Si2, Sl1, Sl2⟩ := hS
  have hh1 : A.in1.handled = none := hh
  intro r
  induction r with
  | zero =>
    intro k s as c hk hle hn0 m hacc hlen got hR
    have hend : xs[k]? = none ∨ ys[k]? = none := by
      have : xs.size ≤ k ∨ ys.size ≤ k := by omega
      rcases this with h | h
      · exact .inl (Array.getElem?_eq_none h)
      · exact .inr (Array.getElem?_eq_none h)
    refine codeAny_builtin F.entry_extend_loop ?_
    rw [Around.under_plainId F.plain_extend_loop _]
    show wpAny _ A.in1 (pyNext (.ref z) >>= _) _ _ s
    refine wpAny_bind (next_end hh1 D m hend fun h' hk' => wpAny_pure ?_)
    exact hR h' as c (fun c o _ c1 c2 c3 c4 e => hk' c o c1 c2 c3 c4 e) (hk' S _ Sz STO Si1 Si2 hacc) (by omega) (got.stay fun c o _ c1 c2 c3 c4 e => hk' c o c1 c2 c3 c4 e)
  | succ r ih =>
    intro k s as c hk hle hn0 m hacc hlen got hR
    have h1 : k < xs.size := by omega
    have h2 : k < ys.size := by omega
    refine codeAny_builtin F.entry_extend_loop ?_
    rw [Around.under_plainId F.plain_extend_loop _]
    show wpAny _ A.in1 (pyNext (.ref z) >>= _) _ _ s
    refine wpAny_bind (next_item D m (Array.getElem?_eq_getElem h1) (Array.getElem?_eq_getElem h2) fun h' m' tt hk' => ?_)
    have hS' : h'.get? S = some { cls := .type "list", data := .seq (as.map Value.ref).toArray c } := hk' S _ Sz STO Si1 Si2 hacc
    show wpAny _ A.in1 (updateSeq S (·.push _) >>= _) _ _ _
    refine wpAny_bind ?_
    have szS : S < s.heap.objs.size := Heap.lt_size hacc
    obtain ⟨f0, f1, hz0, _⟩ := m.zat
    obtain ⟨a0, b0, hto⟩ := m.to
    obtain ⟨o1, ho1⟩ := m.it1.has
    obtain ⟨o2, ho2⟩ := m.it2.has
    have szT : s.heap.objs.size < h'.objs.size := Heap.lt_size tt
    refine wpAny_updateSeq hS' rfl (wpAny_pure ⟨plainId_quiet F.plain_extend_loop _, ih (k + 1) _ (as ++ [s.heap.objs.size]) _ (by omega) (by omega) ?_ (m'.stay fun c hc o e => ?_) ((Heap.get?_update_self _ hS' rfl).trans (by simp [Obj.mapSeq]; rfl)) (by rw [List.length_append]; simp; omega) ⟨?_, fun j T hv => ?_⟩ fun h'' as' c' kept hS'' hlen' got' => ?_⟩) (by rw [List.size_toArray, List.length_map]; omega) (by show ((as.map Value.ref).toArray.push _).size ≤ sizeLine + 1; rw [Array.size_push, List.size_toArray, List.length_map]; omega)
    · have : (h'.update S (Obj.mapSeq (·.push (Value.ref s.heap.objs.size)))).objs.size = h'.objs.size := by simp [Heap.update]
      show n0 ≤ (h'.update S (Obj.mapSeq (·.push (Value.ref s.heap.objs.size)))).objs.size
      omega
    · refine (Heap.get?_update_other _ _ ?_).trans e
      intro hq
      subst hq
      simp only [List.mem_cons, List.not_mem_nil, or_false] at hc
      rcases hc with q | q | q | q | q | q | q
      · exact Sz q
      · exact STI q
      · exact STO q
      · exact Si1 q
      · exact Si2 q
      · exact Sl1 q
      · exact Sl2 q
    · refine List.nodup_append.mpr ⟨got.1, by simp, fun a ha b hb => ?_⟩
      obtain ⟨j, hj⟩ := List.getElem?_of_mem ha
      obtain ⟨_, x, y, _, _, e4, _⟩ := got.2 j a hj
      rw [List.mem_singleton.mp hb]
      exact Nat.ne_of_lt (Heap.lt_size e4)
    · by_cases hj : j < as.length
      · rw [List.getElem?_append_left hj] at hv
        obtain ⟨e0, x, y, e2, e3, e4, n1, n2, n3, n4, n5⟩ := got.2 j T hv
        exact ⟨e0, x, y, e2, e3, (Heap.get?_update_other _ _ (Ne.symm n5)).trans (hk' T _ n1 n2 n3 n4 e4), n1, n2, n3, n4, n5⟩
      · rw [List.getElem?_append_right (by omega)] at hv
        have : j = as.length := by
          have := (List.getElem?_eq_some_iff.mp hv).1
          simp at this
          omega
        subst this
        simp at hv
        subst hv
        rw [hlen]
        exact ⟨hn0, _, _, Array.getElem?_eq_getElem h1, Array.getElem?_eq_getElem h2, (Heap.get?_update_other _ _ (Nat.ne_of_lt szS)).trans tt, Nat.ne_of_gt (Heap.lt_size hz0), Nat.ne_of_gt (Heap.lt_size hto), Nat.ne_of_gt (Heap.lt_size ho1), Nat.ne_of_gt (Heap.lt_size ho2), Nat.ne_of_gt szS⟩
    · exact hR h'' as' c' (fun c o c0 c1 c2 c3 c4 e => kept c o c0 c1 c2 c3 c4 ((Heap.get?_update_other _ _ (Ne.symm c0)).trans (hk' c o c1 c2 c3 c4 e))) hS'' hlen' got'
end
end ZS

set_option Elab.async false
set_option linter.all false
set_option maxRecDepth 100000
set_option maxHeartbeats 2000000
namespace ZS
open PySem
open PySem.Sem (wp)
section
variable {prog : Program} {w : World} {A : Around} {E : Value → Shared → Prop} {s : Shared} {b1 b2 : Bool} {z TI TO i1 i2 l1 l2 : Addr} {xs ys : Array Value}
theorem collect_zip {n0 : Nat} {Q : List Value → Shared → Prop} (hh : A.handled = none) (D : ZipApart z TI TO i1 i2 l1 l2) (hn : min xs.size ys.size ≤ sizeLine) (hz : IsZip s.heap z TI TO .none) (m : Mid b1 b2 z TI TO i1 i2 l1 l2 xs ys 0 s.heap) (hn0 : n0 ≤ s.heap.objs.size)
    (hQ : ∀ h' as, (∀ c o, c ≠ z → c ≠ TO → c ≠ i1 → c ≠ i2 → s.heap.get? c = some o → h'.get? c = some o) → as.length = min xs.size ys.size → Got n0 z TO i1 i2 s.heap.objs.size xs ys h' as → Q (as.map Value.ref) { s with heap := h' }) :
    wpAny (model prog w) A (collect (.ref z)) Q E s := by
  have hh1 : A.in1.handled = none := hh
  have hT : s.TypeIs (.ref z) "zip" := ⟨_, hz, rfl⟩
  have lt : ∀ c ∈ [z, TI, TO, i1, i2, l1, l2], c < s.heap.objs.size := by
    intro c hc
    obtain ⟨⟨f0, f1, hz, _⟩, hTI, ⟨a, b, hTO⟩, h1, h2, hs1, hs2⟩ := m
    obtain ⟨o1, q1⟩ := h1.has
    obtain ⟨o2, q2⟩ := h2.has
    obtain ⟨o3, q3⟩ := hs1.has
    obtain ⟨o4, q4⟩ := hs2.has
    simp only [List.mem_cons, List.not_mem_nil, or_false] at hc
    rcases hc with q | q | q | q | q | q | q <;> subst q
    · exact Heap.lt_size hz
    · exact Heap.lt_size hTI
    · exact Heap.lt_size hTO
    · exact Heap.lt_size q1
    · exact Heap.lt_size q2
    · exact Heap.lt_size q3
    · exact Heap.lt_size q4
  have hSf : s.heap.objs.size ∉ [z, TI, TO, i1, i2, l1, l2] := fun q => Nat.lt_irrefl _ (lt _ q)
  have hSz : s.heap.objs.size ≠ z := fun e => hSf (by rw [e]; simp)
  unfold collect
  refine wpAny_bind (wpAny_runValue (codeAny_builtin F.entry_proto_collect ?_))
  rw [Around.under_plainId F.plain_proto_collect _]
  show wpAny _ A.in1 (newList [] >>= fun l => again (.builtin "list.__iadd__" ⟨[l, .ref z], []⟩)) _ _ s
  refine wpAny_bind (wpAny_newObj_type ?_)
  refine wpAny_pure ⟨plainId_quiet F.plain_list_iadd _, codeAny_builtin F.entry_list_iadd ?_⟩
  rw [Around.under_plainId F.plain_list_iadd _]
  generalize hp : s.heap.push { cls := .type "list", data := .seq ([] : List Value).toArray } = h1
  have k1 : ∀ c o, s.heap.get? c = some o → h1.get? c = some o := fun c o e => by rw [← hp]; exact Heap.get?_push_of_some _ e
  have hS1 : h1.get? s.heap.objs.size = some { cls := .type "list", data := .seq ([] : List Value).toArray } := by rw [← hp]; exact Heap.get?_push_size _ rfl
  have sz1 : h1.objs.size = s.heap.objs.size + 1 := by rw [← hp]; exact Heap.size_push ..
  have hz1 : IsZip h1 z TI TO .none := k1 _ _ hz
  have hT1 : ({ s with heap := h1 } : Shared).TypeIs (.ref z) "zip" := ⟨_, hz1, rfl⟩
  show wpAny _ A.in1 (Builtin.List.listExtendWith (.ref s.heap.objs.size) (.ref z) (.ref s.heap.objs.size)) _ _ _
  unfold Builtin.List.listExtendWith
  refine wpAny_bind (wpAny_typeOf hT1 ?_)
  have h1' : Builtin.List.listSameRef (.ref s.heap.objs.size) (.ref z) = false := by simp [Builtin.List.listSameRef, hSz]
  have h2 : (Value.type "zip" == Value.type "list") = false := by decide
  have h3 : (Value.type "zip" == Value.type "tuple") = false := by decide
  simp only [h1', h2, h3, Bool.or_false, Bool.false_eq_true, if_false]
  refine wpAny_bind (wpAny_pyIter_zip hz1 ?_)
  refine wpAny_bind (wpAny_holding ?_)
  unfold Builtin.List.listLengthHint
  refine wpAny_bind (wpAny_specialOf hT1 nolen_zip ?_)
  show wpAny _ A.in1 (specialOf (Value.ref z) (Str.ofString "__length_hint__") >>= _) _ _ _
  refine wpAny_bind (wpAny_specialOf hT1 nohint_zip ?_)
  refine wpAny_pure ?_
  show wpAny _ A.in1 (rule "list.extend.makes-room" >>= fun _ => Builtin.List.listTouch (.ref s.heap.objs.size) >>= fun _ =>
    again (.builtin "list.extend.loop" ⟨[.ref s.heap.objs.size, .ref z, .ref s.heap.objs.size], []⟩)) _ _ _
  refine wpAny_bind (wpAny_rule ?_)
  refine wpAny_bind ?_
  show wpAny _ A.in1 (updateSeq s.heap.objs.size (·.push .none) >>= fun _ => updateSeq s.heap.objs.size (·.pop)) _ _ _
  refine wpAny_bind (wpAny_updateSeq hS1 rfl ?_)
  have hS2 := Heap.get?_update_self (Obj.mapSeq (·.push Value.none)) hS1 rfl
  refine wpAny_updateSeq hS2 rfl ?_
  have hS3 := Heap.get?_update_self (Obj.mapSeq (·.pop)) hS2 rfl
  have oth : ∀ b o, b ≠ s.heap.objs.size → h1.get? b = some o →
      ((h1.update s.heap.objs.size (Obj.mapSeq (·.push Value.none))).update s.heap.objs.size (Obj.mapSeq (·.pop))).get? b = some o :=
    fun b o hb e => (Heap.get?_update_other _ _ (Ne.symm hb)).trans ((Heap.get?_update_other _ _ (Ne.symm hb)).trans e)
  have szo : ((h1.update s.heap.objs.size (Obj.mapSeq (·.push Value.none))).update s.heap.objs.size (Obj.mapSeq (·.pop))).objs.size = h1.objs.size := by simp [Heap.update]
  generalize ((h1.update s.heap.objs.size (Obj.mapSeq (·.push Value.none))).update s.heap.objs.size (Obj.mapSeq (·.pop))) = h4 at hS3 oth szo ⊢
  refine wpAny_pure ⟨plainId_quiet F.plain_extend_loop _, loop_zip (n0 := n0) hh D hn _ hSf _ _ 0 _ [] _ rfl (Nat.zero_le _) ?_ (m.stay fun c hc o e => oth c o (Nat.ne_of_lt (lt c hc)) (k1 c o e)) hS3 rfl ⟨List.nodup_nil, fun j T e => by cases e⟩ fun h' as' c' kept hS' hlen got => ?_⟩
  · show n0 ≤ h4.objs.size
    omega
  show wpAny _ A (load s.heap.objs.size >>= _) _ _ _
  refine wpAny_bind (wpAny_load hS' ?_)
  refine wpAny_pure ?_
  exact hQ h' as' (fun c o c1 c2 c3 c4 e => kept c o (Nat.ne_of_lt (Heap.lt_size e)) c1 c2 c3 c4 (oth c o (Nat.ne_of_lt (Heap.lt_size e)) (k1 c o e))) hlen got
end
/-- the iterator over a list (true) or a tuple (false) -/
abbrev itO (b : Bool) (l : Addr) : Obj := { cls := .type (if b then "list_iterator" else "tuple_iterator"), data := .fields #[.ref l, .int 0 0] }
section
variable {prog : Program} {w : World} {A : Around} {E : Value → Shared → Prop} {s : Shared}
theorem pyIter_sq {b : Bool} {l : Addr} {xs : Array Value} {Q : Value → Shared → Prop} (h : SqOn b s.heap l xs) (hQ : Q (.ref s.heap.objs.size) { s with heap := s.heap.push (itO b l) }) : wpAny (model prog w) A (pyIter (.ref l)) Q E s := by
  cases b
  · exact wpAny_pyIter_tuple h hQ
  · exact wpAny_pyIter_list h hQ
theorem itO_on {b : Bool} {h : Heap} {it l : Addr} (e : h.get? it = some (itO b l)) : ItOn b h it l 0 := by
  cases b
  · exact ⟨_, e, rfl, rfl⟩
  · exact ⟨_, e, rfl, rfl⟩
end
abbrev zH1 (b1 : Bool) (h : Heap) (l1 : Addr) : Heap := h.push (itO b1 l1)
abbrev zH2 (b1 b2 : Bool) (h : Heap) (l1 l2 : Addr) : Heap := (zH1 b1 h l1).push (itO b2 l2)
abbrev zH3 (b1 b2 : Bool) (h : Heap) (l1 l2 : Addr) : Heap := (zH2 b1 b2 h l1 l2).push { cls := .type "tuple", data := .seq #[.ref h.objs.size, .ref (zH1 b1 h l1).objs.size] }
abbrev zH4 (b1 b2 : Bool) (h : Heap) (l1 l2 : Addr) : Heap := (zH3 b1 b2 h l1 l2).push { cls := .type "tuple", data := .seq #[.none, .none] }
abbrev zH5 (b1 b2 : Bool) (h : Heap) (l1 l2 : Addr) : Heap := (zH4 b1 b2 h l1 l2).push { cls := .type "zip", data := .fields #[.none, .bool false, .bool false, .ref (zH2 b1 b2 h l1 l2).objs.size, .ref (zH3 b1 b2 h l1 l2).objs.size] }
theorem meets_new (b1 b2 : Bool) (l1 l2 : Addr) (xs ys : Array Value) :
    Meets (Builtin.«zip.__new__» ⟨[.type "zip", .ref l1, .ref l2], []⟩) (fun _ R s => SqOn b1 s.heap l1 xs ∧ SqOn b2 s.heap l2 ys ∧
      R (.ok (.ret (.ref (zH4 b1 b2 s.heap l1 l2).objs.size))) { s with heap := zH5 b1 b2 s.heap l1 l2 }) :=
  .of_wp fun prog w A R s h => by
    obtain ⟨hp, g, d, tk, os⟩ := s
    obtain ⟨q1, q2, h⟩ := h
    have hsub := sub_zip
    have Q1 : SqOn b1 (Shared.heap ⟨hp, g, d, tk, os⟩) l1 xs := q1
    have Q2 : SqOn b2 (Shared.heap ⟨hp.push (itO b1 l1), g, d, tk, os⟩) l2 ys := SqOn.stay q2 fun o e => Heap.get?_push_of_some _ e
    wp_walk using pyIter_sq Q1, pyIter_sq Q2
    exact ⟨_, rfl, h⟩
section
variable {prog : Program} {w : World} {A : Around} {E : Value → Shared → Prop} {s : Shared} {b1 b2 : Bool} {l1 l2 : Addr} {xs ys : Array Value}
theorem call_zip {Q : Value → Shared → Prop} (q1 : SqOn b1 s.heap l1 xs) (q2 : SqOn b2 s.heap l2 ys)
    (h : ∀ h', IsZip h' (s.heap.objs.size + 4) (s.heap.objs.size + 2) (s.heap.objs.size + 3) .none → Mid b1 b2 (s.heap.objs.size + 4) (s.heap.objs.size + 2) (s.heap.objs.size + 3) s.heap.objs.size (s.heap.objs.size + 1) l1 l2 xs ys 0 h' → h'.objs.size = s.heap.objs.size + 5 →
      (∀ c o, s.heap.get? c = some o → h'.get? c = some o) → Q (.ref (s.heap.objs.size + 4)) { s with heap := h' }) :
    wpAny (model prog w) A (call (.type "zip") [.ref l1, .ref l2]) Q E s := by
  refine callType_new F.called_zip (by decide) (F.typeCall_zip_2 _ _) (F.newCall_zip_2 _ _) (fun obj => F.args_object_init_3 obj _ _) F.entry_zip_new
    (meets_new b1 b2 l1 l2 xs ys) ⟨q1, q2, ?_⟩
  have z1 : (zH1 b1 s.heap l1).objs.size = s.heap.objs.size + 1 := Heap.size_push ..
  have z2 : (zH2 b1 b2 s.heap l1 l2).objs.size = s.heap.objs.size + 2 := by rw [Heap.size_push, z1]
  have z3 : (zH3 b1 b2 s.heap l1 l2).objs.size = s.heap.objs.size + 3 := by rw [Heap.size_push, z2]
  have z4 : (zH4 b1 b2 s.heap l1 l2).objs.size = s.heap.objs.size + 4 := by rw [Heap.size_push, z3]
  have z5 : (zH5 b1 b2 s.heap l1 l2).objs.size = s.heap.objs.size + 5 := by rw [Heap.size_push, z4]
  have g5 : (zH5 b1 b2 s.heap l1 l2).get? (zH4 b1 b2 s.heap l1 l2).objs.size = some _ := Heap.get?_push_size _ rfl
  have g4 : (zH5 b1 b2 s.heap l1 l2).get? (zH3 b1 b2 s.heap l1 l2).objs.size = some _ := Heap.get?_push_of_some _ (Heap.get?_push_size _ rfl)
  have g3 : (zH5 b1 b2 s.heap l1 l2).get? (zH2 b1 b2 s.heap l1 l2).objs.size = some _ := Heap.get?_push_of_some _ (Heap.get?_push_of_some _ (Heap.get?_push_size _ rfl))
  have g2 : (zH5 b1 b2 s.heap l1 l2).get? (zH1 b1 s.heap l1).objs.size = some _ := Heap.get?_push_of_some _ (Heap.get?_push_of_some _ (Heap.get?_push_of_some _ (Heap.get?_push_size _ rfl)))
  have g1 : (zH5 b1 b2 s.heap l1 l2).get? s.heap.objs.size = some _ := Heap.get?_push_of_some _ (Heap.get?_push_of_some _ (Heap.get?_push_of_some _ (Heap.get?_push_of_some _ (Heap.get?_push_size _ rfl))))
  have up : ∀ c o, s.heap.get? c = some o → (zH5 b1 b2 s.heap l1 l2).get? c = some o := fun c o x =>
    Heap.get?_push_of_some _ (Heap.get?_push_of_some _ (Heap.get?_push_of_some _ (Heap.get?_push_of_some _ (Heap.get?_push_of_some _ x))))
  show _ ∧ _
  rw [z2, z3, z4] at g5
  rw [z1, z2] at g3
  rw [z3] at g4
  rw [z1] at g2
  rw [z4]
  exact ⟨⟨_, g5, rfl⟩, h _ g5 ⟨⟨_, _, g5, .inl rfl⟩, g3, ⟨_, _, g4⟩, itO_on g1, itO_on g2, q1.stay fun o e => up _ _ e, q2.stay fun o e => up _ _ e⟩ z5 up⟩
end
end ZS

set_option Elab.async false
set_option linter.all false
set_option maxRecDepth 100000
set_option maxHeartbeats 2000000
namespace DL
open PySem PySem.Spec PyProof.Rows L2
/-- pairs tracked at their addresses -/
def putP : Hp → List Addr → List V → List V → Hp
  | H, a :: as, x :: xs, y :: ys => putP (upd H a (.tup [x, y])) as xs ys
  | H, _, _, _ => H
theorem putP_off {b : Addr} : ∀ (as : List Addr) (xs ys : List V) (H : Hp), b ∉ as → putP H as xs ys b = H b
  | [], _, _, _, _ => rfl
  | _ :: _, [], _, _, _ => rfl
  | _ :: _, _ :: _, [], _, _ => rfl
  | a :: as, x :: xs, y :: ys, H, h => by
    show putP (upd H a (.tup [x, y])) as xs ys b = H b
    rw [putP_off as xs ys _ (fun z => h (List.mem_cons_of_mem _ z)), upd_ne (fun z => h (by rw [z]; exact List.mem_cons_self))]
theorem putP_at {b : Addr} : ∀ (as : List Addr) (xs ys : List V) (H : Hp), as.Nodup → as.length = min xs.length ys.length → b ∈ as → ∃ (j : Nat) (x y : V), as[j]? = some b ∧ xs[j]? = some x ∧ ys[j]? = some y ∧ putP H as xs ys b = some (.tup [x, y])
  | [], _, _, _, _, _, h => by cases h
  | _ :: _, [], _, _, _, e, _ => by simp at e
  | _ :: _, _ :: _, [], _, _, e, _ => by simp at e
  | a :: as, x :: xs, y :: ys, H, hn, e, h => by
    have hn' := List.nodup_cons.mp hn
    by_cases q : b = a
    · subst q
      refine ⟨0, x, y, rfl, rfl, rfl, ?_⟩
      show putP (upd H b (.tup [x, y])) as xs ys b = _
      rw [putP_off as xs ys _ hn'.1, upd_same]
    · have hm : b ∈ as := (List.mem_cons.mp h).resolve_left q
      obtain ⟨j, u, v, e1, e2, e3, e4⟩ := putP_at as xs ys (upd H a (.tup [x, y])) hn'.2 (by simp only [List.length_cons] at e; omega) hm
      exact ⟨j + 1, u, v, by simpa using e1, by simpa using e2, by simpa using e3, e4⟩
theorem frz_pairs : ∀ (as : List Addr) (xs ys : List V) (ds es : List D) (F H : Hp), Le F H → as.Nodup → (∀ t ∈ as, H t = none) → RpAll F xs ds → RpAll F ys es → as.length = min xs.length ys.length →
    ∃ F', Gr F H F' (putP H as xs ys) ∧ RpAll F' (as.map V.ref) (zipD ds es)
  | [], xs, ys, ds, es, F, H, l, _, _, r1, r2, e => by
    have h0 : (zipD ds es).length = 0 := by rw [zipD_len, ← r1.length, ← r2.length]; simpa using e.symm
    rw [List.length_eq_zero_iff.mp h0]
    exact ⟨F, Gr.refl l, .nil⟩
  | _ :: _, [], _, _, _, _, _, _, _, _, _, _, e => by simp at e
  | _ :: _, _ :: _, [], _, _, _, _, _, _, _, _, _, e => by simp at e
  | a :: as, x :: xs, y :: ys, ds, es, F, H, l, hn, hf, r1, r2, e => by
    have hn' := List.nodup_cons.mp hn
    cases r1 with
    | cons p1 r1 =>
      cases r2 with
      | cons p2 r2 =>
        obtain ⟨F1, g1, q1⟩ := frz_pair l (hf a (by simp)) p1 p2
        obtain ⟨F2, g2, q2⟩ := frz_pairs as xs ys _ _ F1 (upd H a (.tup [x, y])) g1.s hn'.2 (fun t ht => by
          rw [upd_ne (fun z => hn'.1 (by rw [← z]; exact ht))]
          exact hf t (by simp [ht])) (r1.mono g1.f) (r2.mono g1.f) (by simp only [List.length_cons] at e; omega)
        exact ⟨F2, g1.trans g2, .cons (q1.mono g2.f) q2⟩
section
variable {X : Cx} {pins : List (Addr × Obj)} {σ : L2.St} {H : Hp} {s : Shared}
theorem lay_pairs {h' : Heap} {as : List Addr} {xs ys : List V} {us ws : List Value} (I : Inv X pins σ H s) (r1 : Vals xs us) (r2 : Vals ys ws) (nd : as.Nodup) (hl : as.length = min xs.length ys.length)
    (hk : ∀ b o, s.heap.get? b = some o → h'.get? b = some o) (hn : ∀ t ∈ as, s.heap.objs.size ≤ t)
    (hat : ∀ (j : Nat) (T : Addr), as[j]? = some T → ∃ u w, us[j]? = some u ∧ ws[j]? = some w ∧ IsPair h' T u w) :
    Inv X pins σ (putP H as xs ys) { s with heap := h' } := by
  have new : ∀ t ∈ as, H t = none := fun t ht => I.hok.fresh (hn t ht)
  have kp : ∀ b u, H b = some u → putP H as xs ys b = some u := fun b u e => by
    rw [putP_off as xs ys H (fun z => by rw [new b z] at e; cases e)]
    exact e
  have low : ∀ b o, s.heap.get? b = some o → b ∉ as := fun b o e z => absurd (Heap.lt_size e) (Nat.not_lt.mpr (hn b z))
  refine I.un (t' := s.toks) ⟨fun b o q _ _ _ => hk b o q, fun b o q _ _ _ => ⟨o.slots, hk b o q⟩, fun b o q n _ => ?_, fun b o q _ => ⟨o, hk b o q⟩, fun b xs q => kp b _ q, fun b o u q => kp b _ q, fun b ps q => ⟨#[], by rw [kp b _ q]; simp⟩⟩ (fun b u q => ?_)
  · rw [putP_off as xs ys H (low b o q)]
    exact n
  · by_cases hb : b ∈ as
    · obtain ⟨j, x, y, e1, e2, e3, e4⟩ := putP_at as xs ys H nd hl hb
      rw [e4] at q
      cases q
      obtain ⟨u, w, f1, f2, f3⟩ := hat j b e1
      obtain ⟨u', g1, g2⟩ := LiI.paired_get r1 e2
      obtain ⟨w', g3, g4⟩ := LiI.paired_get r2 e3
      rw [f1] at g1
      rw [f2] at g3
      cases g1
      cases g3
      exact ⟨by show 2 ≤ sizeLine; decide, [u, w], .cons g2 (.cons g4 .nil), ⟨_, f3, rfl, _, rfl⟩⟩
    · rw [putP_off as xs ys H hb] at q
      exact (I.hok b u q).stay (fun d v _ y => hk d v y) (fun d y => kp d _ y) fun d xs y => kp d _ y
theorem sq_get {a : Addr} {vs : List V} (I : Inv X pins σ H s) (h : SqL X.K H a vs ∨ SqT X.K H a vs) : ∃ b its, Vals vs its ∧ ZS.SqOn b s.heap a its.toArray ∧ vs.length ≤ sizeLine := by
  rcases h with h | h
  · obtain ⟨its, r, p, z⟩ := I.list h
    exact ⟨true, its, r, p.isList, z⟩
  · obtain ⟨its, r, p, z⟩ := I.tuple h
    exact ⟨false, its, r, p, z⟩
end
section
variable {X : Cx} {e e1 e2 : Expr} {es : List Expr} {p pos p2 : Pos} {f g fs : Rho → Option (List D)}
@[simp] def kZip2 (f g : Rho → Option (List D)) (ρ : Rho) : Option (List D) := (f ρ).bind fun xs => (g ρ).bind fun ys => some (zipD xs ys)
theorem DA.starZip (hg : Gl X "zip") (hm : X.mg "zip" = none) (h1 : DQ X e1 f) (h2 : DQ X e2 g) (t : DA X es fs) (hc : X.calm = true := by rfl)
    (hs : starEach (.Starred (.Call (.Name "zip" p) [e1, e2] [] pos) p2 :: es) X.env = (true, eval (.Call (.Name "zip" p) [e1, e2] [] pos) X.env) :: starEach es X.env := by rfl)
    (hs1 : starEach [e1, e2] X.env = (false, eval e1 X.env) :: starEach [e2] X.env := by rfl) (hs2 : starEach [e2] X.env = (false, eval e2 X.env) :: starEach [] X.env := by rfl) (hpl : (backTo pos (starEach [e2] X.env)).any (·.1) = false := by rfl) :
    DA X (.Starred (.Call (.Name "zip" p) [e1, e2] [] pos) p2 :: es) (kStar (kZip2 f g) fs) := by
  refine ⟨fun pos' pins s σ H Q I ⟨F, ρ, r, E, ef, q⟩ => ?_⟩
  obtain ⟨zs, ez, ef⟩ := bind_some ef
  obtain ⟨rs, er, ef⟩ := bind_some ef
  cases ef
  obtain ⟨xs, e1', ez⟩ := bind_some ez
  obtain ⟨ys, e2', ez⟩ := bind_some ez
  cases ez
  have ha := pa_cons h1 (pa_cons h2 pa_nil hs2) hs1
  refine PySem.W.items_star ?_ hs
  refine Call_ (ld_blt I hg hm PyProof.Rows.boot_zip (PyProof.Rows.callWith_type1 (thn (ha.run pos pins s σ H (fun vs H1 => ∃ a b xs1 ys1 F1, vs = [.ref a, .ref b] ∧ Gr F H F1 H1 ∧ (SqL X.K H1 a xs1 ∨ SqT X.K H1 a xs1) ∧ (SqL X.K H1 b ys1 ∨ SqT X.K H1 b ys1) ∧ RpAll F1 xs1 xs ∧ RpAll F1 ys1 ys) I ?_) fun us s1 ⟨vs, H1, I1, rv, a, b, xs1, ys1, F1, ev, g1, q1, q2, r1, r2⟩ => ?_) hs1 hpl))
  · refine ⟨F, ρ, xs, E, e1', fun a vs F1 H1 g1 h1 r1 => ?_⟩
    refine ⟨F1, ρ, ys, E.gr g1, e2', fun b us F2 H2 g2 h2 r2 => ?_⟩
    refine ⟨a, b, vs, us, F2, rfl, g1.trans g2, ?_, h2.sq, r1.mono g2.f, r2⟩
    rcases h1 with h1 | h1
    · exact .inl (SqL.of (g2.h _ _ h1))
    · exact .inr (SqT.of (g2.h _ _ h1))
  subst ev
  obtain ⟨b1, us1, v1, s1', z1⟩ := sq_get I1 q1
  obtain ⟨b2, us2, v2, s2', z2⟩ := sq_get I1 q2
  have lA : xs1.length = us1.length := Paired.length v1
  have lB : ys1.length = us2.length := Paired.length v2
  cases rv with
  | cons ra rv =>
    cases rv with
    | cons rb rv =>
      cases rv
      cases ra
      cases rb
      have D := PySem.W.ktu_apart s1.heap.objs.size a b (by obtain ⟨o, ho⟩ := s1'.has; exact Heap.lt_size ho) (by obtain ⟨o, ho⟩ := s2'.has; exact Heap.lt_size ho)
      refine ZS.call_zip s1' s2' fun h' hz m hsz hk => ?_
      have hT : ({ s1 with heap := h' } : Shared).TypeIs (.ref (s1.heap.objs.size + 4)) "zip" := ⟨_, hz, rfl⟩
      unfold PySem.W.StarOf notIterableAtAll
      refine wpAny_bind (wpAny_specialOf hT PySem.F.slot_zip_iter.lookup (wpAny_pure ⟨rfl, ?_⟩))
      refine ZS.collect_zip (n0 := s1.heap.objs.size) (I1.ok.hd hc) D (by rw [List.size_toArray, List.size_toArray]; omega) hz m (by show s1.heap.objs.size ≤ h'.objs.size; omega) fun h'' as kept hlen got => ?_
      have hk2 : ∀ c o, s1.heap.get? c = some o → h''.get? c = some o := fun c o e => by
        have q := Heap.lt_size e
        have up : ∀ n : Nat, c < s1.heap.objs.size + n := fun n => Nat.lt_of_lt_of_le q (Nat.le_add_right _ _)
        exact kept c o (Nat.ne_of_lt (up 4)) (Nat.ne_of_lt (up 3)) (Nat.ne_of_lt (up 0)) (Nat.ne_of_lt (up 1)) (hk c o e)
      have hlen' : as.length = min xs1.length ys1.length := by rw [hlen, List.size_toArray, List.size_toArray]; omega
      have hnew : ∀ t ∈ as, s1.heap.objs.size ≤ t := fun t ht => by
        obtain ⟨j, hj⟩ := List.getElem?_of_mem ht
        exact (got.2 j t hj).1
      have I2 := lay_pairs (h' := h'') I1 v1 v2 got.1 hlen' hk2 hnew fun j T e => by
        obtain ⟨_, x, y, e1, e2, e3, _⟩ := got.2 j T e
        exact ⟨x, y, by simpa using e1, by simpa using e2, e3⟩
      obtain ⟨F2, g2, r3⟩ := frz_pairs as xs1 ys1 xs ys F1 H1 g1.s got.1 (fun t ht => I1.hok.fresh (hnew t ht)) r1 r2 hlen'
      exact thn (t.run pos' pins _ σ _ _ I2 ⟨F2, ρ, rs, E.gr (g1.trans g2), er, fun vs F3 H3 g3 r4 => q _ F3 H3 ((g1.trans g2).trans g3) ((r3.mono g3.f).append r4)⟩) fun ws s3 ⟨vs, H3, I3, r5, q3⟩ => ⟨as.map V.ref ++ vs, H3, I3, (LiI.vals_refs as).append r5, q3⟩
end
end DL

set_option Elab.async false
set_option linter.all false
set_option maxRecDepth 100000
set_option maxHeartbeats 2000000
namespace DL
open PySem PySem.Spec L2
section
variable {wx : Hp → Str → Int → Prop} {X : Cx} {i : Nat} {e : Expr} {pos : Pos}
/-- x[k] = d, on the slots -/
def putAt (i : Nat) (g : Rho → Option D) (d : D) (ρ : Rho) : Option Rho := match ρ[i]? with
  | some (.ow xs) => (g ρ).bind fun k => match k with
    | .int k => (ixN xs.length k).bind fun j => some (ρ.set i (.ow (xs.set j d)))
    | _ => none
  | _ => none
/-- x[k], x[l] = e, the pair e written or not -/
@[simp] def zPut2 (i : Nat) (f g g' : Rho → Option D) (ρ : Rho) : Option Fl := (f ρ).bind fun d => match d with
  | .tuple [d1, d2] => (putAt i g d1 ρ).bind fun ρ1 => (putAt i g' d2 ρ1).bind fun ρ2 => some (.nx ρ2)
  | _ => none
theorem put_w {F0 H0 F H : Hp} {σ : L2.St} {ρ ρ1 : Rho} {g : Rho → Option D} {d : D} {v : V} (S : StOk F0 H0 F H σ ρ) (r1 : Rp F v d) (ep : putAt i g d ρ = some ρ1) (Q : L2.St → Hp → Prop)
    (q : ∀ F' H', StOk F0 H0 F' H' σ ρ1 → Le F F' → Q σ H') : L2.gSub (tVar i) (tE g) rSetL v σ H Q := by
  unfold putAt at ep
  split at ep
  · rename_i xs hx
    obtain ⟨kd, e2, ep⟩ := bind_some ep
    split at ep
    · obtain ⟨j, e3, ep⟩ := bind_some ep
      cases ep
      obtain ⟨o, h1, a, vs, rfl, hf, hh, r⟩ := S.env.sl _ _ hx
      refine ⟨_, h1, F, ρ, _, S.env, e2, fun u F2 H2 g2 r2 => ?_⟩
      cases r2
      have S2 := S.gro g2
      refine ⟨a, vs, _, j, rfl, rfl, g2.h _ _ hh, by rw [r.length]; exact e3, ?_⟩
      exact q F2 _ (S2.mut hx rfl rfl h1 ⟨a, _, rfl, (S2.env.own_at hx rfl h1).1, upd_same, (r.mono g2.f).set (r1.mono g2.f) j⟩) g2.f
    · cases ep
  · cases ep
theorem DS.put2 {o k o' k' : Expr} {f g g' : Rho → Option D} {tpos tpos' tp : Pos} {kt : Nat} (hc : X.calm = true) (he : DE X e f) (ho : PE X o (tVar i)) (hk : DE X k g) (ho' : PE X o' (tVar i)) (hk' : DE X k' g')
    (ha : ∀ v, assign (.Subscript o k tpos) X.env v = (do
      let ov ← holding [v] (eval o X.env)
      let iv ← holding [v, ov] (eval k X.env)
      standAt tpos
      holding [v, ov, iv] (setItem ov iv v)
      release [v, ov, iv] []) := by intro _; rfl)
    (ha' : ∀ v, assign (.Subscript o' k' tpos') X.env v = (do
      let ov ← holding [v] (eval o' X.env)
      let iv ← holding [v, ov] (eval k' X.env)
      standAt tpos'
      holding [v, ov, iv] (setItem ov iv v)
      release [v, ov, iv] []) := by intro _; rfl)
    (hs : swapsWithSole [.Tuple [.Subscript o k tpos, .Subscript o' k' tpos'] kt tp] e pos.line X.env = pure false := by rfl)
    (hw : swappedStores [.Tuple [.Subscript o k tpos, .Subscript o' k' tpos'] kt tp] e X.env = pure none := by rfl)
    (h1 : (assignEach [.Tuple [.Subscript o k tpos, .Subscript o' k' tpos'] kt tp] X.env).map (·.2) = [assign (.Tuple [.Subscript o k tpos, .Subscript o' k' tpos'] kt tp) X.env] := by rfl)
    (hs1 : (assignEach [.Subscript o k tpos, .Subscript o' k' tpos'] X.env).map (·.2) = assign (.Subscript o k tpos) X.env :: (assignEach [.Subscript o' k' tpos'] X.env).map (·.2) := by rfl)
    (hs2 : (assignEach [.Subscript o' k' tpos'] X.env).map (·.2) = assign (.Subscript o' k' tpos') X.env :: (assignEach [] X.env).map (·.2) := by rfl)
    (hn : (assignEach [.Subscript o k tpos, .Subscript o' k' tpos'] X.env).length = 2 := by rfl) (hst : (assignEach [.Subscript o k tpos, .Subscript o' k' tpos'] X.env).findIdx? (·.1) = none := by rfl) :
    DS wx X (.Assign [.Tuple [.Subscript o k tpos, .Subscript o' k' tpos'] kt tp] e pos) (zPut2 i f g g') :=
  (ps_asg he (pg_tup hc (pgs_cons (pg_sub ho hk set_list ha) (pgs_cons (pg_sub ho' hk' set_list ha') pgs_nil hs2) hs1) hn hst) hs hw h1).w fun Z σ H ⟨F0, H0, F, ρ, fl, S, ef, q⟩ => by
  obtain ⟨d, e1, ef⟩ := bind_some ef
  split at ef
  · obtain ⟨ρ1, e2, ef⟩ := bind_some ef
    obtain ⟨ρ2, e3, ef⟩ := bind_some ef
    cases ef
    refine ⟨F, ρ, _, S.env, e1, fun v F1 H1 g1 r1 => ?_⟩
    have S1 := S.gro g1
    cases r1 with
    | tup h2 h3 =>
      cases h3 with
      | cons r1 h3 =>
        cases h3 with
        | cons r2 h3 =>
          cases h3
          refine ⟨_, _, rfl, SqT.of (g1.s _ _ h2), rfl, _, _, rfl, ?_⟩
          refine put_w S1 r1 e2 _ fun F2 H2 S2 l2 => ?_
          refine ⟨_, _, rfl, ?_⟩
          refine put_w S2 (r2.mono l2) e3 _ fun F3 H3 S3 l3 => ?_
          exact ⟨rfl, q σ F3 H3 S3⟩
  · cases ef
end

/-! ### sorted, by insertion: it can be reckoned -/
def insB {α : Type} (le : α → α → Bool) (x : α) : List α → List α
  | [] => [x]
  | y :: ys => if le x y = true then x :: y :: ys else y :: insB le x ys
def isort {α : Type} (le : α → α → Bool) : List α → List α
  | [] => []
  | x :: xs => insB le x (isort le xs)
theorem insB_at {α : Type} {le : α → α → Bool} (x : α) : ∀ (l1 l2 : List α), (∀ b ∈ l1, (!le x b) = true) → (∀ b ∈ l2, le x b = true) → insB le x (l1 ++ l2) = l1 ++ x :: l2
  | [], [], _, _ => rfl
  | [], y :: l2, _, h => by
    show (if le x y = true then _ else _) = _
    rw [if_pos (h y List.mem_cons_self)]; rfl
  | y :: l1, l2, h, h2 => by
    have e : le x y = false := by simpa using h y List.mem_cons_self
    show (if le x y = true then _ else y :: insB le x (l1 ++ l2)) = _
    rw [if_neg (by rw [e]; exact Bool.false_ne_true), insB_at x l1 l2 (fun b hb => h b (List.mem_cons_of_mem _ hb)) h2]; rfl
theorem isort_eq {α : Type} {le : α → α → Bool} (tr : ∀ a b c, le a b = true → le b c = true → le a c = true) (to : ∀ a b, (le a b || le b a) = true) : ∀ l : List α, l.mergeSort le = isort le l
  | [] => by simp [isort]
  | x :: l => by
    obtain ⟨l1, l2, h1, h2, h3⟩ := List.mergeSort_cons (le := le) tr to x l
    have hp := List.pairwise_mergeSort (le := le) tr to (x :: l)
    rw [h1] at hp
    have hp2 := (List.pairwise_append.mp hp).2.1
    rw [List.pairwise_cons] at hp2
    rw [h1]
    show _ = insB le x (isort le l)
    rw [← isort_eq tr to l, h2]
    exact (insB_at x l1 l2 h3 hp2.1).symm
abbrev dLe : D → D → Bool := PySem.W.dataLe false id
theorem dLe_tot : PySem.W.TotalLe dLe := PySem.W.sortLe_total _ _ _
theorem dLe_sort (l : List D) : l.mergeSort dLe = isort dLe l := isort_eq (fun a b c => dLe_tot.trans a b c) (fun a b => by rcases dLe_tot.total a b with h | h <;> simp [h]) l
def isTupC : D → Bool
  | .tuple (_ :: _) => true
  | _ => false
def isNoTup : D → Bool
  | .none => false
  | .tuple _ => false
  | _ => true
def sortable1 (ds : List D) : Bool := ds.all isTupC || ds.all isNoTup
theorem isTupC_ok {d : D} (h : isTupC d = true) : ∃ x r, d = .tuple (x :: r) := by
  unfold isTupC at h
  split at h
  · exact ⟨_, _, rfl⟩
  · cases h
theorem isNoTup_ok {d : D} (h : isNoTup d = true) : d ≠ .none ∧ ∀ xs, d ≠ .tuple xs := by
  refine ⟨fun z => ?_, fun xs z => ?_⟩ <;> subst z <;> cases h
theorem sortable1_ok {ds : List D} (h : sortable1 ds = true) : PySem.W.Sortable ds := by
  unfold sortable1 at h
  rcases Bool.or_eq_true_iff.mp h with h | h
  · exact .inl fun d hd => isTupC_ok (List.all_eq_true.mp h d hd)
  · exact .inr fun d hd => isNoTup_ok (List.all_eq_true.mp h d hd)
def alikes (ds : List D) : Bool := ds.all fun d => ds.all fun e => PySem.W.alike d e
def gSortedC (ds : List D) : Option Rv := if (alikes ds && sortable1 ds && decide (ds.length ≤ line) && ds.all fun d => decide (d.depth ≤ 60)) = true then some (.ow (isort dLe ds)) else none
theorem gSortedC_ok {ds : List D} {r : Rv} (h : gSortedC ds = some r) : gSorted ds = some r := by
  unfold gSortedC at h
  split at h
  · rename_i hc
    simp only [Bool.and_eq_true, decide_eq_true_eq, List.all_eq_true, alikes] at hc
    unfold gSorted
    rw [if_pos ⟨fun d hd e he => hc.1.1.1 d hd e he, sortable1_ok hc.1.1.2, hc.1.2, fun d hd => hc.2 d hd⟩, ← h]
    show some (Rv.ow (ds.mergeSort dLe)) = _
    rw [dLe_sort]
  · cases h
theorem cl_sortedC {K : PySem.W.Frag} : CallL (rSortedA K) gSortedC := fun F H a vs ds z l h r e Q q => cl_sorted F H a vs ds z l h r (gSortedC_ok e) Q q
end DL

set_option Elab.async false
set_option linter.all false
set_option maxRecDepth 100000
set_option maxHeartbeats 2000000
namespace DL
open PySem PySem.Spec L2
/-! ### a Hook with one fact more -/
abbrev AlG : Type := He.AlD × Bool
def obsE (fa : List He.Fa) (fn : List He.DefD) (ex : PySem.W.Frag → Bool) (K : PySem.W.Frag) : AlG := (He.obsD fa fn K, ex K)
def obsEG (n : Nat) (fa : List He.Fa) (fn : List He.DefD) (ex : PySem.W.Frag → Bool) (g : Addr → Option Obj) : AlG := obsE fa fn ex (He.frG g (He.asD g n))
def hookE (n : Nat) (fa : List He.Fa) (fn : List He.DefD) (ex : PySem.W.Frag → Bool) : PySem.W.Hook where
  α := AlG
  obs := fun s => obsEG n fa fn ex s.heap.get?
  val := fun _ => (He.valD fn, true)
  says := fun _ h => ∃ K : PySem.W.Frag, K.In h ∧ He.SaysD fa fn K ∧ ex K = true
  of := fun _ _ e => ⟨_, He.frG_in, congrArg (fun z : AlG => z.1) e, congrArg (fun z : AlG => z.2) e⟩
  keeps := fun _ _ _ ⟨K, hK, c⟩ k => ⟨K, PySem.W.Frag.In.keeps hK k, c⟩
theorem obsEG_eq {n : Nat} {fa : List He.Fa} {fn : List He.DefD} {ex : PySem.W.Frag → Bool} {g : Addr → Option Obj} {s : Shared} (h : ∀ a, g a = s.heap.get? a) : obsEG n fa fn ex g = (hookE n fa fn ex).obs s := by
  have e : g = s.heap.get? := funext h
  rw [e] <;> rfl
end DL

set_option Elab.async false
set_option linter.all false
set_option maxRecDepth 100000
set_option maxHeartbeats 2000000
/-! ### zip of any two sequences, walked -/
namespace ZS
open PySem PySem.Spec PyProof.Rows L2
def SqB (K : PySem.W.Frag) : Bool → Hp → Addr → List V → Prop
  | true, H, a, xs => SqL K H a xs
  | false, H, a, xs => SqT K H a xs
section
variable {X : Cx} {pins : List (Addr × Obj)} {σ : L2.St} {H : Hp} {s : Shared}
theorem sqB_get {b : Bool} {a : Addr} {xs : List V} (I : Inv X pins σ H s) (h : SqB X.K b H a xs) : ∃ its, Vals xs its ∧ SqOn b s.heap a its.toArray := by
  cases b
  · obtain ⟨its, r, p, _⟩ := I.tuple h
    exact ⟨its, r, p⟩
  · obtain ⟨its, r, p, _⟩ := I.list h
    exact ⟨its, r, p.isList⟩
theorem sqB_inj {b : Bool} {a : Addr} {xs ys : List V} (I : Inv X pins σ H s) (h : SqB X.K b H a xs) (h' : SqB X.K b H a ys) : xs = ys := by
  cases b
  · exact I.tuple_inj h h'
  · exact I.list_inj h h'
end
/-- what a zip keeps of its own, in the midst of its walk -/
structure Own (b1 b2 : Bool) (z TI TO i1 i2 l1 l2 : Addr) (k : Nat) (h : Heap) : Prop where
  zat : ∃ f0 f1, ZAt h z TI TO f0 f1 ∧ (f0 = .none ∨ ∃ a, f0 = rawInt a)
  ti : IsPair h TI (.ref i1) (.ref i2)
  to : ∃ a b, IsPair h TO a b
  it1 : ItOn b1 h i1 l1 k
  it2 : ItOn b2 h i2 l2 k
def ItM (K : PySem.W.Frag) (b1 b2 : Bool) (a b : Addr) : It :=
  ⟨fun i H => ∃ (xs ys : List V) (x y : V), SqB K b1 H a xs ∧ SqB K b2 H b ys ∧ xs[i]? = some x ∧ ys[i]? = some y,
    fun i H v H' => ∃ T x y, v = .ref T ∧ H T = none ∧ H' = upd H T (.tup [x, y]) ∧ (∀ xs, SqB K b1 H a xs → xs[i]? = some x) ∧ ∀ ys, SqB K b2 H b ys → ys[i]? = some y,
    fun i H => ∃ xs ys : List V, SqB K b1 H a xs ∧ SqB K b2 H b ys ∧ (xs.length ≤ i ∨ ys.length ≤ i)⟩
theorem own_go {prog : Program} {w : World} {A : Around} {E : Value → Shared → Prop} {s : Shared} {b1 b2 : Bool} {z TI TO i1 i2 l1 l2 T : Addr} {k : Nat} {elts : List Expr} {kk : Nat} {pos : Pos} {Q : Unit → Shared → Prop}
    (D : ZipApart z TI TO i1 i2 l1 l2) (m : Own b1 b2 z TI TO i1 i2 l1 l2 k s.heap) (q : ∀ h', Own b1 b2 z TI TO i1 i2 l1 l2 k h' → Heap.SameBut z s.heap h' → Q () { s with heap := h' }) :
    wpAny (model prog w) A (letOwnedTupleGo (.Tuple elts kk pos) (.ref z) (.ref T)) Q E s := by
  obtain ⟨⟨f0, f1, hz, hf⟩, hTI, ⟨a, b, hTO⟩, h1, h2⟩ := m
  unfold letOwnedTupleGo
  refine wpAny_bind (wpAny_load hz ?_)
  dsimp only
  split
  · refine wpAny_bind (wpAny_rule ?_)
    refine wpAny_setField_rec hz (by simp) fun h' hz' sb => q h' ⟨⟨.none, f1, hz', .inl rfl⟩, ?_, ⟨a, b, ?_⟩, ?_, ?_⟩ sb
    · exact sb.extBut _ _ D.TIz hTI
    · exact sb.extBut _ _ D.TOz hTO
    · exact h1.stay fun o e => sb.extBut _ _ D.i1z e
    · exact h2.stay fun o e => sb.extBut _ _ D.i2z e
  · exact wpAny_pure (q s.heap ⟨⟨f0, f1, hz, hf⟩, hTI, ⟨a, b, hTO⟩, h1, h2⟩ ⟨rfl, fun _ _ => rfl⟩)
theorem turn_own {P : Program} {w : World} {K : PySem.W.Frag} {elts : List Expr} {kk : Nat} {tpos : Pos} {b1 b2 : Bool} {a b z TI TO i1 i2 : Addr} (D : ZipApart z TI TO i1 i2 a b) :
    Turn P w K (.Tuple elts kk tpos) (ItM K b1 b2 a b) [z, TI, TO, i1, i2] z (fun i h => Own b1 b2 z TI TO i1 i2 a b i h) where
  mem := by simp
  obj := fun i h st c hc => by
    obtain ⟨⟨f0, f1, hz, hf⟩, hTI, ⟨x, y, hTO⟩, h1, h2⟩ := st
    simp only [List.mem_cons, List.not_mem_nil, or_false] at hc
    rcases hc with rfl | rfl | rfl | rfl | rfl
    · exact ⟨_, hz, fun v q => nomatch q⟩
    · exact ⟨_, hTI, fun v q => nomatch q⟩
    · exact ⟨_, hTO, fun v q => nomatch q⟩
    · cases b1 <;> obtain ⟨o, e, _, d⟩ := h1 <;> exact ⟨o, e, fun v q => by rw [d] at q; cases q⟩
    · cases b2 <;> obtain ⟨o, e, _, d⟩ := h2 <;> exact ⟨o, e, fun v q => by rw [d] at q; cases q⟩
  keep := fun i h h' st k => by
    obtain ⟨⟨f0, f1, hz, hf⟩, hTI, ⟨x, y, hTO⟩, h1, h2⟩ := st
    exact ⟨⟨f0, f1, k z (by simp) _ hz, hf⟩, k TI (by simp) _ hTI, ⟨x, y, k TO (by simp) _ hTO⟩, h1.stay fun o q => k i1 (by simp) o q, h2.stay fun o q => k i2 (by simp) o q⟩
  item := by
    intro X hP hw hK hc i pins s σ H E I hf st hg
    subst hP hw hK
    obtain ⟨xs, ys, x, y, qx, qy, hx, hy⟩ := hg
    obtain ⟨its, rv, p⟩ := sqB_get I qx
    obtain ⟨its2, rv2, p2⟩ := sqB_get I qy
    obtain ⟨u, hu, ru⟩ := rv.get hx
    obtain ⟨u2, hu2, ru2⟩ := rv2.get hy
    obtain ⟨⟨f0, f1, hz, hf0⟩, hTI, hTO, h1, h2⟩ := st
    have hzl : z < s.heap.objs.size := Heap.lt_size hz
    refine next_item D (m := ⟨⟨f0, f1, hz, hf0⟩, hTI, hTO, h1, h2, p, p2⟩) (x := u) (y := u2) (by simpa using hu) (by simpa using hu2) fun h' m' pr kept => ?_
    refine ⟨_, rfl, own_go (s := { s with heap := h' }) D ⟨m'.zat, m'.ti, m'.to, m'.it1, m'.it2⟩ fun h'' m'' sb => ?_⟩
    have pr2 : IsPair h'' s.heap.objs.size u u2 := (sb.2 _ (Nat.ne_of_gt hzl)).trans pr
    have ok : ObjOk X.prog X.w (upd H s.heap.objs.size (.tup [x, y])) h'' s.heap.objs.size (.tup [x, y]) :=
      ⟨by show 2 ≤ sizeLine; decide, [u, u2], .cons ru (.cons ru2 .nil), ⟨_, pr2, rfl, _, rfl⟩⟩
    have I1 : Inv X pins σ (upd H s.heap.objs.size (.tup [x, y])) { s with heap := h'' } := by
      refine I.turnedNew (t' := s.toks) (ch := [z, TI, TO, i1, i2]) (fun c o hb q => ?_) hf (Nat.le_refl _) ok
      simp only [List.mem_cons, List.not_mem_nil, or_false, not_or] at hb
      exact (sb.2 _ hb.1).trans (kept c o hb.1 hb.2.2.1 hb.2.2.2.1 hb.2.2.2.2 q)
    refine ⟨.ref s.heap.objs.size, _, I1, rfl, ⟨_, x, y, rfl, I.hok.fresh (Nat.le_refl _), rfl, fun l hl => ?_, fun l hl => ?_⟩, m'', fun c hcm => ?_⟩
    · rw [sqB_inj I hl qx]; exact hx
    · rw [sqB_inj I hl qy]; exact hy
    · have hlt : c < s.heap.objs.size := by
        simp only [List.mem_cons, List.not_mem_nil, or_false] at hcm
        obtain ⟨o1, e1⟩ := h1.has
        obtain ⟨o2, e2⟩ := h2.has
        obtain ⟨t1, t2, e3⟩ := hTO
        rcases hcm with rfl | rfl | rfl | rfl | rfl
        · exact hzl
        · exact Heap.lt_size hTI
        · exact Heap.lt_size e3
        · exact Heap.lt_size e1
        · exact Heap.lt_size e2
      rw [upd_ne (Nat.ne_of_lt hlt)]
      exact (hf c hcm).1
  done := by
    intro X hP hw hK hc i pins s σ H E I hf st hg
    subst hP hw hK
    obtain ⟨xs, ys, qx, qy, he⟩ := hg
    obtain ⟨its, rv, p⟩ := sqB_get I qx
    obtain ⟨its2, rv2, p2⟩ := sqB_get I qy
    have l1 := rv.length
    have l2 := rv2.length
    refine next_end (I.ok.hd hc) D ⟨st.zat, st.ti, st.to, st.it1, st.it2, p, p2⟩ ?_ fun h' kept => ⟨rfl, I.turnedL (t' := s.toks) (ch := [z, TI, TO, i1, i2]) (fun c o hb q => ?_) hf⟩
    · rcases he with q | q
      · exact .inl (by simp; omega)
      · exact .inr (by simp; omega)
    · simp only [List.mem_cons, List.not_mem_nil, or_false, not_or] at hb
      exact kept c o hb.1 hb.2.2.1 hb.2.2.2.1 hb.2.2.2.2 q
  self := fun A i s Q E st h => by
    obtain ⟨f0, f1, hz, hf⟩ := st.zat
    have hT : s.TypeIs (.ref z) "zip" := ⟨_, hz, rfl⟩
    refine wpAny_pyIter_slot hT F.slot_zip_iter (wpAny_call_entry F.slot_zip_iter hT F.entry_zip_iter ?_ (F.args_zip_iter_1 _))
    exact wpAny_pure ⟨_, rfl, "zip", _, hT, F.slot_zip_next.lookup, h⟩
def iZipM (K : PySem.W.Frag) (ta : TA) : TI := fun σ H R => ta σ H fun vs H1 => ∃ a b xs ys b1 b2, vs = [.ref a, .ref b] ∧ SqB K b1 H1 a xs ∧ SqB K b2 H1 b ys ∧ R (ItM K b1 b2 a b) H1
theorem pi_zipM {X : Cx} {e e2 : Expr} {ta : TA} {p pos tpos : Pos} {elts : List Expr} {kk : Nat} (hg : Gl X "zip") (hm : X.mg "zip" = none) (ha : PA X [e, e2] ta)
    (hs : starEach [e, e2] X.env = (false, eval e X.env) :: starEach [e2] X.env := by rfl) (hpl : (backTo pos (starEach [e2] X.env)).any (·.1) = false := by rfl) :
    PI X (.Tuple elts kk tpos) (.Call (.Name "zip" p) [e, e2] [] pos) (iZipM X.K ta) := by
  refine ⟨fun pins s σ H R I h => ?_⟩
  refine Call_ (ld_blt I hg hm PyProof.Rows.boot_zip (PyProof.Rows.callWith_type1 (thn (ha.run pos pins s σ H _ I h) fun us s1 ⟨vs, H1, I1, r1, q1⟩ => ?_) hs hpl))
  obtain ⟨a, b, xs, ys, b1, b2, rfl, qx, qy, q⟩ := q1
  have eu : us = [.ref a, .ref b] := by
    cases r1 with
    | cons r rr =>
      cases rr with
      | cons r' rr =>
        cases rr; cases r; cases r'
        rfl
  subst eu
  obtain ⟨its, rv, p1⟩ := sqB_get I1 qx
  obtain ⟨its2, rv2, p2⟩ := sqB_get I1 qy
  obtain ⟨o1, e1⟩ := p1.has
  obtain ⟨o2, e2'⟩ := p2.has
  refine call_zip p1 p2 fun h' hz m hsz up => wpAny_pyIter_zip hz ?_
  refine ⟨s1.heap.objs.size + 4, [s1.heap.objs.size + 4, s1.heap.objs.size + 2, s1.heap.objs.size + 3, s1.heap.objs.size, s1.heap.objs.size + 1], _, _, H1, rfl, I1.kept (t' := s1.toks) up,
    turn_own (PySem.W.ktu_apart s1.heap.objs.size a b (Heap.lt_size e1) (Heap.lt_size e2')), ⟨m.zat, m.ti, m.to, m.it1, m.it2⟩, fun c hc => ?_, q⟩
  have le : s1.heap.objs.size ≤ c := by
    simp only [List.mem_cons, List.not_mem_nil, or_false] at hc
    rcases hc with rfl | rfl | rfl | rfl | rfl
    · exact Nat.le_add_right _ _
    · exact Nat.le_add_right _ _
    · exact Nat.le_add_right _ _
    · exact Nat.le_refl _
    · exact Nat.le_add_right _ _
  exact I1.fpOk le (I1.hok.fresh le)
end ZS
namespace DL
open PySem PySem.Spec L2
def HoB (b : Bool) (vs : List V) : HO := if b = true then .lst vs else .tup vs
theorem sqB_of {K : PySem.W.Frag} {b : Bool} {H : Hp} {a : Addr} {vs : List V} (h : H a = some (HoB b vs)) : ZS.SqB K b H a vs := by
  cases b
  · exact SqT.of h
  · exact SqL.of h
theorem j_zipM {K : PySem.W.Frag} {C : Hp → Prop} {F0 : Hp} {b1 b2 : Bool} {a b : Addr} {vs us : List V} {xs ys : List D} (hc : ∀ F H, C H → Le F0 F → Le F H → H a = some (HoB b1 vs)) (hc2 : ∀ F H, C H → Le F0 F → Le F H → H b = some (HoB b2 us)) (r : RpAll F0 vs xs) (r2 : RpAll F0 us ys) : JOk (ZS.ItM K b1 b2 a b) C F0 (zipD xs ys) where
  go := fun i F H c l l2 hi => by
    rw [zipD_len] at hi
    obtain ⟨v, h1, _⟩ := r.get (List.getElem?_eq_getElem (by omega : i < xs.length))
    obtain ⟨u, h2, _⟩ := r2.get (List.getElem?_eq_getElem (by omega : i < ys.length))
    exact ⟨vs, us, v, u, sqB_of (hc F H c l l2), sqB_of (hc2 F H c l l2), h1, h2⟩
  stop := fun i F H c l l2 hi => ⟨vs, us, sqB_of (hc F H c l l2), sqB_of (hc2 F H c l l2), by rw [r.length, r2.length]; rw [zipD_len] at hi; omega⟩
  yld := fun i F H x H' d c l l2 hd ⟨T, x1, y1, e1, hT, e2, e3, e4⟩ => by
    subst e1; subst e2
    obtain ⟨z, w, h1, h2, rfl⟩ := zipD_get hd
    obtain ⟨v, h3, h4⟩ := r.get h1
    obtain ⟨u, h5, h6⟩ := r2.get h2
    have e5 := e3 vs (sqB_of (hc F _ c l l2))
    have e6 := e4 us (sqB_of (hc2 F _ c l l2))
    rw [h3] at e5
    rw [h5] at e6
    cases e5; cases e6
    exact frz_pair l2 hT (h4.mono l) (h6.mono l)
section
variable {X : Cx} {e e2 : Expr} {f f2 : Rho → Option (List D)} {p pos tpos : Pos} {elts : List Expr} {kk : Nat}
/-- in a comprehension: each a list or a tuple, frozen or a name's own -/
theorem DIC.zipM (hg : Gl X "zip") (hm : X.mg "zip" = none) (h : DQ X e f) (h2 : DQ X e2 f2) (hs : starEach [e, e2] X.env = (false, eval e X.env) :: starEach [e2] X.env := by rfl) (hs2 : starEach [e2] X.env = (false, eval e2 X.env) :: starEach [] X.env := by rfl) (hpl : (backTo pos (starEach [e2] X.env)).any (·.1) = false := by rfl) :
    DIC X (.Tuple elts kk tpos) (.Call (.Name "zip" p) [e, e2] [] pos) (kZip2 f f2) := (ZS.pi_zipM hg hm (pa_cons h (pa_cons h2 pa_nil hs2) hs) hs hpl).w fun σ H R ⟨F, ρ, xs, E, ef, q⟩ => by
  obtain ⟨x, e1, ef⟩ := bind_some ef
  obtain ⟨y, e2, ef⟩ := bind_some ef
  cases ef
  refine ⟨F, ρ, x, E, e1, fun a vs F1 H1 g1 h1 r1 => ⟨F1, ρ, y, E.gr g1, e2, fun b us F2 H2 g2 h3 r2 => ?_⟩⟩
  obtain ⟨b1, h1'⟩ : ∃ b1, H2 a = some (HoB b1 vs) := by
    rcases h1 with h1 | h1
    · exact ⟨true, g2.h _ _ h1⟩
    · exact ⟨false, g2.h _ _ h1⟩
  obtain ⟨b2, h3'⟩ : ∃ b2, H2 b = some (HoB b2 us) := by
    rcases h3 with h3 | h3
    · exact ⟨true, h3⟩
    · exact ⟨false, h3⟩
  exact ⟨a, b, vs, us, b1, b2, rfl, sqB_of h1', sqB_of h3', q _ F2 H2 (g1.trans g2) (j_zipM (fun F H c _ _ => c _ _ h1') (fun F H c _ _ => c _ _ h3') (r1.mono g2.f) r2)⟩
/-- in a for: both frozen -/
theorem DIF.zipM {g1 g2 : Rho → Option D} (hg : Gl X "zip") (hm : X.mg "zip" = none) (h : DE X e g1) (h2 : DE X e2 g2) (hs : starEach [e, e2] X.env = (false, eval e X.env) :: starEach [e2] X.env := by rfl) (hs2 : starEach [e2] X.env = (false, eval e2 X.env) :: starEach [] X.env := by rfl) (hpl : (backTo pos (starEach [e2] X.env)).any (·.1) = false := by rfl) :
    DIF X (.Tuple elts kk tpos) (.Call (.Name "zip" p) [e, e2] [] pos) (kZip2 (kQ g1) (kQ g2)) := (ZS.pi_zipM hg hm (pa_cons h (pa_cons h2 pa_nil hs2) hs) hs hpl).w fun σ H R ⟨F, ρ, xs, E, ef, q⟩ => by
  obtain ⟨x', e1, ef⟩ := bind_some ef
  obtain ⟨y', e2, ef⟩ := bind_some ef
  cases ef
  obtain ⟨x, e1, ex⟩ := bind_some e1
  obtain ⟨y, e2, ey⟩ := bind_some e2
  refine ⟨F, ρ, x, E, e1, fun v F1 H1 g1 r1 => ⟨F1, ρ, y, E.gr g1, e2, fun u F2 H2 g2 r2 => ?_⟩⟩
  obtain ⟨a, vs, b1, rfl, ha, rx⟩ : ∃ a vs b1, v = .ref a ∧ F2 a = some (HoB b1 vs) ∧ RpAll F2 vs x' := by
    cases x <;> cases ex <;> cases r1
    · rename_i h1 h2; exact ⟨_, _, true, rfl, g2.f _ _ h1, h2.mono g2.f⟩
    · rename_i h1 h2; exact ⟨_, _, false, rfl, g2.f _ _ h1, h2.mono g2.f⟩
  obtain ⟨b, us, b2, rfl, hb, ry⟩ : ∃ b us b2, u = .ref b ∧ F2 b = some (HoB b2 us) ∧ RpAll F2 us y' := by
    cases y <;> cases ey <;> cases r2
    · rename_i h1 h2; exact ⟨_, _, true, rfl, h1, h2⟩
    · rename_i h1 h2; exact ⟨_, _, false, rfl, h1, h2⟩
  exact ⟨a, b, vs, us, b1, b2, rfl, sqB_of (g2.s _ _ ha), sqB_of (g2.s _ _ hb), q _ F2 H2 (g1.trans g2) (j_zipM (fun F H _ l l2 => l2 _ _ (l _ _ ha)) (fun F H _ l l2 => l2 _ _ (l _ _ hb)) rx ry)⟩
end
end DL

set_option Elab.async false
set_option linter.all false
set_option maxRecDepth 100000
set_option maxHeartbeats 2000000
namespace DL
open PySem PySem.Spec L2
/-! ### x in ys, ys a name's own list -/
def OpL (r : R2) (g : D → List D → Option D) : Prop := ∀ (F H : Hp) (x : V) (a : Addr) (vs : List V) (dx : D) (xs : List D) (d : D), Le F H → Rp F x dx → H a = some (.lst vs) → RpAll F vs xs → g dx xs = some d → ∀ Q : VK, (∀ v F' H', Gr F H F' H' → Rp F' v d → Q v H') → r x (.ref a) H Q
@[simp] def kBinL (g : D → List D → Option D) (f1 : Rho → Option D) (f2 : Rho → Option (List D)) (ρ : Rho) : Option D := (f1 ρ).bind fun x => (f2 ρ).bind fun y => g x y
@[simp] def gInL (x : D) (ys : List D) : Option D := if SeqAt.shaped x = true ∧ SeqAt.shaped (.list ys) = true then some (.bool (ys.any fun z => PyData.eqv z x)) else none
@[simp] def gNotInL (x : D) (ys : List D) : Option D := if SeqAt.shaped x = true ∧ SeqAt.shaped (.list ys) = true then some (.bool (!ys.any fun z => PyData.eqv z x)) else none
theorem ol_in {K : PySem.W.Frag} : OpL (rInA K) gInL := by
  intro F H x a vs dx xs d l r1 h r2 e Q q
  unfold gInL at e
  split at e
  · rename_i hs
    cases e
    exact .inl ⟨dx, _, r1.dp l, .lst (SqL.of h) (r2.dp l), hs.1, hs.2, q _ F H (Gr.refl l) (.bl _)⟩
  · cases e
theorem ol_notIn {K : PySem.W.Frag} : OpL (rNotInD K) gNotInL := by
  intro F H x a vs dx xs d l r1 h r2 e Q q
  unfold gNotInL at e
  split at e
  · rename_i hs
    cases e
    exact ⟨dx, _, r1.dp l, .lst (SqL.of h) (r2.dp l), hs.1, hs.2, q _ F H (Gr.refl l) (.bl _)⟩
  · cases e
section
variable {X : Cx} {a b : Expr} {f1 : Rho → Option D} {f2 : Rho → Option (List D)} {pos : Pos}
theorem binL_w {r : R2} {g : D → List D → Option D} (hg : OpL r g) (σ : L2.St) (H : Hp) (Q : VK) (h : tE (kBinL g f1 f2) σ H Q) : tOp r (tE f1) (tL f2) σ H Q := by
  obtain ⟨F, ρ, d, E, ef, q⟩ := h
  obtain ⟨x, e1, ef⟩ := bind_some ef
  obtain ⟨y, e2, ef⟩ := bind_some ef
  refine ⟨F, ρ, x, E, e1, fun v F1 H1 g1 r1 => ⟨F1, ρ, y, E.gr g1, e2, fun a vs F2 H2 g2 h2 r2 => ?_⟩⟩
  exact hg F2 H2 v a vs x y d g2.s (r1.mono g2.f) h2 r2 ef Q fun w F3 H3 g3 r3 => q w F3 H3 ((g1.trans g2).trans g3) r3
theorem DE.cmpL {op : CmpOp} {r : R2} {g : D → List D → Option D} (ho : OpR X (compareOp op) r) (hg : OpL r g) (ha : DE X a f1) (hb : DLs X b f2) (hm : behindInMarks op b = false := by rfl) : DE X (.Compare a [op] [b] pos) (kBinL g f1 f2) :=
  (pe_cmpR ho ha hb hm).w fun σ H Q h => binL_w hg σ H Q h
theorem DT.cmpL {op : CmpOp} {r : R2} {g : D → List D → Option D} (ho : OpR X (compareOp op) r) (hg : OpL r g) (ha : DE X a f1) (hb : DLs X b f2) (hm : behindInMarks op b = false := by rfl) : DT X (.Compare a [op] [b] pos) (kB (kBinL g f1 f2)) :=
  (pt_cmpR ho ha hb hm).w fun σ H Q h => test_w (fun σ H Q h => binL_w hg σ H Q h) σ H Q h
end
end DL

set_option Elab.async false
set_option linter.all false
set_option maxRecDepth 100000
set_option maxHeartbeats 2000000
namespace DL
open PySem PySem.Spec L2
/-! ### a list of one's own lent to an expression whose value does not hold it -/
mutual
def sameD : D → D → Bool
  | .list xs, d => match d with
    | .list ys => sameAll xs ys
    | _ => false
  | .tuple xs, d => match d with
    | .tuple ys => sameAll xs ys
    | _ => false
  | .int i, d => match d with
    | .int j => decide (i = j)
    | _ => false
  | .none, _ => true
  | .bool _, _ => true
  | .str _, _ => true
  | .dict _, _ => true
def sameAll : List D → List D → Bool
  | [], [] => true
  | x :: xs, y :: ys => sameD x y && sameAll xs ys
  | [], _ :: _ => false
  | _ :: _, [] => false
end
mutual
theorem sameD_refl : ∀ d : D, sameD d d = true
  | .none => by simp [sameD]
  | .bool _ => by simp [sameD]
  | .int i => by simp [sameD]
  | .str _ => by simp [sameD]
  | .dict _ => by simp [sameD]
  | .list xs => by simp [sameD, sameAll_refl xs]
  | .tuple xs => by simp [sameD, sameAll_refl xs]
theorem sameAll_refl : ∀ ds : List D, sameAll ds ds = true
  | [] => by simp [sameAll]
  | d :: ds => by simp [sameAll, sameD_refl d, sameAll_refl ds]
end
mutual
/-- .list xs stands in the datum -/
def subD (xs : List D) : D → Bool
  | .list ys => sameAll xs ys || subAll xs ys
  | .tuple ys => subAll xs ys
  | .none => false
  | .bool _ => false
  | .int _ => false
  | .str _ => false
  | .dict _ => true
def subAll (xs : List D) : List D → Bool
  | [] => false
  | y :: ys => subD xs y || subAll xs ys
end
mutual
theorem Rp.fn {F : Hp} : ∀ {v : V} {d e : D}, Rp F v d → Rp F v e → d = e
  | _, _, _, .non, h => by cases h; rfl
  | _, _, _, .bl b, h => by cases h; rfl
  | _, _, _, .int b, h => by cases h; rfl
  | _, _, _, .str b, h => by cases h; rfl
  | _, _, _, .lst h1 r, h => by
    cases h with
    | lst h2 r2 => rw [h1] at h2; cases h2; rw [RpAll.fn r r2]
    | tup h2 r2 => rw [h1] at h2; cases h2
  | _, _, _, .tup h1 r, h => by
    cases h with
    | lst h2 r2 => rw [h1] at h2; cases h2
    | tup h2 r2 => rw [h1] at h2; cases h2; rw [RpAll.fn r r2]
theorem RpAll.fn {F : Hp} : ∀ {vs : List V} {ds es : List D}, RpAll F vs ds → RpAll F vs es → ds = es
  | _, _, _, .nil, h => by cases h; rfl
  | _, _, _, .cons h r, q => by
    cases q with
    | cons h2 r2 => rw [Rp.fn h h2, RpAll.fn r r2]
end
/-- the heap without a -/
def del (F : Hp) (a : Addr) : Hp := fun b => if b = a then none else F b
theorem del_ne {F : Hp} {a b : Addr} (h : b ≠ a) : del F a b = F b := if_neg h
theorem del_same {F : Hp} {a : Addr} : del F a a = none := if_pos rfl
mutual
theorem Rp.thaw {F : Hp} {a : Addr} {ws : List V} {xs : List D} (ha : F a = some (.lst ws)) (rx : RpAll F ws xs) : ∀ {v : V} {d : D}, Rp F v d → subD xs d = false → Rp (del F a) v d
  | _, _, .non, _ => .non
  | _, _, .bl b, _ => .bl b
  | _, _, .int b, _ => .int b
  | _, _, .str b, _ => .str b
  | _, _, @Rp.lst _ b us ds h1 r, h => by
    rw [subD, Bool.or_eq_false_iff] at h
    refine .lst (xs := us) ?_ (RpAll.thaw ha rx r h.2)
    by_cases q : b = a
    · subst q
      rw [ha] at h1
      cases h1
      rw [RpAll.fn rx r, sameAll_refl] at h
      cases h.1
    · rw [del_ne q]; exact h1
  | _, _, @Rp.tup _ b us ds h1 r, h => by
    rw [subD] at h
    refine .tup (xs := us) ?_ (RpAll.thaw ha rx r h)
    by_cases q : b = a
    · subst q
      rw [ha] at h1
      cases h1
    · rw [del_ne q]; exact h1
theorem RpAll.thaw {F : Hp} {a : Addr} {ws : List V} {xs : List D} (ha : F a = some (.lst ws)) (rx : RpAll F ws xs) : ∀ {vs : List V} {ds : List D}, RpAll F vs ds → subAll xs ds = false → RpAll (del F a) vs ds
  | _, _, .nil, _ => .nil
  | _, _, .cons h r, q => by
    rw [subAll, Bool.or_eq_false_iff] at q
    exact .cons (Rp.thaw ha rx h q.1) (RpAll.thaw ha rx r q.2)
end
theorem EnvR.lend {F H : Hp} {σ : L2.St} {ρ : Rho} (E : EnvR F H σ ρ) {i : Nat} {xs : List D} (e : ρ[i]? = some (.ow xs)) {a : Addr} {vs : List V} (h1 : σ[i]? = some (some (.ref a))) (hf : F a = none) (hh : H a = some (.lst vs)) (r : RpAll F vs xs) :
    EnvR (upd F a (.lst vs)) H σ (ρ.set i (.fr (.list xs))) := by
  have lf := Le.new (H := F) (o := HO.lst vs) hf
  have li : i < ρ.length := (List.getElem?_eq_some_iff.mp e).1
  refine ⟨fun b u q => ?_, fun j s ej => ?_, fun j k b s t ej ek oj ok hj hk => ?_⟩
  · by_cases z : b = a
    · subst z; rw [upd_same] at q; rw [hh, ← q]
    · rw [upd_ne z] at q; exact E.le b u q
  · by_cases q : i = j
    · subst q
      rw [List.getElem?_set_self li] at ej
      cases ej
      exact ⟨_, h1, _, rfl, .lst upd_same (r.mono lf)⟩
    · rw [List.getElem?_set_ne q] at ej
      obtain ⟨o, ho, ro⟩ := E.sl j s ej
      refine ⟨o, ho, ?_⟩
      cases s with
      | un => trivial
      | fr d => obtain ⟨v, e1, rv⟩ := ro; exact ⟨v, e1, rv.mono lf⟩
      | ow ys =>
        obtain ⟨b, us, rfl, f, hb, rb⟩ := ro
        have : b ≠ a := fun z => q (E.ap i j a _ _ e ej rfl rfl h1 (by rw [← z]; exact ho))
        exact ⟨b, us, rfl, by rw [upd_ne this]; exact f, hb, rb.mono lf⟩
      | dk ys =>
        obtain ⟨b, us, rfl, f, hb, rb⟩ := ro
        have : b ≠ a := fun z => q (E.ap i j a _ _ e ej rfl rfl h1 (by rw [← z]; exact ho))
        exact ⟨b, us, rfl, by rw [upd_ne this]; exact f, hb, rb.mono lf⟩
      | dt ys =>
        obtain ⟨b, us, rfl, f, hb, rb⟩ := ro
        have : b ≠ a := fun z => q (E.ap i j a _ _ e ej rfl rfl h1 (by rw [← z]; exact ho))
        exact ⟨b, us, rfl, by rw [upd_ne this]; exact f, hb, rb.mono lf⟩
      | sc K ns => obtain ⟨b, e1, rb⟩ := ro; exact ⟨b, e1, sqL_le lf rb⟩
      | rg lo hi => obtain ⟨b, e1, rb⟩ := ro; exact ⟨b, e1, lf _ _ rb⟩
  · have go : ∀ (j : Nat) (s : Sl), (ρ.set i (.fr (.list xs)))[j]? = some s → s.own = true → ρ[j]? = some s := fun j s e o => by
      by_cases q : i = j
      · subst q
        rw [List.getElem?_set_self li] at e; cases e; cases o
      · rw [List.getElem?_set_ne q] at e; exact e
    exact E.ap j k b s t (go j s ej oj) (go k t ek ok) oj ok hj hk
/-- the list at slot i is lent -/
def kLend (i : Nat) (f : Rho → Option D) (ρ : Rho) : Option D := match ρ[i]? with
  | some (.ow xs) => (f (ρ.set i (.fr (.list xs)))).bind fun d => if subD xs d = false then some d else none
  | _ => none
theorem DE.lend {X : Cx} {e : Expr} {f : Rho → Option D} (i : Nat) (h : DE X e f) : DE X e (kLend i f) := h.w fun σ H Q ⟨F, ρ, d, E, ef, q⟩ => by
  unfold kLend at ef
  split at ef
  · rename_i xs hx
    obtain ⟨d', e1, ef⟩ := bind_some ef
    split at ef
    · rename_i hs
      cases ef
      obtain ⟨o, h1, a, vs, rfl, hf, hh, r⟩ := E.sl _ _ hx
      have lf := Le.new (H := F) (o := HO.lst vs) hf
      refine ⟨_, _, _, E.lend hx h1 hf hh r, e1, fun v F' H' g rp => ?_⟩
      have fa : F' a = some (.lst vs) := g.f _ _ upd_same
      refine q v (del F' a) H' ⟨fun b u z => ?_, g.h, fun b u z => ?_, fun b z1 z2 => ?_⟩ (rp.thaw fa ((r.mono lf).mono g.f) hs)
      · have ne : b ≠ a := fun y => by rw [y, hf] at z; cases z
        rw [del_ne ne]
        exact g.f b u (by rw [upd_ne ne]; exact z)
      · by_cases y : b = a
        · subst y; rw [del_same] at z; cases z
        · rw [del_ne y] at z; exact g.s b u z
      · by_cases y : b = a
        · subst y; exact del_same
        · rw [del_ne y]; exact g.g b (by rw [upd_ne y]; exact z1) z2
    · cases ef
  · cases ef
end DL

set_option Elab.async false
set_option linter.all false
set_option maxRecDepth 100000
set_option maxHeartbeats 2000000
/-! an own exception class two below ValueError, whose __init__ says super().__init__(at); self.at = at -/
namespace XI
open PySem PySem.Spec PySem.Calls PyProof.Rows L2 NdefX
/-- what the written part says of the def __init__ at f, of the class at D -/
structure InitF (P : Program) (K : PySem.W.Frag) (f D cc c : Addr) (qual : Str) (params : Arguments) (body : List Stmt) (scope : Scope) (fd : FuncData) : Prop where
  lk : ∃ (oc : Value) (od : Option Addr) (dV kV doc pm ct : Value) (an : Option Addr) (osl : Array (Option Value)), fd = PySem.W.fnX "__init__" qual params body scope [("__class__", cc)] dV kV doc pm an (.ref c) ct ∧ K.lookup f = some ⟨oc, od, .func fd, osl⟩
  code : PySem.W.codeIn K (.ref c) qual = true
  file : ∃ (ccl : Value) (cdd : Option Addr) (vs : Array Value) (ccs : Array (Option Value)) (file : Str) (tf : Tok), K.lookup c = some ⟨ccl, cdd, .fields vs, ccs⟩ ∧ vs[2]? = some (.str file tf) ∧ ((P.main.file : Str) == file) = true
  cell : ∃ (cl : Value) (cld : Option Addr) (csl : Array (Option Value)), K.lookup cc = some ⟨cl, cld, .cell (some (.ref D)), csl⟩
  cls : ∃ cdD, PySem.W.clsIn K D = some cdD
  third : PySem.W.nsIn K cStatics "thirdparty.any" = some none
/-- .. of an exception class below D -/
structure ExC (K : PySem.W.Frag) (D C : Addr) : Prop where
  oex : OexC K C
  sub : PySem.W.mroIn K C (.ref D) = some true
  sup : PySem.W.ks_superIn K C D "__init__" = some (some (.builtin "ValueError.__init__"))
  ve : PySem.W.subIn K (.ref C) (.type "ValueError") = some true
  no : PySem.W.findIn K (.ref C) "at" = some none
/-- __init__'s promise -/
def spInit (K : PySem.W.Frag) (D : Addr) : Sp := fun vs H Q _ => ∃ (a C : Addr) (i : Int), vs = [.ref a, .int i] ∧ ExC K D C ∧ H a = some (exo a C none) ∧
  ∀ dx, H dx = none → dx ≠ a → Q .non (upd (upd H dx (exd dx [("at", .int i)])) a (exo a C (some dx)))
abbrev iBody (p0 p1 p2 p3 p4 p5 p6 p7 p8 p9 : Pos) : List Stmt :=
  [.Expr (.Call (.Attribute (.Call (.Name "super" p0) [] [] p1) "__init__" p2) [.Name "at" p3] [] p4) p5, .Assign [.Attribute (.Name "self" p6) "at" p7] (.Name "at" p8) p9]
section
variable {CX : CXT} {P : Program} {w : World} {K : PySem.W.Frag} {mg : Str → Option Value} {base : Heap} {k : Nat} {f D cc c : Addr} {qual : Str} {params : Arguments} {scope : Scope} {fd : FuncData} {p0 p1 p2 p3 p4 p5 p6 p7 p8 p9 : Pos} {ar : Arg}
abbrev nf (qual : Str) (params : Arguments) (body : List Stmt) (scope : Scope) (cc c : Addr) : NF := ⟨"__init__", qual, params, body, scope, [("__class__", cc)], c⟩
theorem look1 {x y : Str} {c : Addr} : [(x, c)].lookup y = if y = x then some c else none := by
  by_cases h : y = x
  · subst h; simp [List.lookup]
  · have e : (y == x) = false := by simpa using h
    rw [if_neg h]
    simp [List.lookup, e]
theorem bind_ex {α β : Type} {x : Option α} {g : α → Option β} {b : β} (h : (x.bind g) = some b) : ∃ a, x = some a ∧ g a = some b := by
  cases x with
  | none => cases h
  | some a => exact ⟨a, rfl, h⟩
theorem cells1 {s : Shared} {H : Hp} (h1 : H cc = none) (h2 : ∃ v, s.heap.IsCell cc v) : CellsAt [("__class__", cc)] ["__class__"] [none] s.heap H := by
  have key : ∀ {y : Str} {c : Addr}, [(("__class__" : Str), cc)].lookup y = some c → c = cc ∧ y = ("__class__" : Str) := fun {y c} h => by
    rw [look1] at h
    split at h
    · rename_i e; cases h; exact ⟨rfl, e⟩
    · cases h
  refine ⟨rfl, fun y c h => ?_, fun x y c hx hy => ?_, fun i y h => ?_⟩
  · obtain ⟨rfl, _⟩ := key h
    exact ⟨h1, h2⟩
  · rw [(key hx).2, (key hy).2]
  · cases i with
    | zero =>
      cases h
      refine ⟨cc, by rw [look1, if_pos rfl], fun v hv => ?_⟩
      cases hv
    | succ i => simp at h
theorem init_ok (G : InitF P K f D cc c qual params (iBody p0 p1 p2 p3 p4 p5 p6 p7 p8 p9) scope fd) (S : NScope ["self", "at", "__class__"] ["self", "at"] ["__class__"] scope)
    (hks : scope.names.lookup ("super" : Str) = some .globalImplicit) (hp : (params.posonlyargs ++ params.args).head? = some ar) (har : ar.arg = ("self" : Str))
    (htop : (P.main.scope.names.lookup ("super" : Str)).isSome = false) (hboot : bootBuiltins "super" = some (.type "super")) (msup : mg "super" = none)
    (hM : ∀ (cc c f L : Addr), ∃ pl : Sem Bool, eval (.Call (.Attribute (.Call (.Name "super" p0) [] [] p1) "__init__" p2) [.Name "at" p3] [] p4) (envF (nf qual params (iBody p0 p1 p2 p3 p4 p5 p6 p7 p8 p9) scope cc c) f L) = (do
      let ov ← attributeBase (.Call (.Name "super" p0) [] [] p1) "__init__" (envF (nf qual params (iBody p0 p1 p2 p3 p4 p5 p6 p7 p8 p9) scope cc c) f L) (eval (.Call (.Name "super" p0) [] [] p1) (envF (nf qual params (iBody p0 p1 p2 p3 p4 p5 p6 p7 p8 p9) scope cc c) f L))
      standAt p2.atName
      let (fu, first) ← holding [ov] (getMethod ov "__init__" pl)
      callWith p4 fu first (backTo p4 (starEach [.Name "at" p3] (envF (nf qual params (iBody p0 p1 p2 p3 p4 p5 p6 p7 p8 p9) scope cc c) f L))) []))
    (hI : ∀ (cc c f L : Addr), interactive (envF (nf qual params (iBody p0 p1 p2 p3 p4 p5 p6 p7 p8 p9) scope cc c) f L) = false)
    (hS1 : ∀ (cc c f L : Addr), swapsWith (.Call (.Attribute (.Call (.Name "super" p0) [] [] p1) "__init__" p2) [.Name "at" p3] [] p4) none p5.line (envF (nf qual params (iBody p0 p1 p2 p3 p4 p5 p6 p7 p8 p9) scope cc c) f L) = pure false)
    (hS2 : ∀ (cc c f L : Addr), swapsWith (.Name "at" p8) (some (.Attribute (.Name "self" p6) "at" p7)) p9.line (envF (nf qual params (iBody p0 p1 p2 p3 p4 p5 p6 p7 p8 p9) scope cc c) f L) = pure false) :
    FnOk P w K mg base CX (k + 1) f fd ["self", "at"] (spInit K D) := by
  obtain ⟨oc, od, dV, kV, doc, pm, ct, an, osl, rfl, lk⟩ := G.lk
  obtain ⟨ccl, cdd, cvs, ccs, file, tf, hcode, hvs, hfile⟩ := G.file
  obtain ⟨cl, cld, csl, hcell⟩ := G.cell
  obtain ⟨cdD, hD⟩ := G.cls
  refine ⟨fun vs H Q E ⟨a, C, i, e, _⟩ => by rw [e]; rfl, fun A outer s H args us vs Q E hr e0 hb r hsp => ?_⟩
  obtain ⟨a, C, i, rfl, XC, ea, q⟩ := hsp
  have ks : ∀ b o, base.get? b = some o → s.heap.get? b = some o := fun b o e => (e0.bs b o e).1
  have KX : K.In s.heap := e0.mod.kin.keeps ks
  have lim : s.heap.NoLimit := e0.mod.nolimit.keeps ks
  have hcellS : s.heap.get? cc = some ⟨cl, cld, .cell (some (.ref D)), csl⟩ := KX _ _ hcell
  have hcH : H cc = none := (e0.bs _ _ (e0.mod.kin _ _ hcell)).2
  have Cs : CellsAt [("__class__", cc)] ["__class__"] [none] s.heap H := cells1 hcH ⟨_, _, hcellS, rfl⟩
  obtain ⟨tk, rfl⟩ : ∃ tk, us = [Value.ref a, Value.int i tk] := by
    cases r with
    | cons r1 r2 =>
      cases r2 with
      | cons r2 r3 =>
        cases r3
        cases r1
        obtain ⟨t, rfl⟩ := r2
        exact ⟨t, rfl⟩
  refine PySem.ks_codeAny_call_defAt hr.depth (KX _ _ lk) rfl lim (PySem.W.codeRec_of KX G.code) rfl hb S.nocell (fun x hx => S.par _ (List.of_mem_zip (a := x.1) (b := x.2) hx).1) (fun h₁ hns kp => ?_) S.co S.gen S.kind
  have hrd : Room k (A.deeper (envF (nf qual params (iBody p0 p1 p2 p3 p4 p5 p6 p7 p8 p9) scope cc c) f s.heap.objs.size)) := hr.deeper _
  have I : Inv (ncx CX P w K mg base ["self", "at", "__class__"] (nf qual params (iBody p0 p1 p2 p3 p4 p5 p6 p7 p8 p9) scope cc c) f A outer s H E) [] (startF ["self", "at", "__class__"] [.ref a, .int i] [none]) H { s with heap := h₁, toks := s.toks + 2 } :=
    inv_startN S hr.hd e0 rfl r Cs hns kp
  obtain ⟨t1, hx⟩ := exo_at I.hok ea
  have hxI : h₁.get? a = some ({ cls := .ref C, dict := none, data := .fields #[.ref t1, .none, .none, .none, .bool false, .none] } : Obj) := hx
  have hsh := I
  have K1 : K.In h₁ := I.kIn
  obtain ⟨oD, hD1, hD2⟩ : ∃ oD, h₁.get? D = some oD ∧ oD.data = .cls cdD := by
    unfold PySem.W.clsIn at hD
    split at hD
    · rename_i c d cd' sl ho
      cases hD
      exact ⟨_, K1 _ _ ho, rfl⟩
    · cases hD
  obtain ⟨pl, hM⟩ := hM cc c f s.heap.objs.size
  refine PySem.ks_wpAt_execs_cons (PySem.ks_wpAt_Expr_any (PySem.ks_wpAt_MethodCall (pl := pl) ?_ hM) (hI cc c f s.heap.objs.size) (hS1 cc c f s.heap.objs.size))
  refine PySem.ks_wpAt_super_base (env := envF (nf qual params (iBody p0 p1 p2 p3 p4 p5 p6 p7 p8 p9) scope cc c) f s.heap.objs.size) hks (S.frk _ (by simp)) rfl rfl (K1 _ _ lk) rfl hp rfl (K1 _ _ hcode) rfl hvs hfile htop ?_
  obtain ⟨mb, hb1, hb2⟩ := e0.mod.blt
  refine PySem.W.ks_loadName_global S.kind hks (Calls.loadGlobal_builtin (e0.mod.glob.keeps I.bk) msup (hb1.keeps I.bk) ((hb2 _ (by decide)).trans hboot) ⟨rfl, ?_⟩)
  refine wpAny_loadName_free S.kind (S.frk _ (by simp)) (c := cc) (v := .ref D) rfl ⟨_, K1 _ _ hcell, rfl⟩ ?_
  rw [har]
  refine wpAny_loadName_local S.kind (S.par _ (by simp)) hns (v := .ref a) rfl ?_
  refine ks_wpAny_isType_cls hD1 hD2 ⟨rfl, ?_⟩
  refine ks_wpAny_call_super hD1 hD2 hxI rfl (fun c z => by cases z) (PySem.W.looks_mroIn K1 XC.sub) (fun h2 hso up2 => ?_)
  -- super().__init__
  have ns2 := hns.keeps up2
  obtain ⟨nm, q0, N0, bs, bm, sn, sub, ab, col, dd, k0, k1, k2, k3, k5, hC, hbm⟩ := XC.oex.cls
  have K2 : K.In h2 := K1.keeps up2
  have hx2 := up2 _ _ hxI
  have IA : PySem.W.InstAt h2 a { cls := .ref C, dict := none, data := .fields #[.ref t1, .none, .none, .none, .bool false, .none] } C none := ⟨hx2, rfl, rfl, trivial⟩
  obtain ⟨cdC, hcd, hsup⟩ := bind_ex XC.sup
  refine PySem.W.kxs_getMethod PySem.W.kxs_ValueError hso (PySem.W.looks_opaque K2 G.third) (l₀ := cdC.mro) (fun A Q E s k q => wpAny_bind ((PySem.W.looks_clsIn K2 hcd) A _ E s k (wpAny_pure q))) rfl K2 hsup (IA.type.andThen (PySem.W.looks_subIn K2 XC.ve)) (PySem.W.ks_ne K2 IA hcd) (by decide) ?_
  generalize hu : h2.objs.size = u
  have up3 : ∀ b o, h2.get? b = some o → (h2.push (PySem.W.kxs_mw "ValueError.__init__" a)).get? b = some o := fun b o e => Heap.get?_push_of_some _ e
  have hu3 : (h2.push (PySem.W.kxs_mw "ValueError.__init__" a)).get? u = some (PySem.W.kxs_mw "ValueError.__init__" a) := by rw [← hu]; exact Heap.get?_push_at rfl rfl
  generalize h2.push (PySem.W.kxs_mw "ValueError.__init__" a) = h3 at up3 hu3
  have ns3 := ns2.keeps up3
  have K3 : K.In h3 := K2.keeps up3
  have hx3 := up3 _ _ hx2
  -- .. called
  refine PySem.W.kxs_callWith (i := "ValueError.__init__") (x := a) rfl (evalArgs_plain (spliced_cons ?_))
  refine wpAny_Name (wpAny_loadName_local S.kind (S.par _ (by simp)) ns3 (v := .int i tk) rfl (spliced_nil ⟨hu3, ?_⟩)) (by decide)
  refine wpAny_call (codeAny_of_tree ?_)
  generalize hA : (A.deeper (callEnv (PySem.W.fnX "__init__" qual params (iBody p0 p1 p2 p3 p4 p5 p6 p7 p8 p9) scope [("__class__", cc)] dV kV doc pm an (.ref c) ct) s.heap.objs.size f)) = A'
  show wpAny (model P w) A'.in1 (callAny (.ref u) ⟨[] ++ [Value.int i tk], []⟩) _ _ _
  simp only [callAny]
  refine wpAny_bind (wpAny_load hu3 ?_)
  simp only [PySem.W.kxs_mw, show (Value.type "method-wrapper" == Value.type "method" || Value.type "method-wrapper" == Value.type "builtin_function_or_method" || Value.type "method-wrapper" == Value.type "method-wrapper") = true by decide, if_true]
  refine PySem.W.KFB.if_so (by decide) (wpAny_bind (PySem.W.check_bound_init PySem.F.excBase_ValueError.toExcCallFacts (K3 _ _ hC) hx3 rfl (wpAny_bind (wpAny_pure (wpAny_pure ?_)))))
  refine ⟨plainId_quiet PySem.F.excBase_ValueError.init.plain _, codeAny_builtin PySem.F.excBase_ValueError.initEntry ?_⟩
  refine PySem.W.exc_init_tree (cls := .ref C) (t0 := t1) (dv := none) (c2 := .none) (c3 := .none) (b4 := .bool false) hx3 (by show 1 ≤ sizeLine; decide) fun h4 k4 hx4 _ => ?_
  have hw : ∀ b o, b ≠ a → h2.get? b = some o → h4.get? b = some o := fun b o ne e => k4 b o ne (up3 b o e)
  have I4 : Inv (ncx CX P w K mg base ["self", "at", "__class__"] (nf qual params (iBody p0 p1 p2 p3 p4 p5 p6 p7 p8 p9) scope cc c) f A outer s H E) [] (startF ["self", "at", "__class__"] [.ref a, .int i] [none]) H { s with heap := h4, toks := s.toks + 2 + 1 } := by
    have J := (I.kept (t' := s.toks + 2) up2).write (t' := s.toks + 2 + 1) (x := a) (e := a) (o := exo a C none) (by rw [ea]; exact True.intro) (.inl rfl) hw ⟨_, hx4⟩ (exo_ok hx4)
    have eu : upd H a (exo a C none) = H := by
      funext b
      by_cases hb : b = a
      · rw [hb, upd_same, ea]
      · rw [upd_ne hb]
    rw [eu] at J
    exact J
  have ps : PSs (ncx CX P w K mg base ["self", "at", "__class__"] (nf qual params (iBody p0 p1 p2 p3 p4 p5 p6 p7 p8 p9) scope cc c) f A outer s H E) [.Assign [.Attribute (.Name "self" p6) "at" p7] (.Name "at" p8) p9] (tOst K "at" (tVar 0) (tVar 1)) :=
    pss_one (ps_ost (pe_var (i := 0) rfl (.inl (S.par _ (by simp)))) (pe_var (i := 1) rfl (.inl (S.par _ (by simp)))) (hS2 cc c f s.heap.objs.size))
  subst hA
  refine wpAt_of_wpAny (wpAny_mono (ps.run [] _ (startF ["self", "at", "__class__"] [.ref a, .int i] [none]) H { nx := fun _ H' => Q .non H', rt := Q } I4 ⟨_, rfl, _, rfl, a, C, rfl, XC.oex, XC.no, .inl ⟨ea, fun dx n ne => q dx n ne⟩⟩) (fun fl s' hs => ?_) fun e s' hs => hs)
  cases fl with
  | ret u =>
    obtain ⟨v, σ', H', J, rv, q⟩ := hs
    exact ⟨v, H', J.os, J.bare, J.base, J.hok, rv, q⟩
  | next =>
    obtain ⟨σ', H', J, q⟩ := hs
    exact ⟨V.non, H', J.os, J.bare, J.base, J.hok, rfl, q⟩
  | brk =>
    obtain ⟨_, _, _, z⟩ := hs
    exact z.elim
  | cont =>
    obtain ⟨_, _, _, z⟩ := hs
    exact z.elim
end
end XI

set_option Elab.async false
set_option linter.all false
set_option maxRecDepth 100000
set_option maxHeartbeats 2000000
/-! try: body; several clauses except C as n, the same n in each -/
namespace XI
open PySem PySem.Spec PySem.Calls PyProof.Rows L2
/-- what a suite is left with: n is gone -/
abbrev offN (i : Nat) (D : Ends) : Ends := { nx := fun σ' H' => D.nx (σ'.set i none) H', rt := D.rt, bk := fun σ' H' => D.bk (σ'.set i none) H', ct := fun σ' H' => D.ct (σ'.set i none) H' }
def wClauses (K : PySem.W.Frag) (i : Nat) (Wout : WX) (D : Ends) : List (Value × (Addr → Value → Option Addr → TS)) → WX
  | [] => Wout
  | q :: r => fun cls d σ H => ∃ b, PySem.W.exmOne K cls q.1 = some b ∧ (b = true → ∀ a, H a = none → q.2 a cls d (offN i D) (σ.set i (some (.ref a))) H) ∧ (b = false → wClauses K i Wout D r cls d σ H)
inductive Clauses (X : Cx) (n : Str) : List ExceptHandler → List (Value × (Addr → Value → Option Addr → TS)) → Prop
  | nil : Clauses X n [] []
  | cons {x : Str} {c : Value} {ts : Addr → Value → Option Addr → TS} {st : Stmt} {sts : List Stmt} {np hp : Pos} {hds : List ExceptHandler} {l : List (Value × (Addr → Value → Option Addr → TS))} (hc : Names X x c)
      (hsu : ∀ (a : Addr) (oe : Obj) (cls : Value) (d : Option Addr) (pn : List (Addr × Obj)), Zc cls d oe → (∃ vs, oe.data = .fields vs) → PSs (X.suite a ((a, oe) :: pn)) (st :: sts) (ts a cls d)) (r : Clauses X n hds l) :
      Clauses X n (.ExceptHandler (some (.Name x np)) (some n) (st :: sts) hp :: hds) ((c, ts) :: l)
section
variable {X : Cx} {n : Str} {i : Nat} {body : List Stmt} {h₀ : ExceptHandler} {hds : List ExceptHandler} {l : List (Value × (Addr → Value → Option Addr → TS))} {pos : Pos} {tb : WX → TS} {Wout : WX}
theorem ps_try_clauses (hs : X.stack = X.env :: X.outer) (hf : X.env.frame = some X.env.locals) (hN : X.N.Nodup) (hi : X.N[i]? = some n) (hln : X.env.kindOf n = some .local) (tk : Takes X Wout)
    (hb : ∀ (W : WX) (pn : List (Addr × Obj)) (xe : Value → Shared → Prop), Takes (X.tr pn xe) W → PassesOwn (model X.prog X.w) X.A X.env xe → PSs (X.tr pn xe) body (tb W))
    (hh : Clauses X n (h₀ :: hds) l) : PS X (.Try body (h₀ :: hds) [] [] pos) (fun D σ H => tb (wClauses X.K i Wout D l) D σ H) := by
  refine ⟨fun pins s σ H D I h => ?_⟩
  have ok := I.ok
  have fr0 : X.A.frames = some (X.env :: X.outer) := ok.frames.trans (congrArg some hs)
  have body0 := hb (wClauses X.K i Wout D l) (X.pn ++ pins) (fun e s1 => wpAny (model X.prog X.w) X.A (noteFrame e X.env) (fun _ s2 => wpAny (model X.prog X.w) X.A (setFlight e none) (fun _ s3 => wpAny (model X.prog X.w) X.A (handleBy e X.env (h₀ :: hds)) (SP X pins D) X.xe s3) X.xe s2) X.xe s1)
  refine wpAny_Try_except (wpAny_mono ((body0 (fun u s' z => ?_) PassesOwn.looking).run [] s σ H D (I.toTry _) h) (fun f s1 z => ?_) fun _ _ z => z)
  · obtain ⟨a, B, sI, pins', σ', H', cls, d, rfl, J', nb, up, sky, na, os, ag, wish⟩ := z
    have J : Inv X pins σ' H' sI := J'.ofTry ok
    rw [hs] at sky
    show wpAny (model X.prog X.w) X.A (noteFrame (.ref a) X.env) _ _ _
    refine Sky.land Zc.steady fr0 hf sky fun h3 fl3 up3 => ?_
    have J3 : Inv X pins σ' H' { s' with heap := h3 } := J.landed nb fl3.1 (up.trans up3) os ag
    obtain ⟨oe3, vs3, he3, hz3, hd3⟩ := fl3.there
    have noFr : a ∉ frs (X.env :: X.outer) := fun hm => (fl3.2.2.1.mem hm).elim fun _ q => q.elim fun o' q => by
      have e' := q.1
      rw [he3] at e'
      cases e'
      exact q.2 _ hd3
    have nL : a ≠ X.env.locals := fun q => noFr (List.mem_filterMap.mpr ⟨X.env, List.mem_cons_self, by rw [hf, q]⟩)
    have nF : a ∉ X.fs := fun hm => let ⟨e, he, q⟩ := List.mem_filterMap.mp hm; noFr (List.mem_filterMap.mpr ⟨e, List.mem_cons_of_mem _ he, q⟩)
    have S3 := J3.suite he3 hd3 na nL nF
    have each : ∀ {hs' : List ExceptHandler} {l' : List (Value × (Addr → Value → Option Addr → TS))}, Clauses X n hs' l' → wClauses X.K i Wout D l' cls d σ' H' →
        wpAny (model X.prog X.w) X.A (handleBy (.ref a) X.env hs') (SP X pins D) X.xe { s' with heap := h3 } := by
      intro hs' l' hk
      induction hk with
      | nil =>
        intro wish
        obtain ⟨_, _, _, oe, vs, T, oT, _, he, _, hd, h1, _⟩ := id fl3
        have fin : wpAny (model X.prog X.w) X.A (setFlight (.ref a) X.env.frame) (fun _ s4 => wpAny (model X.prog X.w) X.A (throw (.ref a) : Sem Flow) (SP X pins D) X.xe s4) X.xe { s' with heap := h3 } := by
          rw [hf]
          exact HandSPX.setFlight_upZ fl3 fun h4 hh4 up4 => wpAny_throw (tk _ _ ⟨a, B, sI, pins, σ', H', cls, d, rfl, J, nb, (up.trans up3).trans up4, .inr (.inr (by rw [hs]; exact hh4)), na, os, ag, wish⟩)
        refine wpAny_handleBy_nil (by
          unfold PySem.passOn
          refine wpAny_bind (wpAny_field he hd h1 ?_)
          rw [if_neg (by simp : ¬ ((Value.ref T == Value.none) = true))]
          first
            | exact wpAny_bind (wpAny_pure (wpAny_bind fin))
            | exact wpAny_bind fin)
      | @cons x c ts st sts np hp hds2 l2 hc hsu r ih =>
        intro wish
        obtain ⟨b, hb1, yes, no⟩ := wish
        have LT : PySem.W.Looks (model X.prog X.w) h3 (typeOf (.ref a)) cls := fun _ _ _ s k q => wpAny_typeOf_ref (k _ _ he3) (by rw [hz3.1]; exact q)
        have LM := PySem.W.exm_one (M := model X.prog X.w) (J3.kIn) LT hb1
        have nameIs : ∀ {Q : Value → Shared → Prop} {E : Value → Shared → Prop}, Q c { s' with heap := h3 } → wpAny (model X.prog X.w) (X.A.mark (some (.ref a))) (eval (.Name x np) X.env) Q E { s' with heap := h3 } := fun {Q E} q => by
          rcases hc with ⟨hg, hdbg, hm | ⟨hm, hv, hnn⟩⟩
          · exact ld_glob (X := X.suite a ((a, oe3) :: (X.pn ++ pins))) S3 hg hm q hdbg
          · exact ld_blt (X := X.suite a ((a, oe3) :: (X.pn ++ pins))) S3 hg hm hv q hnn hdbg
        refine wpAny_handleBy_cons (codeAny_handlers_test (nameIs (LM.here ?_))) (fun q => by cases q)
        cases b with
        | true =>
          refine codeAny_handlers_suite_as (HandSPX.lands_againZ fl3 fun h4 fl4 up4 => ?_)
          have J4 : Inv X pins σ' H' { s' with heap := h4 } := J.landed nb fl4.1 ((up.trans up3).trans up4) os ag
          obtain ⟨oe4, vs4, he4, hz4, hd4⟩ := fl4.there
          refine store_ok (X := X.suite a ((a, oe4) :: (X.pn ++ pins))) (v := .ref a) (J4.suite he4 hd4 na nL nF) hN hi (.inl hln) rfl (fun s5 S5 => ?_) (.inr hln)
          refine wpAny_mono ((hsu a oe4 cls d (X.pn ++ pins) hz4 ⟨_, hd4⟩).run [] s5 _ H' _ S5 (yes rfl a na)) (fun f s6 z => ?_) (fun _ _ z => z.elim)
          have gone : ∀ {σ6 : L2.St} {H6 : Hp} {Q : Shared → Prop}, Inv (X.suite a ((a, oe4) :: (X.pn ++ pins))) [] σ6 H6 s6 → (∀ s7, Inv X pins (σ6.set i none) H6 s7 → Q s7) →
              wpAny (model X.prog X.w) X.A (do bindName X.env n .none; unbindBehindTheSuite X.env n hp) (fun _ s7 => Q s7) X.xe s6 := fun {σ6 H6 Q} S6 hq => gone_ok (S6.unsuite ok) hN hi hln hq
          cases f with
          | next => exact let ⟨σ6, H6, S6, q6⟩ := z; gone S6 fun s7 J7 => ⟨_, _, J7, q6⟩
          | brk => exact let ⟨σ6, H6, S6, q6⟩ := z; gone S6 fun s7 J7 => ⟨_, _, J7, q6⟩
          | cont => exact let ⟨σ6, H6, S6, q6⟩ := z; gone S6 fun s7 J7 => ⟨_, _, J7, q6⟩
          | ret u => exact let ⟨v6, σ6, H6, S6, r6, q6⟩ := z; gone S6 fun s7 J7 => ⟨_, _, _, J7, r6, q6⟩
        | false => exact ih (no rfl)
    exact each hh wish
  · cases f with
    | next => exact let ⟨σ', H', J', q⟩ := z; wpAny_execs_nil ⟨σ', H', J'.ofTry ok, q⟩
    | brk => exact let ⟨σ', H', J', q⟩ := z; ⟨σ', H', J'.ofTry ok, q⟩
    | cont => exact let ⟨σ', H', J', q⟩ := z; ⟨σ', H', J'.ofTry ok, q⟩
    | ret u => exact let ⟨v, σ', H', J', r, q⟩ := z; ⟨v, σ', H', J'.ofTry ok, r, q⟩
end
end XI

set_option Elab.async false
set_option linter.all false
set_option maxRecDepth 100000
set_option maxHeartbeats 2000000
/-! exceptions: raise, calls that let one out, try .. except C as n: return .. -/
namespace DL
open PySem PySem.Spec L2
/-- the exception of the module's class c, with at = i -/
def isXK (K : PySem.W.Frag) : XIs := fun c i cls d H => cls = .ref (He.ga K c) ∧ ∃ dd fs, d = some dd ∧ H dd = some (.xd fs) ∧ fs.lookup ("at" : Str) = some (V.int i)
/-- what is raised here is taken -/
structure Rz (wx : Hp → Str → Int → Prop) (X : Cx) : Prop where
  ex : ∃ W : WX, Takes X W ∧ ∀ H0 c i, wx H0 c i → ∀ cls d (σ : L2.St) H', σ.length = X.N.length → Le H0 H' → isXK X.K c i cls d H' → W cls d σ H'
theorem takes_len {X : Cx} {W : WX} (t : Takes X W) : Takes X (fun cls d σ H => σ.length = X.N.length → W cls d σ H) :=
  fun u s' ⟨a, B, sI, pins, σ, H, cls, d, e, I, nb, up, sky, na, os, ag, w⟩ => t u s' ⟨a, B, sI, pins, σ, H, cls, d, e, I, nb, up, sky, na, os, ag, w I.len⟩
/-- a class that may be raised -/
structure XcD (P : Program) (w : World) (K : PySem.W.Frag) (mg : Str → Option Value) (base : Heap) (x : Str) : Prop where
  oex : OexC K (He.ga K x)
  init : ∃ fI fd D, PySem.W.findIn K (.ref (He.ga K x)) "__init__" = some (some (.ref fI)) ∧ PySem.W.typeIn K (.ref fI) = some (.type "function") ∧ FnOk P w K mg base (L2.CX P w) 1 fI fd ["self", "at"] (XI.spInit K D) ∧ XI.ExC K D (He.ga K x) ∧ Binds K fd ["self", "at"] []
  m : mg x = some (.ref (He.ga K x))
@[simp] def zRaise (c : Str) (f : Rho → Option D) (ρ : Rho) : Option Fl := (f ρ).bind fun d => match d with
  | .int i => some (.ex c i)
  | _ => none
@[simp] def zCallX (den : List D → Option Res) (fs : Rho → Option (List D)) (ρ : Rho) : Option Fl := (fs ρ).bind fun ds => (den ds).bind fun res => match res with
  | .ok _ => some (.nx ρ)
  | .ex c i => some (.ex c i)
section
variable {X : Cx} {wx : Hp → Str → Int → Prop} {x : Str} {e : Expr} {es : List Expr} {p pos pos' : Pos} {k : Nat} {ps : List Str} {den : List D → Option Res} {fs : Rho → Option (List D)}
theorem DS.raise {f : Rho → Option D} (z : Rz wx X) (C : XcD X.prog X.w X.K X.mg X.base x) (hc : X.calm = true) (hr : Room 2 X.A) (hg : Gl X x) (he : DE X e f)
    (hdb : (x == ("__debug__" : Str)) = false := by decide) (hst : starEach (e :: []) X.env = (false, eval e X.env) :: starEach [] X.env := by rfl) (hpl : (backTo pos (starEach [] X.env)).any (·.1) = false := by rfl) :
    DS wx X (.Raise (some (.Call (.Name x p) [e] [] pos)) none pos') (zRaise x f) := by
  obtain ⟨W, tk, hW⟩ := z.ex
  obtain ⟨fI, fd, D, i1, i2, F, ec, hb⟩ := C.init
  refine (ps_raise hc (takes_len tk) (pmk_oex C.oex i1 i2 F hr hb .nil (passes_call takes_none5 fun _ _ _ _ h => h) hg C.m (pa_cons he pa_nil hst) hdb hst hpl)).w fun Z σ H ⟨F0, H0, F, ρ, fl, S, ef, q⟩ => ?_
  obtain ⟨d, e1, ef⟩ := bind_some ef
  split at ef
  · rename_i i
    cases ef
    refine ⟨F, ρ, _, S.env, e1, fun v F1 H1 g1 r1 => ?_⟩
    cases r1
    refine ⟨(by show 1 ≤ 1000; decide), fun a ha => ⟨a, _, i, rfl, ec, upd_same, fun dx hdx hne => ⟨rfl, dx, [(("at" : Str), V.int i)], upd_same, ?_, ?_, fun hl => ?_⟩⟩⟩
    · rw [upd_ne hne]; exact upd_same
    · rw [upd_ne hne] at hdx; exact hdx
    · refine hW H0 x i q _ _ σ _ hl (fun b u hb => ?_) ⟨rfl, dx, _, rfl, upd_same, rfl⟩
      have hb1 : H1 b = some u := g1.h _ _ (S.gr.h _ _ hb)
      have n1 : b ≠ a := fun e => by rw [e, ha] at hb1; cases hb1
      have n2 : b ≠ dx := fun e => by rw [upd_ne hne] at hdx; rw [e, hdx] at hb1; cases hb1
      rw [upd_ne n2, L2.del_ne n1, upd_ne n1, upd_ne n2, upd_ne n1]
      exact hb1
  · cases ef
theorem DS.callX (z : Rz wx X) (G : FnD X.prog X.w X.K X.mg X.base (isXK X.K) (L2.CX X.prog X.w) k x ps den) (hr : Room k X.A) (hg : Gl X x) (ha : DA X (e :: es) fs) (hdb : (x == ("__debug__" : Str)) = false := by decide)
    (he : starEach (e :: es) X.env = (false, eval e X.env) :: starEach es X.env := by rfl) (hpl : (backTo pos (starEach es X.env)).any (·.1) = false := by rfl)
    (hs : swapsWith (.Call (.Name x p) (e :: es) [] pos) none pos'.line X.env = pure false := by rfl) : DS wx X (.Expr (.Call (.Name x p) (e :: es) [] pos) pos') (zCallX den fs) := by
  obtain ⟨W, tk, hW⟩ := z.ex
  obtain ⟨f, fd, G, hm, hk, hb⟩ := G.ex
  refine (ps_expr (pe_callS G hr hg hm hk hb (fun σ => passAt (takes_len tk) σ) ha hdb he hpl) hs).w fun Z σ H ⟨F0, H0, F, ρ, fl, S, ef, q⟩ => ?_
  obtain ⟨ds, e1, ef⟩ := bind_some ef
  obtain ⟨res, e2, ef⟩ := bind_some ef
  refine ⟨F, ρ, ds, S.env, e1, fun vs F1 H1 g1 r1 => ⟨F1, ds, res, g1.s, r1, e2, ?_⟩⟩
  cases res with
  | ok r =>
    cases ef
    exact fun v F2 H2 g2 r2 => q σ F2 H2 (S.gro (g1.trans g2))
  | ex c i =>
    cases ef
    exact fun cls d H' l h hl => hW H0 c i q cls d σ H' hl ((S.gr.h.trans g1.h).trans l) h
/-- such a call where nothing is let out -/
theorem DR.callR (G : FnD X.prog X.w X.K X.mg X.base (isXK X.K) (L2.CX X.prog X.w) k x ps den) (hr : Room k X.A) (hg : Gl X x) (ha : DA X (e :: es) fs) (hdb : (x == ("__debug__" : Str)) = false := by decide)
    (he : starEach (e :: es) X.env = (false, eval e X.env) :: starEach es X.env := by rfl) (hpl : (backTo pos (starEach es X.env)).any (·.1) = false := by rfl) : DR X (.Call (.Name x p) (e :: es) [] pos) (kCallD den fs) := by
  obtain ⟨f, fd, G, hm, hk, hb⟩ := G.ex
  exact (pe_call G hr hg hm hk hb .nil (passes_call takes_none5 fun _ _ _ _ h => h) ha hdb he hpl).w callD_w
end
section
variable {P : Program} {w : World} {K : PySem.W.Frag} {mg : Str → Option Value} {base : Heap} {x qual : Str} {f : Addr} {fd : FuncData} {N ps : List Str} {k : Nat} {g : Rho → Option Fl} {params : Arguments} {body : List Stmt} {sc : Scope}
/-- a def that may let an exception out -/
theorem fn_okX (F : FunD K x qual params body sc [] [] f fd) (S : FnScope N ps sc)
    (hb : ∀ (wx : Hp → Str → Int → Prop) (cdv : Value) (A : Around) (outer : List PySem.Env) (s : Shared) (H : Hp) (E : XK), Room k (A.deeper (PyProof.Rows.envOfC qual sc s.heap.objs.size f cdv)) →
      Rz wx (cxOf (L2.CX P w) P w K mg base N qual sc f cdv A outer s H E) → DSs wx (cxOf (L2.CX P w) P w K mg base N qual sc f cdv A outer s H E) body g) :
    FnOk P w K mg base (L2.CX P w) (k + 1) f fd ps (spD (isXK K) (dFn ps.length N.length g)) := by
  refine F.ok S (fun vs H Q E ⟨F, ds, res, l, r, e, q⟩ => by rw [r.length]; exact (dFn_inv e).1) fun cdv A outer s H vs Q E hr ⟨F, ds, res, l, r, e, q⟩ => ?_
  obtain ⟨el, fl, e1, e2⟩ := dFn_inv e
  refine ⟨_, hb (fun H0 c i => ∀ cls d H', Le H0 H' → isXK K c i cls d H' → E cls d H') cdv A outer s H E hr ⟨_, takes_of rfl rfl rfl rfl, fun H0 c i h cls d σ H' _ l x => h cls d H' l x⟩, F, H, F, _, fl, stOk_start (envR_start l r _) own_start, ?_, fin_res e2 q⟩
  rw [r.length, el]
  exact e1
end
end DL

set_option Elab.async false
set_option linter.all false
set_option maxRecDepth 100000
set_option maxHeartbeats 2000000
namespace DL
open PySem PySem.Spec L2
/-! ### try: body; except C as n: return .. of n.at -/
/-- the suite's reading -/
def tsH (K : PySem.W.Frag) (i : Nat) (x : Str) (h : Int → D) : Addr → Value → Option Addr → TS := fun a cls d Z σ H =>
  cls = .ref (He.ga K x) ∧ σ[i]? = some (some (.ref a)) ∧ ∃ dd fs k F, d = some dd ∧ H dd = some (.xd fs) ∧ fs.lookup ("at" : Str) = some (V.int k) ∧ Le F H ∧ ∀ v F1 H1, Gr F H F1 H1 → Rp F1 v (h k) → Z.rt v H1
@[simp] def hAt (k : Int) : D := .int k
@[simp] def hStr (s : Str) (k : Int) : D := .tuple [.str s, .int k]
/-- the clauses -/
inductive Hdl (X : Cx) (n : Str) (i : Nat) : List ExceptHandler → List (Str × (Int → D)) → Prop
  | nil : Hdl X n i [] []
  | cons {x : Str} {h : Int → D} {st : Stmt} {sts : List Stmt} {np hp : Pos} {hds : List ExceptHandler} {l : List (Str × (Int → D))} (hc : Names X x (.ref (He.ga X.K x)))
      (hsu : ∀ (a : Addr) (oe : Obj) (cls : Value) (d : Option Addr) (pn : List (Addr × Obj)), Zc cls d oe → (∃ vs, oe.data = .fields vs) → PSs (X.suite a ((a, oe) :: pn)) (st :: sts) (tsH X.K i x h a cls d)) (r : Hdl X n i hds l) :
      Hdl X n i (.ExceptHandler (some (.Name x np)) (some n) (st :: sts) hp :: hds) ((x, h) :: l)
abbrev cls_ (K : PySem.W.Frag) (i : Nat) (l : List (Str × (Int → D))) : List (Value × (Addr → Value → Option Addr → TS)) := l.map fun q => (.ref (He.ga K q.1), tsH K i q.1 q.2)
section
variable {X : Cx} {wx : Hp → Str → Int → Prop} {n x : Str} {i : Nat} {body : List Stmt} {h₀ : ExceptHandler} {hds : List ExceptHandler} {l : List (Str × (Int → D))} {pos p1 p2 p3 p4 : Pos} {f : Rho → Option Fl}
theorem Hdl.clauses {hds : List ExceptHandler} {l : List (Str × (Int → D))} (h : Hdl X n i hds l) : XI.Clauses X n hds (cls_ X.K i l) := by
  induction h with
  | nil => exact .nil
  | cons hc hsu _ ih => exact .cons hc hsu ih
/-- return n.at -/
theorem hsAt {a : Addr} {oe : Obj} {cls : Value} {d : Option Addr} {pn : List (Addr × Obj)} (T : XfC X.K (He.ga X.K x)) (hno : PySem.W.findIn X.K (.ref (He.ga X.K x)) "at" = some none) (hz : Zc cls d oe) (hf : ∃ vs, oe.data = .fields vs)
    (hv : PE (X.suite a ((a, oe) :: pn)) (.Name n p1) (tVar i)) (hb : attributeBase (.Name n p1) "at" X.env (eval (.Name n p1) X.env) = eval (.Name n p1) X.env := by rfl) :
    PSs (X.suite a ((a, oe) :: pn)) [.Return (some (.Attribute (.Name n p1) "at" p2)) p3] (tsH X.K i x hAt a cls d) :=
  pss_one ((ps_ret (pe_xf T hno hz hf hv hb)).w fun Z σ H ⟨hc, hs, dd, fs, k, F, hd, hH, hl, le, q⟩ => ⟨_, hs, rfl, hc, dd, fs, _, hd, hH, hl, q _ F H (Gr.refl le) (.int k)⟩)
/-- return (s, n.at) -/
theorem hsStr {s : Str} {j kk : Nat} {ps : Pos} {a : Addr} {oe : Obj} {cls : Value} {d : Option Addr} {pn : List (Addr × Obj)} (T : XfC X.K (He.ga X.K x)) (hno : PySem.W.findIn X.K (.ref (He.ga X.K x)) "at" = some none) (hz : Zc cls d oe) (hf : ∃ vs, oe.data = .fields vs)
    (hv : PE (X.suite a ((a, oe) :: pn)) (.Name n p1) (tVar i)) (hb : attributeBase (.Name n p1) "at" X.env (eval (.Name n p1) X.env) = eval (.Name n p1) X.env := by rfl) :
    PSs (X.suite a ((a, oe) :: pn)) [.Return (some (.Tuple [.Constant (.str s) j ps, .Attribute (.Name n p1) "at" p2] kk p4)) p3] (tsH X.K i x (hStr s) a cls d) :=
  pss_one ((ps_ret (pe_tup (pa_cons pe_str (pa_cons (pe_xf T hno hz hf hv hb) pa_nil)))).w fun Z σ H ⟨hc, hs, dd, fs, k, F, hd, hH, hl, le, q⟩ =>
    ⟨_, hs, rfl, hc, dd, fs, _, hd, hH, hl, (by show 2 ≤ sizeLine; decide), fun p hp => q _ _ _ (Gr.frz le hp) (.tup upd_same (.cons (.str s) (.cons (.int k) .nil)))⟩)
theorem wCl_ok {K : PySem.W.Frag} {Wout : WX} {Z : Ends} {c : Str} {h : Int → D} {d : Option Addr} {σ : L2.St} {H : Hp} : ∀ {l : List (Str × (Int → D))}, (∀ q ∈ l, PySem.W.exmOne K (.ref (He.ga K c)) (.ref (He.ga K q.1)) = some (decide (c = q.1))) → l.lookup c = some h →
    (∀ a, H a = none → tsH K i c h a (.ref (He.ga K c)) d (XI.offN i Z) (σ.set i (some (.ref a))) H) → XI.wClauses K i Wout Z (cls_ K i l) (.ref (He.ga K c)) d σ H := by
  intro l
  induction l with
  | nil => intro _ e; cases e
  | cons q l ih =>
    intro hx e t
    refine ⟨_, hx q List.mem_cons_self, fun hb => ?_, fun hb => ?_⟩
    · have hq : c = q.1 := of_decide_eq_true hb
      have eq : q.2 = h := by
        rw [List.lookup] at e
        have : (c == q.1) = true := by rw [hq]; exact beq_self_eq_true _
        rw [this] at e
        exact Option.some.inj e
      intro a ha
      show tsH K i q.1 q.2 a _ d _ _ _
      rw [← hq, eq]
      exact t a ha
    · have hq : ¬ c = q.1 := of_decide_eq_false hb
      refine ih (fun q' h' => hx q' (List.mem_cons_of_mem _ h')) ?_ t
      rw [List.lookup] at e
      have : (c == q.1) = false := by simpa using hq
      rw [this] at e
      exact e
@[simp] def zTry (f : Rho → Option Fl) (l : List (Str × (Int → D))) (ρ : Rho) : Option Fl := if ρ.all (fun s => !s.own) = true then (f ρ).bind fun fl => match fl with
    | .ex c k => (l.lookup c).bind fun h => some (.rt (.fr (h k)))
    | other => some other
  else none
theorem StOk.base {F0 H0 F H F' H' : Hp} {σ σ' : L2.St} {ρ ρ' : Rho} (S : StOk F0 H0 F H σ ρ) (T : StOk F H F' H' σ' ρ') : StOk F0 H0 F' H' σ' ρ' :=
  ⟨T.env, S.gr.trans T.gr, fun i s a e o h => free_of S.gr.h (T.new i s a e o h)⟩
theorem DS.try_ (hs : X.stack = X.env :: X.outer) (hf : X.env.frame = some X.env.locals) (hN : X.N.Nodup) (hi : X.N[i]? = some n) (hln : X.env.kindOf n = some .local)
    (hx : ∀ c h, l.lookup c = some h → ∀ q ∈ l, PySem.W.exmOne X.K (.ref (He.ga X.K c)) (.ref (He.ga X.K q.1)) = some (decide (c = q.1)))
    (hb : ∀ (wx' : Hp → Str → Int → Prop) (pn : List (Addr × Obj)) (xe : Value → Shared → Prop), Rz wx' (X.tr pn xe) → PassesOwn (model X.prog X.w) X.A X.env xe → DSs wx' (X.tr pn xe) body f)
    (hh : Hdl X n i (h₀ :: hds) l) : DS wx X (.Try body (h₀ :: hds) [] [] pos) (zTry f l) := by
  refine (XI.ps_try_clauses hs hf hN hi hln (Wout := fun _ _ _ _ => False) takes_none5 (tb := fun W => tS (fun H0 c i => ∀ cls d (σ : L2.St) H', σ.length = X.N.length → Le H0 H' → isXK X.K c i cls d H' → W cls d σ H') f)
    (fun W pn xe tk po => hb _ pn xe ⟨_, takes_len tk, fun H0 c i h cls d σ H' hl l x _ => h cls d σ H' hl l x⟩ po) hh.clauses).w fun Z σ H ⟨F0, H0, F, ρ, fl, S, ef, q⟩ => ?_
  unfold zTry at ef
  split at ef
  · rename_i no
    obtain ⟨fl1, e1, ef⟩ := bind_some ef
    have no' : ∀ (j : Nat) (s : Sl), ρ[j]? = some s → s.own = false := fun j s e => by
      have := List.all_eq_true.mp no s (List.mem_of_getElem? e)
      simpa using this
    refine ⟨F, H, F, ρ, fl1, stOk_start S.env no', e1, ?_⟩
    cases fl1 with
    | nx ρ' => cases ef; exact fun σ' F' H' T => q σ' F' H' (S.base T)
    | br ρ' => cases ef; exact fun σ' F' H' T => q σ' F' H' (S.base T)
    | ct ρ' => cases ef; exact fun σ' F' H' T => q σ' F' H' (S.base T)
    | rt r => cases ef; exact fun v F' H' g r1 => q v F' H' (S.gr.trans g) (r1.gr (F := F) S.gr.h)
    | ex c k =>
      obtain ⟨h, e2, ef⟩ := bind_some (show (l.lookup c).bind _ = _ from ef)
      cases ef
      intro cls d σ' H' hl le ⟨hc, dd, fs, hd, hH, hat⟩
      subst hc
      refine wCl_ok (hx c h e2) e2 fun a ha => ⟨rfl, ?_, dd, fs, k, F, hd, hH, hat, S.env.le.trans le, fun v F1 H1 g1 r1 => ?_⟩
      · rw [List.getElem?_set_self]
        rw [hl]
        exact (List.getElem?_eq_some_iff.mp hi).1
      · have g0 : Gr F H F H' := ⟨Le.refl _, le, S.env.le.trans le, fun _ h _ => h⟩
        exact q v F1 H1 (S.gr.trans (g0.trans g1)) r1
  · cases ef
end
end DL

set_option Elab.async false
set_option linter.all false
set_option maxRecDepth 100000
set_option maxHeartbeats 2000000
/-! the facts about the exception classes, as the head finds them -/
namespace DL
open PySem PySem.Spec L2
/-- an own class of the chain over ValueError -/
def oexB (K : PySem.W.Frag) (C : Addr) : Bool := (match K.lookup C with
  | some ⟨.type "type", _, .cls cd, sl⟩ => (match cd.mro, sl.toList with
    | .ref C' :: bm, [_, _, _, _, some (.builtin n), _] => decide (C' = C) && (n == "ValueError.__new__" && (!cd.hasDel && (cd.hasDict && PySem.HandSPX.refsVE bm)))
    | _, _ => false)
  | _ => false) && (He.eqO (PySem.W.findIn K (.ref C) "__setattr__") (some (some (.builtin "object.__setattr__"))) && (decide (PySem.W.subIn K (.ref C) (.type "BaseException") = some true) && (decide (PySem.W.typeIn K (.ref C) = some (.type "type")) && PySem.W.keepIn K (.ref C))))
theorem oexB_ok {K : PySem.W.Frag} {C : Addr} (h : oexB K C = true) : OexC K C := by
  obtain ⟨h1, h⟩ := He.ba h
  obtain ⟨h2, h⟩ := He.ba h
  obtain ⟨h3, h⟩ := He.ba h
  obtain ⟨h4, h5⟩ := He.ba h
  refine ⟨?_, He.eqO_ok h2, of_decide_eq_true h3, of_decide_eq_true h4, h5⟩
  split at h1
  · rename_i dd cd sl ho
    split at h1
    · rename_i C' bm k0 k1 k2 k3 n k5 hm hs
      obtain ⟨a1, h1⟩ := He.ba h1
      obtain ⟨a2, h1⟩ := He.ba h1
      obtain ⟨a3, h1⟩ := He.ba h1
      obtain ⟨a4, a5⟩ := He.ba h1
      obtain rfl := of_decide_eq_true a1
      obtain rfl := beq_iff_eq.mp a2
      obtain ⟨nm, bs, mro, ns, qn, hd, sn, sub, ab, col, del⟩ := cd
      dsimp only at hm a3 a4
      subst hm a4
      have a3' : del = false := by cases del <;> first | rfl | cases a3
      subst a3'
      have hsl : sl = #[k0, k1, k2, k3, some (.builtin "ValueError.__new__"), k5] := by
        obtain ⟨l⟩ := sl
        simp only at hs
        rw [hs]
      subst hsl
      exact ⟨nm, qn, ns, bs, bm, sn, sub, ab, col, dd, k0, k1, k2, k3, k5, ho, a5⟩
    · cases h1
  · cases h1
/-- one class x below x0, whose __init__ is x0's -/
def excB (K : PySem.W.Frag) (x0 x : Str) : Bool := oexB K (He.ga K x) && (decide (PySem.W.mroIn K (He.ga K x) (.ref (He.ga K x0)) = some true) && (decide (PySem.W.ks_superIn K (He.ga K x) (He.ga K x0) "__init__" = some (some (.builtin "ValueError.__init__"))) &&
  (decide (PySem.W.subIn K (.ref (He.ga K x)) (.type "ValueError") = some true) && (He.eqO (PySem.W.findIn K (.ref (He.ga K x)) "at") (some none) && (He.eqO (PySem.W.findIn K (.ref (He.ga K x)) "__init__") (some (some (.ref (He.ma K (He.ga K x0) "__init__")))) &&
  (decide (PySem.W.typeIn K (.ref (He.ma K (He.ga K x0) "__init__")) = some (.type "function")) && xfB K (He.ga K x)))))))
structure ExFa (K : PySem.W.Frag) (x0 x : Str) : Prop where
  oex : OexC K (He.ga K x)
  exc : XI.ExC K (He.ga K x0) (He.ga K x)
  ini : PySem.W.findIn K (.ref (He.ga K x)) "__init__" = some (some (.ref (He.ma K (He.ga K x0) "__init__")))
  typ : PySem.W.typeIn K (.ref (He.ma K (He.ga K x0) "__init__")) = some (.type "function")
  xf : XfC K (He.ga K x)
theorem excB_ok {K : PySem.W.Frag} {x0 x : Str} (h : excB K x0 x = true) : ExFa K x0 x := by
  obtain ⟨h1, h⟩ := He.ba h
  obtain ⟨h2, h⟩ := He.ba h
  obtain ⟨h3, h⟩ := He.ba h
  obtain ⟨h4, h⟩ := He.ba h
  obtain ⟨h5, h⟩ := He.ba h
  obtain ⟨h6, h⟩ := He.ba h
  obtain ⟨h7, h8⟩ := He.ba h
  exact ⟨oexB_ok h1, ⟨oexB_ok h1, of_decide_eq_true h2, of_decide_eq_true h3, of_decide_eq_true h4, He.eqO_ok h5⟩, He.eqO_ok h6, of_decide_eq_true h7, xfB_ok h8⟩
/-- x0's __init__ -/
abbrev InV : Type := Option (Str × Str × Arguments × FuncBody × Scope × Addr × Addr)
def initV (x0 : Str) (K : PySem.W.Frag) : InV := match K.lookup (He.ma K (He.ga K x0) "__init__") with
  | some ⟨_, _, .func fd, _⟩ => some (fd.name, fd.qualname, fd.params, fd.body, fd.scope, fd.globals, fd.builtins)
  | _ => none
def initB (x0 file : Str) (K : PySem.W.Frag) : Bool := match K.lookup (He.ma K (He.ga K x0) "__init__") with
  | some ⟨_, _, .func fd, _⟩ => (match fd.closure, fd.code with
    | [(n, cc)], .ref c => (match fd.defaults with
      | .none => true
      | _ => false) && (decide (n = ("__class__" : Str)) && (PySem.W.codeIn K (.ref c) fd.qualname && ((match K.lookup c with
        | some ⟨_, _, .fields (vs : Array Value), _⟩ => (match (vs[2]? : Option Value) with
          | some (Value.str f _) => decide (f = file)
          | _ => false)
        | _ => false) && ((match K.lookup cc with
        | some ⟨_, _, .cell (some (.ref D)), _⟩ => decide (D = He.ga K x0)
        | _ => false) && ((PySem.W.clsIn K (He.ga K x0)).isSome && He.eqO (PySem.W.nsIn K cStatics "thirdparty.any") (some none))))))
    | _, _ => false)
  | _ => false
theorem init_of {P : Program} {K : PySem.W.Frag} {x0 file qual : Str} {params : Arguments} {body : List Stmt} {scope : Scope} (e : initV x0 K = (some (("__init__" : Str), qual, params, FuncBody.stmts body, scope, mainGlobals, builtinsNs) : InV)) (c : initB x0 file K = true) (hP : (P.main.file : Str) = file) :
    ∃ fd cc cd, XI.InitF P K (He.ma K (He.ga K x0) "__init__") (He.ga K x0) cc cd qual params body scope fd ∧ fd.defaults = .none := by
  unfold initV at e
  unfold initB at c
  cases q : K.lookup (He.ma K (He.ga K x0) "__init__") with
  | none => rw [q] at c; cases c
  | some o =>
    obtain ⟨oc, od, dt, osl⟩ := o
    rw [q] at c e
    cases dt with
    | func fd =>
      obtain ⟨n1, n2, n3, n4, n5, n6, n7, n8, n9, n10, n11, n12, n13, n14, n15⟩ := fd
      have e2 : (some (n1, n2, n3, n4, n5, n6, n15) : InV) = (some (("__init__" : Str), qual, params, FuncBody.stmts body, scope, mainGlobals, builtinsNs) : InV) := e
      simp only [Option.some.injEq, Prod.mk.injEq] at e2
      obtain ⟨h1, h2, h3, h4, h5, h6, h8⟩ := e2
      subst h1 h2 h3 h4 h5 h6 h8
      dsimp only at c
      split at c
      · rename_i cc cd
        obtain ⟨c0, c⟩ := He.ba c
        obtain ⟨c1, c⟩ := He.ba c
        obtain ⟨c2, c⟩ := He.ba c
        obtain ⟨c3, c⟩ := He.ba c
        obtain ⟨c4, c⟩ := He.ba c
        obtain ⟨c5, c6⟩ := He.ba c
        obtain rfl := of_decide_eq_true c1
        refine ⟨_, cc, cd, ⟨⟨oc, od, n8, n9, n10, n11, n14, n12, osl, rfl, q⟩, c2, ?_, ?_, Option.isSome_iff_exists.mp c5, He.eqO_ok c6⟩, by
          show n8 = _
          split at c0
          · rfl
          · cases c0⟩
        · split at c3
          · rename_i ccl cdd vs ccs hl
            split at c3
            · rename_i f tf hv
              obtain rfl := of_decide_eq_true c3
              exact ⟨_, _, _, _, _, _, hl, hv, by rw [hP]; exact beq_self_eq_true _⟩
            · cases c3
          · cases c3
        · split at c4
          · rename_i cl cld D csl hl
            obtain rfl := of_decide_eq_true c4
            exact ⟨_, _, _, hl⟩
          · cases c4
      · cases c
    | _ => cases c
/-! ### the hook -/
abbrev AlX : Type := He.AlD × (Bool × InV)
/-- the addresses: what the names reach, the statics, the closures -/
def asX (g : Addr → Option Obj) (n : Nat) : List Addr := (cStatics :: He.asD g n) ++ (He.asD g n).flatMap fun a => match g a with
  | some o => (match o.data with
    | .func fd => fd.closure.map (·.2)
    | _ => [])
  | none => []
def obsX (fa : List He.Fa) (fn : List He.DefD) (ex : PySem.W.Frag → Bool) (iv : PySem.W.Frag → InV) (K : PySem.W.Frag) : AlX := (He.obsD fa fn K, ex K, iv K)
def obsXG (n : Nat) (fa : List He.Fa) (fn : List He.DefD) (ex : PySem.W.Frag → Bool) (iv : PySem.W.Frag → InV) (g : Addr → Option Obj) : AlX := obsX fa fn ex iv (He.frG g (asX g n))
def hookX (n : Nat) (fa : List He.Fa) (fn : List He.DefD) (ex : PySem.W.Frag → Bool) (iv : PySem.W.Frag → InV) (v : InV) : PySem.W.Hook where
  α := AlX
  obs := fun s => obsXG n fa fn ex iv s.heap.get?
  val := fun _ => (He.valD fn, true, v)
  says := fun _ h => ∃ K : PySem.W.Frag, K.In h ∧ He.SaysD fa fn K ∧ ex K = true ∧ iv K = v
  of := fun _ _ e => ⟨_, He.frG_in, congrArg (fun z : AlX => z.1) e, congrArg (fun z : AlX => z.2.1) e, congrArg (fun z : AlX => z.2.2) e⟩
  keeps := fun _ _ _ ⟨K, hK, c⟩ k => ⟨K, PySem.W.Frag.In.keeps hK k, c⟩
theorem obsXG_eq {n : Nat} {fa : List He.Fa} {fn : List He.DefD} {ex : PySem.W.Frag → Bool} {iv : PySem.W.Frag → InV} {v : InV} {g : Addr → Option Obj} {s : Shared} (h : ∀ a, g a = s.heap.get? a) : obsXG n fa fn ex iv g = (hookX n fa fn ex iv v).obs s := by
  have e : g = s.heap.get? := funext h
  rw [e] <;> rfl
/-- the classes cs, raised or caught -/
def clsB (x0 : Str) (cs : List Str) (K : PySem.W.Frag) : Bool := cs.all fun c => He.eqO (PySem.W.nsIn K mainGlobals c) (some (some (.ref (He.ga K c)))) && (excB K x0 c && cs.all fun x => decide (PySem.W.exmOne K (.ref (He.ga K c)) (.ref (He.ga K x)) = some (decide (c = x))))
theorem clsB_at {x0 : Str} {cs : List Str} {K : PySem.W.Frag} (h : clsB x0 cs K = true) {c : Str} (hc : c ∈ cs) : PySem.W.nsIn K mainGlobals c = some (some (.ref (He.ga K c))) ∧ ExFa K x0 c ∧ ∀ x ∈ cs, PySem.W.exmOne K (.ref (He.ga K c)) (.ref (He.ga K x)) = some (decide (c = x)) := by
  obtain ⟨h1, h2⟩ := He.ba (List.all_eq_true.mp h c hc)
  obtain ⟨h2, h3⟩ := He.ba h2
  exact ⟨He.eqO_ok h1, excB_ok h2, fun x hx => of_decide_eq_true (List.all_eq_true.mp h3 x hx)⟩
theorem xcd_of {P : Program} {w : World} {K : PySem.W.Frag} {mg : Str → Option Value} {base : Heap} {x0 x : Str} {fd : FuncData} (E : ExFa K x0 x) (F : FnOk P w K mg base (L2.CX P w) 1 (He.ma K (He.ga K x0) "__init__") fd ["self", "at"] (XI.spInit K (He.ga K x0))) (B : Binds K fd ["self", "at"] []) (m : mg x = some (.ref (He.ga K x))) : XcD P w K mg base x :=
  ⟨E.oex, ⟨_, fd, _, E.ini, E.typ, F, E.exc, B⟩, m⟩
end DL

set_option Elab.async false
set_option linter.all false
set_option maxRecDepth 100000
set_option maxHeartbeats 2000000
/-! sorting tuples of which one is empty at least: the rule that list.sort falls back on -/
namespace ST
open PySem PySem.W PySem.Spec PyProof.Rows PySem.SeqAt
section
variable {prog : Program} {w : World} {A : Around} {E : Value → Shared → Prop} {s : Shared}
theorem call_tuple_lt {Q : Value → Shared → Prop} {l b : Addr} {items items2 : Array Value} {e r : Nat → Bool} (hl : s.heap.IsTuple l items) (hb : s.heap.IsTuple b items2)
    (he : ∀ j (h1 : j < items.size) (h2 : j < items2.size), EqAt A.in1 s items[j] items2[j] (e j)) (hr : ∀ j (h1 : j < items.size) (h2 : j < items2.size), e j = false → RcLt A.in1 s items[j] items2[j] (r j))
    (h : Q (.bool (firstLt e r (decide (items.size < items2.size)) (List.range (min items.size items2.size)))) s) : wpAny (model prog w) A (call (.builtin "tuple.__lt__") [.ref l, .ref b]) Q E s := by
  obtain ⟨⟨cls, dd, data, sl⟩, ho, hc, n, hd⟩ := id hl
  obtain ⟨⟨cls2, dd2, data2, sl2⟩, ho2, hc2, n2, hd2⟩ := id hb
  simp only at hc hd hc2 hd2
  subst hc hd hc2 hd2
  exact call_meets F.slot_tuple_lt ⟨_, ho, rfl⟩ F.entry_tuple_lt (F.args_tuple_lt_2 _ _) (tuple_ltAt l b items items2 n n2 dd dd2 sl sl2 e r) ⟨ho, ho2, he, hr, h⟩
theorem oneLt_tup {xs ys : List PyData} {a b : Value} {as bs : List Addr} {Q : Bool → Shared → Prop} (ra : Reads s.heap a (.tuple xs) as) (rb : Reads s.heap b (.tuple ys) bs) (hal : alikeAll xs ys = true)
    (hu : A.units + min (PyData.tuple xs).depth (PyData.tuple ys).depth < cLine) (hq : Q (dataLt (.tuple xs) (.tuple ys)) s) : ∀ f, wpAny (model prog w) A (oneLt' f a b) Q E s
  | false => oneLt_alike (f := false) (fun h => nomatch h) ra rb (by simpa [alike] using hal) (fun z => nomatch z) hu hq
  | true => by
    cases ra with
    | @tuple l o vs n _ as₁ h1 h2 h3 h4 =>
      cases rb with
      | @tuple l' o' vs' n' _ bs₁ k1 k2 k3 k4 =>
        have n1 : vs.size = xs.length := by simpa using SeqAt.ReadsAll.length _ _ _ h4
        have n2 : vs'.size = ys.length := by simpa using SeqAt.ReadsAll.length _ _ _ k4
        rw [dataLt_tuple, ← firstLt_toks xs ys hal, ← n1, ← n2] at hq
        rw [oneLt'_eq]
        simp only [if_true]
        refine wpAny_bind (wpAny_cRoomFor (SeqAt.room_here hu) ?_)
        refine wpAny_bind (wpAny_callSpecialIfBound?_slot (T := "tuple") ⟨_, h1, h2⟩ F.slot_tuple_lt (call_tuple_lt (e := pairEq xs ys) (r := fun j => dataLt (xs.getD j .none) (ys.getD j .none)) ⟨_, h1, h2, _, h3⟩ ⟨_, k1, k2, _, k3⟩ (fun j j1 j2 => ?_) (fun j j1 j2 hj => ?_) ?_))
        · have := eqAt_alikeAll xs ys A.in1 s vs.toList vs'.toList _ _ h4 k4 hal (SeqAt.room_in hu) j (by simpa using j1) (by simpa using j2)
          simpa using this
        · have := rcLt_alikeAll xs ys A.in1 s vs.toList vs'.toList _ _ h4 k4 hal (SeqAt.room_in hu) j (by simpa using j1) (by simpa using j2) hj
          simpa using this
        · exact wpAny_truthy_bool hq
def FirstOf (h : Heap) (v : Value) (o : Option Value) : Prop := ∃ a ob xs n, v = .ref a ∧ h.get? a = some ob ∧ ob.cls = .type "tuple" ∧ ob.data = .seq xs n ∧ xs[0]? = o
theorem firsts_any {M : Model} : ∀ (vs : List Value) (os : List (Option Value)) {Q : List (Option Value) → Shared → Prop}, EachIs (FirstOf s.heap) vs os → Q os s → wpAny M A (vs.mapM firstOfTuple') Q E s
  | _, _, _, .nil, h => by rw [List.mapM_nil]; exact wpAny_pure h
  | v :: vs, o :: os, Q, .cons ⟨a, ob, xs, n, e, ho, hc, hd, hf⟩ t, h => by
    subst e
    rw [List.mapM_cons]
    refine wpAny_bind ?_
    rw [kas_first_eq]
    refine wpAny_bind (Looks.here (show Looks M s.heap (typeOf (.ref a)) ob.cls from (Looks.ld ho).andThen .now) ?_)
    rw [hc, if_neg (by first | decide | simp)]
    refine wpAny_bind (listItems_at ho hd (wpAny_pure ?_))
    rw [hf]
    exact wpAny_bind (firsts_any vs os (Q := fun bs s' => wpAny M A (pure (o :: bs)) Q E s') t (wpAny_pure h))
theorem kind_any {M : Model} {vs : List Value} {os : List (Option Value)} {Q : SortKind → Shared → Prop} (t : EachIs (FirstOf s.heap) vs os) (h2 : 2 ≤ vs.length) (hn : none ∈ os) (hT : ∀ v ∈ vs, Looks M s.heap (typeOf v) (.type "tuple"))
    (h : Q (if (os[0]?.bind id).isSome = true then general' else oneType') s) : wpAny M A (keyKind' vs.toArray) Q E s := by
  obtain ⟨v₁, rest, rfl⟩ : ∃ v₁ rest, vs = v₁ :: rest := by
    match vs, h2 with
    | v₁ :: rest, _ => exact ⟨v₁, rest, rfl⟩
  rw [kat_kind_eq, List.mapM_toArray, map_eq_pure_bind]
  refine wpAny_bind (wpAny_bind (firsts_any _ os t (wpAny_pure ?_)))
  have hall : (os.toArray.all fun x => x.isSome) = false := by
    rw [List.all_toArray, List.all_eq_false]
    exact ⟨none, hn, by simp⟩
  rw [if_neg (by rw [hall]; exact Bool.false_ne_true)]
  have e0 : os.toArray[0]? = os[0]? := by simp
  rw [e0]
  by_cases c : (os[0]?.bind id).isSome = true
  · rw [if_pos c] at h ⊢
    exact wpAny_pure h
  · rw [if_neg c] at h ⊢
    rw [oneTypeOnly'_eq, List.mapM_toArray, map_eq_pure_bind]
    refine wpAny_bind (wpAny_bind (wpAny_bind (kas_mapM (r := .type "tuple") _ (fun v hv Q' hq => (hT v hv).here hq) (wpAny_pure ?_))))
    have hall2 : ((List.map (fun _ => Value.type "tuple") (v₁ :: rest)).toArray.all fun x => x == Value.type "tuple") = true := by
      simp only [List.all_toArray, List.all_map, List.all_eq_true]
      intro _ _
      exact beq_self_eq_true _
    have h0 : (List.map (fun _ => Value.type "tuple") (v₁ :: rest)).toArray[0]? = some (.type "tuple") := by simp
    rw [h0]
    simp only [hall2, if_true]
    exact wpAny_pure (wpAny_pure h)
theorem each_first {h : Heap} : ∀ {vs : List Value} {ds : List PyData}, EachIs (fun v d => ∃ as, Reads h v d as) vs ds → (∀ d ∈ ds, ∃ xs, d = .tuple xs) → ∃ os, EachIs (FirstOf h) vs os ∧ (.tuple [] ∈ ds → none ∈ os)
  | _, _, .nil, _ => ⟨[], .nil, fun z => (nomatch z)⟩
  | _, _, .cons (b := d) ⟨as, r⟩ t, ht => by
    obtain ⟨os, h1, h2⟩ := each_first t fun d hd => ht d (List.mem_cons_of_mem _ hd)
    obtain ⟨l, rfl⟩ := ht d (List.mem_cons_self ..)
    cases r with
    | @tuple a o xs n _ _ ho hc hd hr =>
      refine ⟨xs[0]? :: os, .cons ⟨a, o, xs, n, rfl, ho, hc, hd, rfl⟩ h1, fun hm => ?_⟩
      rcases List.mem_cons.mp hm with e | hm
      · have el : l = [] := by injection e with e; exact e.symm
        subst el
        have : xs.toList = [] := by
          cases q : xs.toList with
          | nil => rfl
          | cons a b => rw [q] at hr; cases hr
        have e0 : xs[0]? = none := by rw [← Array.getElem?_toList, this]; rfl
        rw [e0]
        exact List.mem_cons_self ..
      · exact List.mem_cons_of_mem _ (h2 hm)
/-- tuples that are alike, one of them empty, can be sorted -/
theorem sortsAt_tups {vs : List Value} {ds : List PyData} (e : EachIs (fun v d => ∃ as, Reads s.heap v d as) vs ds) (hal : AllAlike ds) (ht : ∀ d ∈ ds, ∃ xs, d = .tuple xs) (hn : .tuple [] ∈ ds) (hu : ∀ d, d ∈ ds → A.units + d.depth < cLine) : SortsAt prog w A s (dataKind s.heap ds) vs := by
  have room : ∀ {d d' : PyData}, d ∈ ds → A.units + min d.depth d'.depth < cLine := fun {d d'} hd => Nat.lt_of_le_of_lt (Nat.add_le_add_left (Nat.min_le_left _ _) _) (hu d hd)
  obtain ⟨os, o1, o2⟩ := each_first e ht
  have lt : ∀ (f : Bool) (E : Value → Shared → Prop) (x y : Value) (a b : List (Int ⊕ List Nat)) {Q : Bool → Shared → Prop}, (dataKind s.heap ds).keyOf x = some a → (dataKind s.heap ds).keyOf y = some b → Q ((dataKind s.heap ds).blt a b) s → wpAny (model prog w) A (oneLt' f x y) Q E s := by
    intro f E x y a b Q ha hb hq
    obtain ⟨d, as, hd, ra, rfl⟩ := dataKind_inv ha
    obtain ⟨d', as', hd', rb, rfl⟩ := dataKind_inv hb
    have hdd := hal d hd d' hd'
    have hroom := room (d' := d') hd
    obtain ⟨xs, rfl⟩ := ht d hd
    obtain ⟨ys, rfl⟩ := ht d' hd'
    exact oneLt_tup ra rb (by simpa [alike] using hdd) hroom hq f
  refine ⟨fun v hv => ?_, if (os[0]?.bind id).isSome = true then general' else oneType', ?_, fun h2 E Q hq => ?_⟩
  · obtain ⟨d, hd, as, r⟩ := e.left v hv
    exact ⟨_, dataKind_some hal hd r⟩
  · intro E x y a b Q ha hb hq
    split
    · exact lt false E x y a b ha hb hq
    · rw [keyLt'_oneType]
      exact lt true E x y a b ha hb hq
  · refine kind_any o1 h2 (o2 hn) (fun v hv => ?_) hq
    obtain ⟨d, hd, as, r⟩ := e.left v hv
    obtain ⟨xs, rfl⟩ := ht d hd
    exact looks_reads r
end
end ST

set_option Elab.async false
set_option linter.all false
set_option maxRecDepth 100000
set_option maxHeartbeats 2000000
/-! dicts with tuples of ints as keys; membership in a name's own dict; sorted(d) -/
namespace DL
open PySem PySem.Spec PyProof.Rows L2
/-! ### keys -/
def intKs : List D → Option (List Int)
  | [] => some []
  | .int i :: r => (intKs r).bind fun l => some (i :: l)
  | _ => none
@[simp] def asKey : D → Option (List Int)
  | .tuple ds => intKs ds
  | _ => none
abbrev ky (ks : List Int) : List Key := ks.map Sum.inl
abbrev tupI (ks : List Int) : D := .tuple (ks.map PyData.int)
theorem ik_map : ∀ ks : List Int, intKs (ks.map PyData.int) = some ks
  | [] => rfl
  | k :: ks => by simp [intKs, ik_map ks]
theorem ik_inv : ∀ {ds : List D} {ks : List Int}, intKs ds = some ks → ds = ks.map PyData.int
  | [], _, h => by cases h; rfl
  | d :: ds, ks, h => by
    cases d with
    | int i =>
      obtain ⟨l, h1, h2⟩ := bind_some (show (intKs ds).bind _ = _ from h)
      cases h2
      rw [ik_inv h1]
      rfl
    | _ => cases h
theorem ky_inj : ∀ {a b : List Int}, ky a = ky b → a = b
  | [], [], _ => rfl
  | [], _ :: _, h => by cases h
  | _ :: _, [], h => by cases h
  | x :: a, y :: b, h => by
    have h' : Sum.inl x :: ky a = Sum.inl y :: ky b := h
    injection h' with h1 h2
    injection h1 with h1
    rw [h1, ky_inj h2]
theorem rpInts : ∀ {F : Hp} {vs : List V} {ks : List Int}, RpAll F vs (ks.map PyData.int) → vs = (ky ks).map kV
  | F, [], [], _ => rfl
  | F, v :: vs, [], r => by cases r
  | F, [], k :: ks, r => by cases r
  | F, v :: vs, k :: ks, r => by
    cases r with
    | cons r1 r2 =>
      cases r1
      rw [rpInts r2]
      rfl
theorem rpKey {F : Hp} {v : V} {d : D} {ks : List Int} (r : Rp F v d) (h : asKey d = some ks) : ∃ b, v = .ref b ∧ F b = some (.tup ((ky ks).map kV)) := by
  cases d with
  | tuple ds =>
    have e := ik_inv (show intKs ds = some ks from h)
    subst e
    cases r with
    | tup h1 h2 => rw [rpInts h2] at h1; exact ⟨_, rfl, h1⟩
  | _ => cases h
theorem rpKey' {F : Hp} {b : Addr} {ks : List Int} (h : F b = some (.tup ((ky ks).map kV))) : Rp F (.ref b) (tupI ks) :=
  .tup h (by
    have : ∀ ks : List Int, RpAll F ((ky ks).map kV) (ks.map PyData.int) := fun ks => by
      induction ks with
      | nil => exact .nil
      | cons k ks ih => exact .cons (.int k) ih
    exact this ks)
/-! ### put, in -/
def putT (ds : List (List Int × D)) (j : List Int) (d : D) : List (List Int × D) :=
  if (ds.any fun kv => decide (kv.1 = j)) = true then ds.map (fun kv => if kv.1 = j then (kv.1, d) else kv) else ds ++ [(j, d)]
theorem ktR_any {F : Hp} {j : List Int} : ∀ {vs : List (List Key × V)} {ds : List (List Int × D)}, KtR F vs ds → (vs.any fun kv => decide (kv.1 = ky j)) = ds.any fun kv => decide (kv.1 = j)
  | _, _, .nil => rfl
  | (k, v) :: vs, (i, e) :: ds, .cons h r => by
    obtain ⟨h1, h2⟩ := h
    simp only at h1
    subst h1
    rw [List.any_cons, List.any_cons, ktR_any r]
    congr 1
    by_cases q : i = j
    · simp [q]
    · have : ¬ ky i = ky j := fun z => q (ky_inj z)
      simp only [decide_eq_false q, decide_eq_false this]
theorem ktR_put {F : Hp} {j : List Int} {v : V} {d : D} {vs : List (List Key × V)} {ds : List (List Int × D)} (h : KtR F vs ds) (r : Rp F v d) : KtR F (putK vs (ky j) v) (putT ds j d) := by
  unfold putK putT
  rw [ktR_any h]
  split
  · refine paired_map (fun p q z => ?_) h
    obtain ⟨e1, e2⟩ := z
    by_cases e : q.1 = j
    · rw [if_pos e, if_pos (by rw [e1, e])]
      exact ⟨e1, r⟩
    · rw [if_neg e, if_neg (fun z => e (by rw [e1] at z; exact ky_inj z))]
      exact ⟨e1, e2⟩
  · exact paired_app ⟨rfl, r⟩ h
section
variable {X : Cx} {wx : Hp → Str → Int → Prop} {e a b o k tg : Expr} {pos p tpos : Pos} {i : Nat} {x : Str} {pos' : Pos}
@[simp] def zTnew (i : Nat) (ρ : Rho) : Option Fl := some (.nx (ρ.set i (.dt [])))
theorem DS.tnew {dpos : Pos} (hN : X.N.Nodup) (hi : X.N[i]? = some x) (hx : Loc X.env.scope x) (hs : swapsWith (.Dict [] [] dpos) (some (.Name x pos')) pos.line X.env = pure false := by rfl) (hf : X.fn x = true ∨ X.env.scope.names.lookup x = some .local := by first | exact .inl rfl | exact .inr rfl | assumption) :
    DS wx X (.Assign [.Name x pos'] (.Dict [] [] dpos) pos) (zTnew i) := (ps_set hN hi hx pe_dnewT hs hf).w fun Z σ H ⟨F0, H0, F, ρ, fl, S, ef, q⟩ => by
  cases ef
  intro p hp
  have S1 := S.gro (Gr.lay S.env.le (o := .dT []) hp)
  refine q _ F _ (S1.setOwn i ⟨p, [], rfl, free_of S.env.le hp, upd_same, .nil⟩ (free_of S.gr.h hp) fun j s e o _ h => ?_)
  exact (S.env.own_at e o h).2 hp
@[simp] def zTput (i : Nat) (f g : Rho → Option D) (ρ : Rho) : Option Fl := (f ρ).bind fun d => match ρ[i]? with
  | some (.dt kvs) => (g ρ).bind fun kd => (asKey kd).bind fun n => if kvs.length < line then some (.nx (ρ.set i (.dt (putT kvs n d)))) else none
  | _ => none
theorem DS.tput {f g : Rho → Option D} (hu : X.A.units + 65 < cLine) (he : DE X e f) (ho : PE X o (tVar i)) (hk : DE X k g) (hs : swapsWith e (some (.Subscript o k tpos)) pos.line X.env = pure false := by rfl) : DS wx X (.Assign [.Subscript o k tpos] e pos) (zTput i f g) :=
  (ps_dput (by omega) ho hk he hs).w fun Z σ H ⟨F0, H0, F, ρ, fl, S, ef, q⟩ => by
  obtain ⟨d, e1, ef⟩ := bind_some ef
  split at ef
  · rename_i kvs hx
    obtain ⟨kd, e2, ef⟩ := bind_some ef
    obtain ⟨n, e3, ef⟩ := bind_some ef
    split at ef
    · rename_i hl
      cases ef
      refine ⟨F, ρ, d, S.env, e1, fun v F1 H1 g1 r1 => ?_⟩
      have S1 := S.gro g1
      obtain ⟨o, h1, a, vs, rfl, hf, hh, r⟩ := S1.env.sl _ _ hx
      refine ⟨_, h1, F1, ρ, _, S1.env, e2, fun u F2 H2 g2 r2 => ?_⟩
      obtain ⟨b, rfl, hb⟩ := rpKey r2 e3
      have S2 := S1.gro g2
      have r' := r.mono g2.f
      refine ⟨a, _, rfl, DPut.t (k := ky n) (g2.h _ _ hh) (g2.s _ _ hb) (by rw [paired_len r', line_eq]; exact hl), ?_⟩
      exact q σ F2 _ (S2.mut hx rfl rfl h1 ⟨a, _, rfl, (S2.env.own_at hx rfl h1).1, upd_same, ktR_put r' (r1.mono g2.f)⟩)
    · cases ef
  · cases ef
/-- x in d, x not in d -/
def rDin : R2 := fun x y H Q => ∃ a o, y = .ref a ∧ DGet H a x o ∧ Q (.bl o.isSome) H
def rDnin : R2 := fun x y H Q => ∃ a o, y = .ref a ∧ DGet H a x o ∧ Q (.bl (!o.isSome)) H
theorem op_inDk (hu : X.A.units + 65 < cLine) : OpR X (compareOp .In) rDin := by
  intro pins s σ H x y v u Q I rx ry h
  obtain ⟨a, o, rfl, g, q⟩ := h
  cases ry
  exact d_in (by omega) I g rx fun s' I' => ⟨.bl o.isSome, H, I', rfl, q⟩
theorem op_ninDk (hu : X.A.units + 65 < cLine) : OpR X (compareOp .NotIn) rDnin := by
  intro pins s σ H x y v u Q I rx ry h
  obtain ⟨a, o, rfl, g, q⟩ := h
  cases ry
  exact d_notIn (by omega) I g rx fun s' I' => ⟨.bl (!o.isSome), H, I', rfl, q⟩
@[simp] def kHas (i : Nat) (g : Rho → Option D) (ρ : Rho) : Option Bool := (g ρ).bind fun kd => match ρ[i]? with
  | some (.dk kvs) => (match kd with
    | .int n => some (kvs.any fun kv => decide (kv.1 = n))
    | _ => none)
  | some (.dt kvs) => (asKey kd).bind fun n => some (kvs.any fun kv => decide (kv.1 = n))
  | _ => none
@[simp] def kDin (neg : Bool) (i : Nat) (g : Rho → Option D) (ρ : Rho) : Option D := (kHas i g ρ).bind fun b => some (.bool (if neg = true then !b else b))
theorem kHas_w {g : Rho → Option D} {neg : Bool} {r : R2} (hr : ∀ x a H o (Q : VK), DGet H a x o → Q (.bl (if neg = true then !o.isSome else o.isSome)) H → r x (.ref a) H Q) (σ : L2.St) (H : Hp) (Q : VK) (h : tE (kDin neg i g) σ H Q) : tOp r (tE g) (tVar i) σ H Q := by
  obtain ⟨F, ρ, d, E, ef, q⟩ := h
  obtain ⟨bb, e1, ef⟩ := bind_some ef
  cases ef
  obtain ⟨kd, e2, e3⟩ := bind_some e1
  refine ⟨F, ρ, kd, E, e2, fun u F1 H1 g1 r1 => ?_⟩
  have E1 := E.gr g1
  split at e3
  · rename_i kvs hx
    split at e3
    · rename_i n
      cases e3
      obtain ⟨o, h1, a, vs, rfl, hf, hh, rr⟩ := E1.sl _ _ hx
      cases r1
      refine ⟨_, h1, hr _ a H1 _ Q (DGet.k (k := Sum.inl n) hh) ?_⟩
      rw [← valV_any, kvR_any rr]
      exact q _ F1 H1 g1 (.bl _)
    · cases e3
  · rename_i kvs hx
    obtain ⟨n, e4, e3⟩ := bind_some e3
    cases e3
    obtain ⟨o, h1, a, vs, rfl, hf, hh, rr⟩ := E1.sl _ _ hx
    obtain ⟨b, rfl, hb⟩ := rpKey r1 e4
    refine ⟨_, h1, hr _ a H1 _ Q (DGet.t (k := ky n) hh (g1.s _ _ hb)) ?_⟩
    rw [← valV_any, ktR_any rr]
    exact q _ F1 H1 g1 (.bl _)
  · cases e3
theorem DE.dIn {g : Rho → Option D} (hu : X.A.units + 65 < cLine) (ha : DE X a g) (ho : PE X o (tVar i)) (hm : behindInMarks .In o = false := by rfl) : DE X (.Compare a [.In] [o] pos) (kDin false i g) :=
  (pe_cmpR (op_inDk hu) ha ho hm).w fun σ H Q h => kHas_w (fun x a H o Q g q => ⟨a, o, rfl, g, q⟩) σ H Q h
theorem DE.dNin {g : Rho → Option D} (hu : X.A.units + 65 < cLine) (ha : DE X a g) (ho : PE X o (tVar i)) (hm : behindInMarks .NotIn o = false := by rfl) : DE X (.Compare a [.NotIn] [o] pos) (kDin true i g) :=
  (pe_cmpR (op_ninDk hu) ha ho hm).w fun σ H Q h => kHas_w (fun x a H o Q g q => ⟨a, o, rfl, g, q⟩) σ H Q h
end
/-! ### sorted(d) -/
theorem kdl_raw {prog : Program} {w : World} {d : Addr} {es : Array DictEntry} {ep : Nat} (lo : (d == sysModules) = false) : PySem.W.KdlSrc prog w "dict" d d es.size (fun i v => ∃ hi : i < es.size, v = es[i].key) (fun h => h.DictRaw d es ep) where
  type := fun _ hm => hm.typeIs
  there := fun _ hm => let ⟨o, ho, _⟩ := hm; ⟨Heap.lt_size ho, Heap.lt_size ho⟩
  keep := fun _ _ hm hk => hm.at fun o e => hk d (.inl rfl) o e
  notList := by decide
  notTuple := by decide
  hint := fun _ _ _ _ hm hq => PySem.W.kdl_hint_dict hm.typeIs hq
  iter := fun _ s hh hm => ⟨_, _, (fun _ _ hq => wpAny_pyIter_dict_raw lo hm hq), Walks.rawKeys hh _ d (let ⟨o, ho, _⟩ := hm; Nat.ne_of_lt (Heap.lt_size ho)) es ep, ⟨⟨_, Heap.get?_push_size _ rfl, rfl, rfl⟩, hm.at fun o e => Heap.get?_push_of_some _ e⟩⟩
section
variable {prog : Program} {w : World} {A : Around} {E : Value → Shared → Prop} {s : Shared} {β : Type} {vs : List Value} {bs : List β} {enc : β → PyData} {R : Value → β → Prop}
theorem list_sort_at {a : Addr} {n : Nat} {Q : Value → Shared → Prop} (ho : s.heap.get? a = some (seqObj "list" vs.toArray n)) (e : PySem.W.EachIs R vs bs) (er' : PySem.W.EachIs (fun v b => ∃ as, Reads (PySem.W.sortingHeap s.heap a vs) v (enc b) as) vs bs) (hal : PySem.W.AllAlike (bs.map enc)) (hk : PySem.W.Sortable (bs.map enc) ∨ ((∀ d ∈ bs.map enc, ∃ xs, d = .tuple xs) ∧ .tuple [] ∈ bs.map enc)) (hL : bs.length ≤ sizeLine)
    (hu : ∀ b, b ∈ bs → A.units + 1 + (enc b).depth < cLine) (h : ∀ out, out.length = bs.length → PySem.W.EachIs R out (bs.mergeSort (PySem.W.dataLe false enc)) → Q .none { s with heap := sortedHeap s.heap a vs (List.toArray out) }) :
    wpAny (model prog w) A (call (.builtin "list.sort") [.ref a]) Q E s := by
  have em := PySem.W.each_map (R := fun v d => ∃ as, Reads (PySem.W.sortingHeap s.heap a vs) v d as) enc er'
  have S : PySem.W.SortsAt prog w A.in1 { s with heap := PySem.W.sortingHeap s.heap a vs } (PySem.W.dataKind (PySem.W.sortingHeap s.heap a vs) (bs.map enc)) vs := by
    rcases hk with hk | ⟨ht, hn⟩
    · exact PySem.W.SortsAt.data (s := { s with heap := PySem.W.sortingHeap s.heap a vs }) em hal hk (PySem.W.bound_map hu)
    · exact ST.sortsAt_tups (s := { s with heap := PySem.W.sortingHeap s.heap a vs }) em hal ht hn (PySem.W.bound_map hu)
  refine wpAny_call_entry slot_list_sort ⟨_, ho, rfl⟩ entry_list_sort (PySem.W.list_sort_vals (κ := PySem.W.dataKind (PySem.W.sortingHeap s.heap a vs) (bs.map enc)) ho S (by rw [e.length]; exact hL) ⟨.none, rfl, ?_⟩) (args_list_sort _)
  exact h _ (by rw [PySem.W.sortVals_length false rfl]; exact e.length) (PySem.W.sortVals_data false e er' hal)
end
def KeyAt (H : Hp) (y : V) (d : D) : Prop := ∃ b ks, y = .ref b ∧ H b = some (.tup ((ky ks).map kV)) ∧ d = tupI ks
theorem alikeAll_ints : ∀ a b : List Int, PySem.W.alikeAll (a.map PyData.int) (b.map PyData.int) = true
  | [], _ => by simp [PySem.W.alikeAll]
  | _ :: _, [] => by simp [PySem.W.alikeAll]
  | x :: a, y :: b => by simp [PySem.W.alikeAll, PySem.W.alike, alikeAll_ints a b]
theorem tupI_alike (kss : List (List Int)) : PySem.W.AllAlike (kss.map tupI) := fun d hd e he => by
  obtain ⟨a, _, rfl⟩ := List.mem_map.mp hd
  obtain ⟨b, _, rfl⟩ := List.mem_map.mp he
  simpa [PySem.W.alike] using alikeAll_ints a b
theorem tupI_sorts (kss : List (List Int)) : PySem.W.Sortable (kss.map tupI) ∨ ((∀ d ∈ kss.map tupI, ∃ xs, d = PyData.tuple xs) ∧ PyData.tuple [] ∈ kss.map tupI) := by
  by_cases h : [] ∈ kss
  · exact .inr ⟨fun d hd => let ⟨a, _, e⟩ := List.mem_map.mp hd; ⟨_, e.symm⟩, List.mem_map.mpr ⟨[], h, rfl⟩⟩
  · refine .inl (.inl fun d hd => ?_)
    obtain ⟨a, ha, rfl⟩ := List.mem_map.mp hd
    cases a with
    | nil => exact absurd ha h
    | cons x r => exact ⟨.int x, r.map PyData.int, rfl⟩
def rSortedT : List V → Hp → VK → Prop := fun xs H Q => ∃ (a : Addr) (kvs : List (List Key × V)) (kss : List (List Int)), xs = [.ref a] ∧ Rd H a (.dT kvs) ∧ kvs.map (·.1) = kss.map ky ∧
  ∀ ys p, Paired (KeyAt H) ys ((kss.map tupI).mergeSort (PySem.W.dataLe false id)) → H p = none → Q (.ref p) (upd H p (.lst ys))
theorem paired_at {α β : Type} {R : α → β → Prop} : ∀ {xs : List α} {ys : List β} {j : Nat} {y : β}, Paired R xs ys → ys[j]? = some y → ∃ x, xs[j]? = some x ∧ R x y
  | _, _, _, _, .nil, h => by simp at h
  | _, _, 0, _, .cons r _, h => by simp at h; subst h; exact ⟨_, rfl, r⟩
  | _, _, j + 1, _, .cons _ t, h => by
    obtain ⟨x, h1, h2⟩ := paired_at (j := j) t (by simpa using h)
    exact ⟨x, by simpa using h1, h2⟩
theorem keys_of_each {H : Hp} : ∀ {us : List Value} {es : List D}, PySem.W.EachIs (fun (u : Value) (d : D) => ∃ b ks, u = .ref b ∧ H b = some (.tup ((ky ks).map kV)) ∧ d = tupI ks) us es → ∃ ys : List V, Vals ys us ∧ Paired (KeyAt H) ys es
  | _, _, .nil => ⟨[], .nil, .nil⟩
  | _, _, .cons ⟨b, ks, h1, h2, h3⟩ t => let ⟨ys, a, c⟩ := keys_of_each t; ⟨.ref b :: ys, .cons h1 a, .cons ⟨b, ks, rfl, h2, h3⟩ c⟩
theorem cr_sortedT {X : Cx} (hc : X.calm = true) (hu : X.A.units + 65 < cLine) : CallR X (.builtin "sorted") rSortedT := by
  intro pins s σ H xs us Q I r q
  obtain ⟨a, kvs, kss, rfl, hd, hks, q⟩ := q
  have h1 := tupI_alike kss
  have h2 := tupI_sorts kss
  rw [Vals.ref1 r]
  obtain ⟨z, lo, xs, rel, dd⟩ := dt_rd I.hok hd
  obtain ⟨es, ep, raw, hsz, hes⟩ := dd.raw
  have hlen : kvs.length = xs.length := paired_len rel
  have hlk : kvs.length = kss.length := by simpa using congrArg List.length hks
  refine Calls.call_function_entry PyProof.Rows.kind_sorted PyProof.Rows.plain_sorted PyProof.Rows.entry_sorted (PyProof.Rows.args_sorted1 _) ?_
  unfold Builtin.«sorted»
  refine wpAny_bind (m := checkCount "sorted" 1 1 _) (wpAny_pure ?_)
  refine wpAny_bind (PySem.W.kdu_collect (A := X.A.in1) (kdl_raw lo) (I.ok.hd hc) raw (by omega) fun h' tk acc hk hacc => ?_)
  have I1 : Inv X pins σ H { s with heap := h', toks := tk } := I.kept hk
  have item : ∀ (j : Nat) (v : Value) (d : D), acc.toList[j]? = some v → (kss.map tupI)[j]? = some d → ∃ b ks, v = .ref b ∧ H b = some (.tup ((ky ks).map kV)) ∧ d = tupI ks := fun j v d hj hd => by
    obtain ⟨hi, e1⟩ := hacc.2 j v (by rw [← Array.getElem?_toList]; exact hj)
    obtain ⟨y, e2, e3, _⟩ := hes j hi
    obtain ⟨pp, e4, e5, e6, _⟩ := paired_at rel e2
    rw [List.getElem?_map] at hd
    cases e7 : kss[j]? with
    | none => rw [e7] at hd; cases hd
    | some ks =>
      rw [e7] at hd
      cases hd
      have e8 : (kvs.map (·.1))[j]? = some (ky ks) := by rw [hks, List.getElem?_map, e7]; rfl
      rw [List.getElem?_map, e4] at e8
      have e9 : pp.1 = ky ks := Option.some.inj e8
      exact ⟨_, ks, e1.trans e3, by rw [← e9]; exact e6, rfl⟩
  have hal : acc.toList.length = (kss.map tupI).length := by rw [Array.length_toList, hacc.1, List.length_map, hsz]; omega
  have hE := each_of (R := fun (u : Value) (d : D) => ∃ b ks, u = .ref b ∧ H b = some (.tup ((ky ks).map kV)) ∧ d = tupI ks) hal item
  refine wpAny_bind (wpAny_newList ?_ (by rw [hal, List.length_map]; omega))
  have hoL : (h'.push (seqObj "list" acc.toList.toArray 0)).get? h'.objs.size = some (seqObj "list" acc.toList.toArray 0) := Heap.get?_push_size _ rfl
  show wpAny _ _ _ _ _ { s with heap := h'.push (seqObj "list" acc.toList.toArray 0), toks := tk }
  refine wpAny_bind (wpAny_holding (list_sort_at (s := { s with heap := h'.push (seqObj "list" acc.toList.toArray 0), toks := tk }) (enc := (id : D → D)) hoL hE (each_of hal fun j v d e1 e2 => ?_) (by rw [List.map_id]; exact h1) (by rw [List.map_id]; exact h2) (by rw [List.length_map]; omega) (fun d hd => ?_) fun out ho he => ?_))
  · obtain ⟨b, ks, rfl, hb, rfl⟩ := item j v d e1 e2
    obtain ⟨as, ra⟩ := Dp.reads I1 (tupI ks) (.ref b) (.ref b) ((rpKey' hb).dp (Le.refl H)) rfl
    exact ⟨as, PyProof.Rows.Reads.keeps (fun c o e => PySem.W.sortingHeap_old (Nat.ne_of_lt (Heap.lt_size e)) (Heap.get?_push_of_some _ e)) ra⟩
  · obtain ⟨ks, _, rfl⟩ := List.mem_map.mp hd
    have : (tupI ks).depth ≤ 2 := by
      have h0 : ∀ l : List Int, PyData.depthAll (l.map PyData.int) ≤ 1 := fun l => by
        induction l with
        | nil => simp [PyData.depthAll]
        | cons x l ih => simp [PyData.depthAll, PyData.depth]; omega
      have := h0 ks
      simp [PyData.depth]
      omega
    show X.A.units + 1 + 1 + (tupI ks).depth < cLine
    omega
  · obtain ⟨ys, hv, hp⟩ := keys_of_each he
    obtain ⟨e', he'⟩ := PyProof.Rows.sortedHeap_at (vs := acc.toList) (out := out.toArray) hoL
    refine wpAny_pure ⟨_, rfl, .ref h'.objs.size, upd H h'.objs.size (.lst ys), I1.laid (t' := tk) (fun b u e => ?_) (Nat.le_refl _) ⟨by rw [hv.length, ho, List.length_map]; omega, out, e', hv, he'⟩, rfl, q ys _ hp (I1.hok.fresh (Nat.le_refl _))⟩
    have hb : b < h'.objs.size := Heap.lt_size e
    rw [PyProof.Rows.sortedHeap_old (Nat.ne_of_lt hb) (by rw [size_push']; exact Nat.lt_succ_of_lt hb)]
    exact Heap.get?_push_of_some _ e
end DL
namespace DL
open PySem PySem.Spec L2
@[simp] def kSortT (i : Nat) (ρ : Rho) : Option Rv := match ρ[i]? with
  | some (.dt kvs) => some (.ow (isort dLe (kvs.map fun kv => tupI kv.1)))
  | _ => none
theorem ktR_keys {F : Hp} : ∀ {vs : List (List Key × V)} {ds : List (List Int × D)}, KtR F vs ds → vs.map (·.1) = (ds.map (·.1)).map ky
  | _, _, .nil => rfl
  | _, _, .cons h r => by
    rw [List.map_cons, List.map_cons, List.map_cons, ktR_keys r, h.1]
open Classical in
/-- the tuples of keys are frozen too -/
noncomputable def fzK (F H : Hp) : Hp := fun b => if ∃ ks : List Key, H b = some (.tup (ks.map kV)) then H b else F b
theorem fzK_gr {F H : Hp} (l : Le F H) : Gr F H (fzK F H) H := by
  refine ⟨fun b u e => ?_, Le.refl H, fun b u e => ?_, fun b e h => ?_⟩
  · unfold fzK; split
    · exact l b u e
    · exact e
  · unfold fzK at e; split at e
    · exact e
    · exact l b u e
  · unfold fzK; split
    · rename_i c; obtain ⟨ks, hk⟩ := c; exact absurd hk (h.2 ks)
    · exact e
theorem fzK_at {F H : Hp} {b : Addr} {ks : List Key} (h : H b = some (.tup (ks.map kV))) : fzK F H b = some (.tup (ks.map kV)) := by
  unfold fzK
  rw [if_pos ⟨ks, h⟩]
  exact h
theorem keys_rp {F H : Hp} : ∀ {ys : List V} {es : List D}, Paired (KeyAt H) ys es → RpAll (fzK F H) ys es
  | _, _, .nil => .nil
  | _, _, .cons ⟨b, ks, h1, h2, h3⟩ t => by
    subst h1 h3
    exact .cons (rpKey' (fzK_at h2)) (keys_rp t)
theorem DR.sortedT {X : Cx} {i : Nat} {o : Expr} {p pos : Pos} (hc : X.calm = true) (hu : X.A.units + 65 < cLine) (hG : Gl X "sorted") (hm : X.mg "sorted" = none) (ho : PE X o (tVar i)) (he : starEach (o :: []) X.env = (false, eval o X.env) :: starEach [] X.env := by rfl) (hpl : (backTo pos (starEach [] X.env)).any (·.1) = false := by rfl) :
    DR X (.Call (.Name "sorted" p) [o] [] pos) (kSortT i) := (pe_callB (cr_sortedT hc hu) hG hm boot_sorted_ (pa_cons ho pa_nil he) (by decide) (by decide) he hpl).w fun σ H Q ⟨F, ρ, r, E, ef, q⟩ => by
  unfold kSortT at ef
  split at ef
  · rename_i kvs hx
    cases ef
    obtain ⟨o, h1, a, vs, rfl, hf, hh, rr⟩ := E.sl _ _ hx
    have em : (kvs.map (·.1)).map tupI = kvs.map fun kv => tupI kv.1 := by rw [List.map_map]; rfl
    refine ⟨_, h1, a, vs, kvs.map (·.1), rfl, .inl hh, ktR_keys rr, fun ys pp hp hn => ?_⟩
    rw [em] at hp
    have hp' : Paired (KeyAt H) ys ((kvs.map fun kv => tupI kv.1).mergeSort dLe) := hp
    rw [dLe_sort] at hp'
    have g := fzK_gr E.le
    exact q _ _ _ (g.trans (Gr.lay g.s hn)) (rv_new (Le.refl H) g.s hn (keys_rp hp'))
  · cases ef
end DL
namespace DL
open PySem PySem.Spec L2
/-- (a, b, ..) = a list of that length -/
@[simp] def sLst (n : Nat) (h : List D → Rho → Option Rho) (d : D) (ρ : Rho) : Option Rho := match d with
  | .list ds => if ds.length = n then h ds ρ else none
  | _ => none
theorem DG.lst {X : Cx} {es : List Expr} {pos : Pos} {js : List Nat} {g : List D → Rho → Option Rho} {k n : Nat} (hc : X.calm = true) (h : DGs X es js g) (hn : (assignEach es X.env).length = n := by rfl) (hst : (assignEach es X.env).findIdx? (·.1) = none := by rfl) : DG X (.Tuple es k pos) js (sLst n g) :=
  (pg_unl hc h hn hst).w fun v σ H Q ⟨F, ρ, d, ρ', E, r, eg, q⟩ => by
    unfold sLst at eg
    split at eg
    · split at eg
      · rename_i ds hl
        cases r with
        | lst h1 h2 => exact ⟨_, _, rfl, SqL.of (E.le _ _ h1), by rw [h2.length]; exact hl, F, ρ, ds, ρ', E, h2, eg, q⟩
      · cases eg
    · cases eg
theorem Frz.lst {js : List Nat} {g : List D → Rho → Option Rho} {n : Nat} (a : Frzs js g) : Frz js (sLst n g) := fun d ρ ρ' q j s e o => by
  unfold sLst at q
  split at q
  · split at q
    · exact a _ _ _ q j s e o
    · cases q
  · cases q
/-- what the module knows of its classes -/
structure Mx (K : PySem.W.Frag) (mg : Str → Option Value) (cs : List Str) : Prop where
  m : ∀ c ∈ cs, mg c = some (.ref (He.ga K c))
  exm : ∀ c ∈ cs, ∀ x ∈ cs, PySem.W.exmOne K (.ref (He.ga K c)) (.ref (He.ga K x)) = some (decide (c = x))
  xf : ∀ c ∈ cs, XfC K (He.ga K c)
  no : ∀ c ∈ cs, PySem.W.findIn K (.ref (He.ga K c)) "at" = some none
theorem Mx.hx {K : PySem.W.Frag} {mg : Str → Option Value} {cs : List Str} (M : Mx K mg cs) {l : List (Str × (Int → D))} (h : ∀ q ∈ l.map (·.1), q ∈ cs) : ∀ c h, l.lookup c = some h → ∀ q ∈ l, PySem.W.exmOne K (.ref (He.ga K c)) (.ref (He.ga K q.1)) = some (decide (c = q.1)) := fun c hh e q hq => by
  have hc : c ∈ l.map (·.1) := by
    clear h hq
    induction l with
    | nil => cases e
    | cons p l ih =>
      rw [List.lookup] at e
      split at e
      · rename_i hb; rw [beq_iff_eq.mp hb]; exact List.mem_cons_self
      · exact List.mem_cons_of_mem _ (ih e)
  exact M.exm c (h c hc) q.1 (h _ (List.mem_map_of_mem hq))
end DL
namespace DL
open PySem PySem.Spec L2
section
variable {X : Cx} {a o : Expr} {pos : Pos} {i : Nat} {g : Rho → Option D}
theorem DT.dIn (hu : X.A.units + 65 < cLine) (ha : DE X a g) (ho : PE X o (tVar i)) (hm : behindInMarks .In o = false := by rfl) : DT X (.Compare a [.In] [o] pos) (kB (kDin false i g)) :=
  (pt_cmpR (op_inDk hu) ha ho hm).w fun σ H Q h => test_w (fun σ H Q h => kHas_w (fun x a H o Q g q => ⟨a, o, rfl, g, q⟩) σ H Q h) σ H Q h
theorem DT.dNin (hu : X.A.units + 65 < cLine) (ha : DE X a g) (ho : PE X o (tVar i)) (hm : behindInMarks .NotIn o = false := by rfl) : DT X (.Compare a [.NotIn] [o] pos) (kB (kDin true i g)) :=
  (pt_cmpR (op_ninDk hu) ha ho hm).w fun σ H Q h => test_w (fun σ H Q h => kHas_w (fun x a H o Q g q => ⟨a, o, rfl, g, q⟩) σ H Q h) σ H Q h
end
end DL
namespace DL
open PySem PySem.Spec L2
theorem mx_of {x0 : Str} {cs : List Str} {K : PySem.W.Frag} {h : Heap} {mg : Str → Option Value} (X : K.In h) (G : h.Ns mainGlobals mg) (c : clsB x0 cs K = true) : Mx K mg cs :=
  ⟨fun x hx => PySem.W.mg_of X G (clsB_at c hx).1, fun x hx y hy => (clsB_at c hx).2.2 y hy, fun x hx => (clsB_at c hx).2.1.xf, fun x hx => (clsB_at c hx).2.1.exc.no⟩
theorem xc_of {P : Program} {w : World} {x0 x : Str} {cs : List Str} {K : PySem.W.Frag} {h base : Heap} {mg : Str → Option Value} {fd : FuncData} (X : K.In h) (G : h.Ns mainGlobals mg) (c : clsB x0 cs K = true) (hx : x ∈ cs) (F : FnOk P w K mg base (L2.CX P w) 1 (He.ma K (He.ga K x0) "__init__") fd ["self", "at"] (XI.spInit K (He.ga K x0))) (B : Binds K fd ["self", "at"] []) : XcD P w K mg base x :=
  xcd_of (clsB_at c hx).2.1 F B (PySem.W.mg_of X G (clsB_at c hx).1)
/-- a class statement's first statement -/
def clsIni : Stmt → Stmt
  | .ClassDef _ _ _ (s :: _) _ _ _ _ _ _ _ => s
  | s => s
end DL
namespace DL
open PySem PySem.Spec L2
/-! ### x >= y of data -/
def rGeD (K : PySem.W.Frag) : R2 := fun x y H Q => ∃ dx dy, Dp K H x dx ∧ Dp K H y dy ∧ PySem.W.alike dx dy = true ∧ dx ≠ .none ∧ dx.depth ≤ 60 ∧ Q (.bl (!PySem.W.dataLt dx dy)) H
theorem op_geD {X : Cx} (hu : X.A.units + 65 < cLine) : OpR X (compareOp .GtE) (rGeD X.K) := by
  intro pins s σ H x y v u Q I rx ry h
  obtain ⟨d, e, hd, he, ha, hn, hz, q⟩ := h
  obtain ⟨as, r1⟩ := Dp.reads I d x v hd rx
  obtain ⟨bs, r2⟩ := Dp.reads I e y u he ry
  refine PySem.W.ge_data r1 r2 ha hn ?_ ⟨.bl _, H, I, rfl, q⟩
  have : min d.depth e.depth ≤ d.depth := Nat.min_le_left _ _
  omega
def isL : D → Bool
  | .list _ => true
  | _ => false
def gGeD (x y : D) : Option D := if PySem.W.alike x y = true ∧ isL x = true ∧ x.depth ≤ 60 then some (.bool (!PySem.W.dataLt x y)) else none
theorem od_geD {K : PySem.W.Frag} : OpD (rGeD K) gGeD := by
  intro F H x y dx dy d l r1 r2 e Q q
  unfold gGeD at e
  split at e
  · rename_i hs
    cases e
    obtain ⟨h1, h2, h3⟩ := hs
    exact ⟨_, dy, r1.dp l, r2.dp l, h1, (fun z => by rw [z] at h2; cases h2), h3, q _ F H (Gr.refl l) (.bl _)⟩
  · cases e
end DL

set_option Elab.async false
set_option linter.all false
set_option maxRecDepth 100000
set_option maxHeartbeats 2000000
namespace K79
open PySem PySem.Spec L2 DL
@[irreducible] def wN : Nat := 1000000
noncomputable section
-- skipped []
def b_is_ascending : Rho → Option Fl :=
  (zRet (kFr (vAnd (kData (kCall gAll (kRL (kComp [2] (kQ (gVar 1)) (sName 2) kYes (kChain gLe gLt (kC (.int 0)) (gVar 2) (gVar 0)))))) (kData (kCall gAll (kRL (kComp [3, 4] (kZip2 (kQ (gVar 1)) (kQ (kData (kSlA (gVar 1) (kO1 (kC (.int 1))) kO0)))) (sTup 2 (sCons (sName 3) (sCons (sName 4) sNil))) kYes (kBin gLt (gVar 3) (gVar 4)))))))))
def d_is_ascending : List D → Option Res := dFn 2 5 b_is_ascending
def b_check_family : Rho → Option Fl :=
  (zSeq (zAsg (gVar 0) (sTup 2 (sCons (sName 1) (sCons (sName 2) sNil))))
  (zSeq (zIf (kNot (kB (kChain gLe gLe (kC (.int 1)) (gVar 1) (kC (.int 7))))) zNone zNext)
  (zSeq (zIf (kNot (kB (kChain gLe gLe (kC (.int 1)) (kData (kCall gLen (kQ (gVar 2)))) (kC (.int 10))))) zNone zNext)
  (zFor (kEnum (kL (gVar 2))) (sTup 2 (sCons (sName 3) (sCons (sName 4) sNil))) (zIf (kOr (kB (kBin gEqA (kData (kCall gLen (kQ (gVar 4)))) (kC (.int 0)))) (kOr (kNot (kB (kData (kCallD d_is_ascending (kCons (gVar 1) (kCons (gVar 4) kNil)))))) (kAnd (kB (kBin gGt (gVar 3) (kC (.int 0)))) (kB (kBin gGeD (kIx (kQ (gVar 2)) (kBin gSub (gVar 3) (kC (.int 1)))) (gVar 4)))))) zNone zNext)))))
def d_check_family : List D → Option Res := dFn 1 5 b_check_family
def b_apart : Rho → Option Fl :=
  (zRet (kFr (vNot (kData (kCall gAny (kRL (kComp [2] (kQ (gVar 0)) (sName 2) kYes (kBin gInA (gVar 2) (gVar 1)))))))))
def d_apart : List D → Option Res := dFn 2 3 b_apart
def b_choices : Rho → Option Fl :=
  (zSeq (zSet 1 (kData (kLst (kCons (kData (kLst kNil)) kNil))))
  (zSeq (zFor (kRange1 (kCons (gVar 0) kNil)) (sName 2) (zSet 1 (kBin gAdd (gVar 1) (kData (kComp [3] (kQ (gVar 1)) (sName 3) kYes (kData (kLst (kStar (kQ (gVar 3)) (kCons (gVar 2) kNil)))))))))
  (zRet (kCall gSortedC (kL (gVar 1))))))
def d_choices : List D → Option Res := dFn 1 4 b_choices
def b_packings_of : Rho → Option Fl :=
  (zSeq (zSet 1 (kData (kLst (kCons (kData (kLst kNil)) kNil))))
  (zSeq (zFor (kEnum (kL (gVar 0))) (sTup 2 (sCons (sName 2) (sCons (sName 3) sNil))) (zSet 1 (kBin gAdd (gVar 1) (kData (kComp [4] (kQ (gVar 1)) (sName 4) (kB (kData (kCall gAll (kRL (kComp [5] (kQ (gVar 4)) (sName 5) kYes (kData (kCallD d_apart (kCons (kIx (kQ (gVar 0)) (gVar 5)) (kCons (gVar 3) kNil))))))))) (kData (kLst (kStar (kQ (gVar 4)) (kCons (gVar 2) kNil)))))))))
  (zRet (kCall gSortedC (kL (gVar 1))))))
def d_packings_of : List D → Option Res := dFn 1 6 b_packings_of
def b_covers_of : Rho → Option Fl :=
  (zRet (kComp [2] (kQ (kData (kCallD d_choices (kCons (gVar 0) kNil)))) (sName 2) (kNot (kB (kData (kCall gAny (kRL (kComp [3] (kQ (gVar 1)) (sName 3) kYes (kData (kCallD d_apart (kCons (gVar 3) (kCons (gVar 2) kNil)))))))))) (gVar 2)))
def d_covers_of : List D → Option Res := dFn 2 4 b_covers_of
def b_check_lists : Rho → Option Fl :=
  (zSeq (zDrop (kCallD d_check_family (kCons (gVar 0) kNil)))
  (zSeq (zFor (kQ (kTup (kCons (gVar 1) (kCons (gVar 2) kNil)))) (sName 3) (zFor (kEnum (kL (gVar 3))) (sTup 2 (sCons (sName 4) (sCons (sName 5) sNil))) (zIf (kOr (kNot (kB (kChain gLe gLt (kC (.int 0)) (gVar 5) (kIx (kQ (gVar 0)) (kC (.int 0)))))) (kAnd (kB (kBin gGt (gVar 4) (kC (.int 0)))) (kB (kBin gGe (kIx (kQ (gVar 3)) (kBin gSub (gVar 4) (kC (.int 1)))) (gVar 5))))) (zRaise "NotASet" (gVar 4)) zNext)))
  (zFor (kQ (gVar 1)) (sName 5) (zIf (kB (kBin gInA (gVar 5) (gVar 2))) (zRaise "Overlap" (gVar 5)) zNext))))
def d_check_lists : List D → Option Res := dFn 3 6 b_check_lists
def b_minor_of : Rho → Option Fl :=
  (zSeq (zTnew 3)
  (zSeq (zFor (kQ (gVar 0)) (sName 4) (zIf (kB (kData (kCallD d_apart (kCons (gVar 4) (kCons (gVar 1) kNil))))) (zTput 3 (kC (.bool true)) (kData (kCall gTuple (kRL (kComp [5] (kQ (gVar 4)) (sName 5) (kB (kBin gNotIn (gVar 5) (gVar 2))) (gVar 5)))))) zNext))
  (zRet (kComp [4] (kQ (kData (kSortT 3))) (sName 4) kYes (kData (kCall gList (kQ (gVar 4))))))))
def d_minor_of : List D → Option Res := dFn 3 6 b_minor_of
def b_minor : Rho → Option Fl :=
  (zSeq (zCallX d_check_lists (kCons (gVar 0) (kCons (gVar 1) (kCons (gVar 2) kNil))))
  (zRet (kCallD d_minor_of (kCons (kIx (kQ (gVar 0)) (kC (.int 1))) (kCons (gVar 1) (kCons (gVar 2) kNil))))))
def d_minor : List D → Option Res := dFn 3 3 b_minor
def b_are_packed : Rho → Option Fl :=
  (zSeq (zIf (kOr (kB (kBin gEqA (kData (kCall gLen (kQ (gVar 1)))) (kC (.int 0)))) (kB (kBin gInA (kData (kLst kNil)) (gVar 1)))) (zRet (kFr (kC (.bool true)))) zNext)
  (zSeq (zSet 2 (kData (kCall gMax (kRL (kComp [3] (kQ (kData (kCallD d_packings_of (kCons (gVar 1) kNil)))) (sName 3) kYes (kData (kCall gLen (kQ (gVar 3)))))))))
  (zRet (kFr (kBin gEqA (gVar 2) (kData (kCall gMin (kRL (kComp [3] (kQ (kData (kCallD d_covers_of (kCons (gVar 0) (kCons (gVar 1) kNil))))) (sName 3) kYes (kData (kCall gLen (kQ (gVar 3)))))))))))))
def d_are_packed : List D → Option Res := dFn 2 4 b_are_packed
def b_packs : Rho → Option Fl :=
  (zSeq (zDrop (kCallD d_check_family (kCons (gVar 0) kNil)))
  (zRet (kCallD d_are_packed (kCons (kIx (kQ (gVar 0)) (kC (.int 0))) (kCons (kIx (kQ (gVar 0)) (kC (.int 1))) kNil)))))
def d_packs : List D → Option Res := dFn 1 1 b_packs
def b_bad_minor : Rho → Option Fl :=
  (zSeq (zDrop (kCallD d_check_family (kCons (gVar 0) kNil)))
  (zSeq (zAsg (gVar 0) (sTup 2 (sCons (sName 1) (sCons (sName 2) sNil))))
  (zSeq (zIf (kB (kBin gGt (gVar 1) (kC (.int 5)))) (zRaise "TooMany" (gVar 1)) zNext)
  (zSeq (zFor (kQ (kData (kCallD d_choices (kCons (gVar 1) kNil)))) (sName 3) (zFor (kQ (kData (kCallD d_choices (kCons (gVar 1) kNil)))) (sName 4) (zIf (kAnd (kB (kData (kCallD d_apart (kCons (gVar 3) (kCons (gVar 4) kNil))))) (kNot (kB (kData (kCallD d_are_packed (kCons (gVar 1) (kCons (kData (kCallD d_minor_of (kCons (gVar 2) (kCons (gVar 3) (kCons (gVar 4) kNil))))) kNil))))))) (zRet (kFr (kTup (kCons (gVar 3) (kCons (gVar 4) kNil))))) zNext)))
  (zRet (kFr (kC .none)))))))
def d_bad_minor : List D → Option Res := dFn 1 5 b_bad_minor
def b_sides : Rho → Option Fl :=
  (zSeq (zDrop (kCallD d_check_family (kCons (gVar 0) kNil)))
  (zSeq (zAsg (gVar 0) (sTup 2 (sCons (sName 1) (sCons (sName 2) sNil))))
  (zSeq (zIf (kNot (kB (kData (kCall gAll (kRL (kComp [10] (kQ (gVar 2)) (sName 10) kYes (kBin gEqA (kData (kCall gLen (kQ (gVar 10)))) (kC (.int 2))))))))) (zRet (kFr (kC .none))) zNext)
  (zSeq (zDnew 3)
  (zSeq (zFor (kRange1 (kCons (gVar 1) kNil)) (sName 4) (zIf (kB (kDin true 3 (gVar 4))) (zSeq (zDput 3 (kC (.int 0)) (gVar 4))
  (zSeq (zSetR 5 (kLst (kCons (gVar 4) kNil)))
  (zSeq (zSet 6 (kC (.int 0)))
  (zWhile wN (kB (kBin gLt (gVar 6) (kData (kCall gLen (gLst 5))))) (zSeq (zFor (kQ (gVar 2)) (sLst 2 (sCons (sName 7) (sCons (sName 8) sNil))) (zIf (kB (kBin gInA (kIx (gLst 5) (gVar 6)) (kTup (kCons (gVar 7) (kCons (gVar 8) kNil))))) (zSeq (zSet 9 (kBin gSub (kBin gAdd (gVar 7) (gVar 8)) (kIx (gLst 5) (gVar 6))))
  (zIf (kB (kDin true 3 (gVar 9))) (zSeq (zDput 3 (kBin gSub (kC (.int 1)) (kDget 3 (kIx (gLst 5) (gVar 6)))) (gVar 9))
  (zApp 5 (gVar 9))) zNext)) zNext))
  (zSet 6 (kBin gAdd (gVar 6) (kC (.int 1))))))))) zNext))
  (zSeq (zIf (kB (kData (kCall gAny (kRL (kComp [7, 8] (kQ (gVar 2)) (sLst 2 (sCons (sName 7) (sCons (sName 8) sNil))) kYes (kBin gEqA (kDget 3 (gVar 7)) (kDget 3 (gVar 8)))))))) (zRet (kFr (kC .none))) zNext)
  (zRet (kComp [11] (kRange1 (kCons (gVar 1) kNil)) (sName 11) (kB (kBin gEqA (kDget 3 (gVar 11)) (kC (.int 0)))) (gVar 11)))))))))
def d_sides : List D → Option Res := dFn 1 12 b_sides
def b_law_draws (K : PySem.W.Frag) : Rho → Option Fl :=
  (zSeq (zSetR 1 (kLst kNil))
  (zSeq (zFor (kRange1 (kCons (kData (kCall gMin2 (kCons (kC (.int 63)) (kCons (kData (kScLen K 0)) kNil)))) kNil)) (sName 2) (zSeq (zSet 3 (kData (kCall gAbs (kCons (kScIx K 0 (gVar 2)) kNil))))
  (zIf (kB (kBin gGe (gVar 3) (kBin gPow (kC (.int 10)) (kC (.int 18))))) (zFor (kRange1 (kCons (kC (.int 60)) kNil)) (sName 4) (zIf (kB (kBin gGt (gVar 3) (kC (.int 0)))) (zSeq (zApp 1 (kBin gMod (kData (kCall gInt (kCons (gVar 3) kNil))) (kC (.int 65536))))
  (zSet 3 (kBin gDiv (gVar 3) (kC (.int 65536))))) zNext)) (zSeq (zSet 5 (kBin gMod (kData (kCall gInt (kCons (kBin gAdd (kBin gMul (gVar 3) (kC (.int 48271))) (kBin gMul (kBin gAdd (gVar 2) (kC (.int 1))) (kC (.int 69621)))) kNil))) (kC (.int 2147483647))))
  (zSeq (zSet 5 (kBin gMod (kData (kCall gInt (kCons (kBin gAdd (kBin gAdd (kBin gMul (gVar 5) (kC (.int 16807))) (kBin gMul (kC (.int 11)) (gVar 2))) (kC (.int 5))) kNil))) (kC (.int 2147483629))))
  (zSeq (zApp 1 (kBin gMod (kData (kCall gInt (kCons (gVar 5) kNil))) (kC (.int 65536))))
  (zApp 1 (kBin gMod (kData (kCall gInt (kCons (kBin gDiv (gVar 5) (kC (.int 65536))) kNil))) (kC (.int 32768))))))))))
  (zRet (kSlot 1))))
def d_law_draws (K : PySem.W.Frag) : List Int → Option Res := dSc K 6 (b_law_draws K)
def b_law_mix : Rho → Option Fl :=
  (zSeq (zSet 3 (kC (.int 0)))
  (zSeq (zIf (kB (kBin gGt (kData (kCall gLen (kQ (gVar 0)))) (kC (.int 0)))) (zSet 3 (kIx (kQ (gVar 0)) (kBin gMod (kData (kCall gInt (kCons (gVar 1) kNil))) (kData (kCall gLen (kQ (gVar 0))))))) zNext)
  (zSeq (zIf (kB (kBin gLt (gVar 1) (kData (kCall gLen (kQ (gVar 0)))))) (zRet (kFr (kBin gMod (kData (kCall gInt (kCons (gVar 3) kNil))) (gVar 2)))) zNext)
  (zRet (kFr (kBin gMod (kData (kCall gInt (kCons (kBin gDiv (kData (kCall gInt (kCons (kBin gAdd (kBin gMul (gVar 3) (kC (.int 7919))) (kBin gMul (gVar 1) (kC (.int 104729)))) kNil))) (kC (.int 3))) kNil))) (gVar 2)))))))
def d_law_mix : List D → Option Res := dFn 3 4 b_law_mix
def b_law_family : Rho → Option Fl :=
  (zSeq (zSet 3 (kBin gAdd (kC (.int 1)) (kData (kCallD d_law_mix (kCons (gVar 0) (kCons (gVar 1) (kCons (gVar 2) kNil)))))))
  (zSeq (zSetR 4 (kLst kNil))
  (zSeq (zFor (kRange1 (kCons (kBin gAdd (kC (.int 1)) (kData (kCallD d_law_mix (kCons (gVar 0) (kCons (kBin gAdd (gVar 1) (kC (.int 1))) (kCons (kC (.int 10)) kNil)))))) kNil)) (sName 5) (zSeq (zSet 6 (kData (kComp [7] (kRange1 (kCons (gVar 3) kNil)) (sName 7) (kB (kBin gEqA (kData (kCallD d_law_mix (kCons (gVar 0) (kCons (kBin gAdd (kBin gAdd (kBin gAdd (gVar 1) (kC (.int 10))) (kBin gMul (kC (.int 8)) (gVar 5))) (gVar 7)) (kCons (kIx (kQ (kData (kLst (kCons (kC (.int 2)) (kCons (kC (.int 3)) (kCons (kC (.int 4)) kNil)))))) (kData (kCallD d_law_mix (kCons (gVar 0) (kCons (kBin gAdd (gVar 1) (kC (.int 2))) (kCons (kC (.int 3)) kNil)))))) kNil))))) (kC (.int 0)))) (gVar 7))))
  (zSeq (zIf (kB (kBin gEqA (gVar 6) (kData (kLst kNil)))) (zSet 6 (kData (kLst (kCons (kData (kCallD d_law_mix (kCons (gVar 0) (kCons (kBin gAdd (kBin gAdd (gVar 1) (kC (.int 100))) (gVar 5)) (kCons (gVar 3) kNil))))) kNil)))) zNext)
  (zIf (kB (kBinL gNotInL (gVar 6) (gLst 4))) (zApp 4 (gVar 6)) zNext))))
  (zRet (kFr (kTup (kCons (gVar 3) (kCons (kData (kCall gSortedC (gLst 4))) kNil))))))))
def d_law_family : List D → Option Res := dFn 3 8 b_law_family
def b_law_lists : Rho → Option Fl :=
  (zSeq (zSet 1 (kData (kLst (kCons (kData (kLst kNil)) kNil))))
  (zSeq (zFor (kRange1 (kCons (gVar 0) kNil)) (sName 2) (zSet 1 (kBin gAdd (gVar 1) (kData (kComp [3] (kQ (gVar 1)) (sName 3) kYes (kBin gAdd (gVar 3) (kData (kLst (kCons (gVar 2) kNil)))))))))
  (zRet (kCall gSortedC (kL (gVar 1))))))
def d_law_lists : List D → Option Res := dFn 1 4 b_law_lists
def b_law_meets : Rho → Option Fl :=
  (zRet (kFr (kBin gGt (kData (kCall gLen (kQ (kData (kComp [2] (kQ (gVar 0)) (sName 2) (kB (kBin gInA (gVar 2) (gVar 1))) (gVar 2)))))) (kC (.int 0)))))
def d_law_meets : List D → Option Res := dFn 2 3 b_law_meets
def b_law_is_packing : Rho → Option Fl :=
  (zSeq (zFor (kRange1 (kCons (kData (kCall gLen (kQ (gVar 1)))) kNil)) (sName 2) (zFor (kRange1 (kCons (gVar 2) kNil)) (sName 3) (zIf (kB (kData (kCallD d_law_meets (kCons (kIx (kQ (gVar 0)) (kIx (kQ (gVar 1)) (gVar 2))) (kCons (kIx (kQ (gVar 0)) (kIx (kQ (gVar 1)) (gVar 3))) kNil))))) (zRet (kFr (kC (.bool false)))) zNext)))
  (zRet (kFr (kC (.bool true)))))
def d_law_is_packing : List D → Option Res := dFn 2 4 b_law_is_packing
def b_law_packings : Rho → Option Fl :=
  (zRet (kComp [1] (kQ (kData (kCallD d_law_lists (kCons (kData (kCall gLen (kQ (gVar 0)))) kNil)))) (sName 1) (kB (kData (kCallD d_law_is_packing (kCons (gVar 0) (kCons (gVar 1) kNil))))) (gVar 1)))
def d_law_packings : List D → Option Res := dFn 1 2 b_law_packings
def b_law_covers : Rho → Option Fl :=
  (zRet (kComp [2] (kQ (kData (kCallD d_law_lists (kCons (gVar 0) kNil)))) (sName 2) (kB (kBin gEqA (kData (kCall gLen (kQ (kData (kComp [3] (kQ (gVar 1)) (sName 3) (kNot (kB (kData (kCallD d_law_meets (kCons (gVar 3) (kCons (gVar 2) kNil)))))) (gVar 3)))))) (kC (.int 0)))) (gVar 2)))
def d_law_covers : List D → Option Res := dFn 2 4 b_law_covers
def b_law_minor : Rho → Option Fl :=
  (zSeq (zSetR 3 (kLst kNil))
  (zSeq (zFor (kQ (gVar 0)) (sName 4) (zIf (kNot (kB (kData (kCallD d_law_meets (kCons (gVar 4) (kCons (gVar 1) kNil)))))) (zSeq (zSet 5 (kData (kComp [6] (kQ (gVar 4)) (sName 6) (kB (kBin gNotIn (gVar 6) (gVar 2))) (gVar 6))))
  (zIf (kB (kBinL gNotInL (gVar 5) (gLst 3))) (zApp 3 (gVar 5)) zNext)) zNext))
  (zRet (kCall gSortedC (gLst 3)))))
def d_law_minor : List D → Option Res := dFn 3 7 b_law_minor
def b_law_packs : Rho → Option Fl :=
  (zSeq (zIf (kOr (kB (kBin gEqA (gVar 1) (kData (kLst kNil)))) (kB (kBin gInA (kData (kLst kNil)) (gVar 1)))) (zRet (kFr (kC (.bool true)))) zNext)
  (zRet (kFr (kBin gEqA (kData (kCall gMax (kRL (kComp [2] (kQ (kData (kCallD d_law_packings (kCons (gVar 1) kNil)))) (sName 2) kYes (kData (kCall gLen (kQ (gVar 2)))))))) (kData (kCall gMin (kRL (kComp [2] (kQ (kData (kCallD d_law_covers (kCons (gVar 0) (kCons (gVar 1) kNil))))) (sName 2) kYes (kData (kCall gLen (kQ (gVar 2))))))))))))
def d_law_packs : List D → Option Res := dFn 2 3 b_law_packs
def b_law_word : Rho → Option Fl :=
  (zSeq (zTry (zIf (kB (kBin gEqA (gVar 0) (kC (.int 0)))) (zCallX d_minor (kCons (gVar 1) (kCons (gVar 2) (kCons (gVar 3) kNil)))) (zCallX d_bad_minor (kCons (gVar 1) kNil))) ([("NotASet", hStr "set"), ("Overlap", hStr "both"), ("TooMany", hStr "many")] : List (Str × (Int → D))))
  (zRet (kFr (kTup (kCons (kC (.str "none")) (kCons (kC (.int 0)) kNil))))))
def d_law_word : List D → Option Res := dFn 4 5 b_law_word
def b_law_pairs : Rho → Option Fl :=
  (zSeq (zSet 2 (kBin gAdd (kC (.int 2)) (kData (kCallD d_law_mix (kCons (gVar 0) (kCons (gVar 1) (kCons (kC (.int 6)) kNil)))))))
  (zSeq (zSetR 3 (kLst kNil))
  (zSeq (zFor (kRange1 (kCons (kBin gAdd (kC (.int 1)) (kData (kCallD d_law_mix (kCons (gVar 0) (kCons (kBin gAdd (gVar 1) (kC (.int 1))) (kCons (kC (.int 10)) kNil)))))) kNil)) (sName 4) (zSeq (zSet 5 (kData (kCallD d_law_mix (kCons (gVar 0) (kCons (kBin gAdd (kBin gAdd (gVar 1) (kBin gMul (kC (.int 2)) (gVar 4))) (kC (.int 2))) (kCons (gVar 2) kNil))))))
  (zSeq (zSet 6 (kData (kCallD d_law_mix (kCons (gVar 0) (kCons (kBin gAdd (kBin gAdd (gVar 1) (kBin gMul (kC (.int 2)) (gVar 4))) (kC (.int 3))) (kCons (gVar 2) kNil))))))
  (zIf (kAnd (kB (kBin gNeA (gVar 5) (gVar 6))) (kB (kBinL gNotInL (kData (kCall gSortedC (kRL (kLst (kCons (gVar 5) (kCons (gVar 6) kNil)))))) (gLst 3)))) (zApp 3 (kData (kCall gSortedC (kRL (kLst (kCons (gVar 5) (kCons (gVar 6) kNil))))))) zNext))))
  (zIce 3 (zRet (kFr (kTup (kCons (gVar 2) (kCons (kData (kCall gSortedC (kL (kBin gAdd (gVar 3) (kBin gMul (kData (kLst (kCons (kData (kLst (kCons (kC (.int 0)) (kCons (kC (.int 1)) kNil)))) kNil))) (kData (kCall gInt (kCons (kBin gEqA (gVar 3) (kData (kLst kNil))) kNil)))))))) kNil)))))))))
def d_law_pairs : List D → Option Res := dFn 2 7 b_law_pairs
def b_law_is_side : Rho → Option Fl :=
  (zRet (kFr (kBin gEqA (kData (kCall gLen (kQ (kData (kComp [2] (kQ (kIx (kQ (gVar 0)) (kC (.int 1)))) (sName 2) (kOr (kB (kBin gNeA (kData (kCall gLen (kQ (gVar 2)))) (kC (.int 2)))) (kB (kBin gNeA (kData (kCall gLen (kQ (kData (kComp [3] (kQ (gVar 2)) (sName 3) (kB (kBin gInA (gVar 3) (gVar 1))) (gVar 3)))))) (kC (.int 1))))) (gVar 2)))))) (kC (.int 0)))))
def d_law_is_side : List D → Option Res := dFn 2 4 b_law_is_side
def b_law (K : PySem.W.Frag) : Rho → Option Fl :=
  (zSeq (zSet 1 (kData (kCallSc K (d_law_draws K) 0)))
  (zSeq (zSet 2 (kData (kLst (kCons (kData (kCallD d_law_family (kCons (gVar 1) (kCons (kC (.int 10)) (kCons (kC (.int 5)) kNil))))) (kCons (kData (kCallD d_law_pairs (kCons (gVar 1) (kCons (kC (.int 200)) kNil)))) (kCons (kTup (kCons (kC (.int 3)) (kCons (kData (kLst (kCons (kData (kLst (kCons (kC (.int 0)) (kCons (kC (.int 1)) kNil)))) (kCons (kData (kLst (kCons (kC (.int 0)) (kCons (kC (.int 2)) kNil)))) (kCons (kData (kLst (kCons (kC (.int 1)) (kCons (kC (.int 2)) kNil)))) kNil))))) kNil))) kNil))))))
  (zSeq (zFor (kRange1 (kCons (kC (.int 3)) kNil)) (sName 3) (zSeq (zSet 4 (kIx (kQ (gVar 2)) (gVar 3)))
  (zSeq (zAsg (gVar 4) (sTup 2 (sCons (sName 5) (sCons (sName 6) sNil))))
  (zSeq (zSet 7 (kData (kCall gRepr (kCons (gVar 4) kNil))))
  (zSeq (zIf (kB (kBin gNeA (kData (kCall gRepr (kCons (kData (kCallD d_packs (kCons (gVar 4) kNil))) kNil))) (kData (kCall gRepr (kCons (kData (kCallD d_law_packs (kCons (gVar 5) (kCons (gVar 6) kNil)))) kNil))))) (zRet (kFr (kC (.bool false)))) zNext)
  (zSeq (zFor (kRange1 (kCons (kC (.int 4)) kNil)) (sName 8) (zSeq (zSet 9 (kData (kComp [15] (kRange1 (kCons (gVar 5) kNil)) (sName 15) (kB (kBin gEqA (kData (kCallD d_law_mix (kCons (gVar 1) (kCons (kBin gAdd (kBin gAdd (kBin gAdd (kC (.int 300)) (kBin gMul (kC (.int 50)) (gVar 3))) (kBin gMul (kC (.int 10)) (gVar 8))) (gVar 15)) (kCons (kC (.int 4)) kNil))))) (kC (.int 0)))) (gVar 15))))
  (zSeq (zSet 10 (kData (kComp [15] (kRange1 (kCons (gVar 5) kNil)) (sName 15) (kAnd (kB (kBin gNotIn (gVar 15) (gVar 9))) (kB (kBin gEqA (kData (kCallD d_law_mix (kCons (gVar 1) (kCons (kBin gAdd (kBin gAdd (kBin gAdd (kC (.int 450)) (kBin gMul (kC (.int 50)) (gVar 3))) (kBin gMul (kC (.int 10)) (gVar 8))) (gVar 15)) (kCons (kC (.int 3)) kNil))))) (kC (.int 0))))) (gVar 15))))
  (zSeq (zIf (kB (kBin gNeA (kData (kCall gRepr (kCons (kData (kCallD d_minor (kCons (gVar 4) (kCons (gVar 9) (kCons (gVar 10) kNil))))) kNil))) (kData (kCall gRepr (kCons (kData (kCallD d_law_minor (kCons (gVar 6) (kCons (gVar 9) (kCons (gVar 10) kNil))))) kNil))))) (zRet (kFr (kC (.bool false)))) zNext)
  (zIf (kAnd (kB (kBin gNeA (gVar 9) (kData (kLst kNil)))) (kB (kBin gNeA (kData (kCallD d_law_word (kCons (kC (.int 0)) (kCons (gVar 4) (kCons (gVar 9) (kCons (kData (kCall gSortedC (kL (kBin gAdd (gVar 9) (gVar 10))))) kNil)))))) (kTup (kCons (kC (.str "both")) (kCons (kIx (kQ (gVar 9)) (kC (.int 0))) kNil)))))) (zRet (kFr (kC (.bool false)))) zNext)))))
  (zSeq (zSet 11 (kC .none))
  (zSeq (zFor (kQ (kData (kCallD d_law_lists (kCons (gVar 5) kNil)))) (sName 9) (zFor (kQ (kData (kCallD d_law_lists (kCons (gVar 5) kNil)))) (sName 10) (zIf (kAnd (kB (kBin gLt (gVar 5) (kC (.int 5)))) (kAnd (kB (kBin gIs (gVar 11) (kC .none))) (kAnd (kNot (kB (kData (kCallD d_law_meets (kCons (gVar 9) (kCons (gVar 10) kNil)))))) (kNot (kB (kData (kCallD d_law_packs (kCons (gVar 5) (kCons (kData (kCallD d_law_minor (kCons (gVar 6) (kCons (gVar 9) (kCons (gVar 10) kNil))))) kNil))))))))) (zSet 11 (kTup (kCons (gVar 9) (kCons (gVar 10) kNil)))) zNext)))
  (zSeq (zIf (kB (kBin gLt (gVar 5) (kC (.int 5)))) (zIf (kB (kBin gNeA (kData (kCall gRepr (kCons (kData (kCallD d_bad_minor (kCons (gVar 4) kNil))) kNil))) (kData (kCall gRepr (kCons (gVar 11) kNil))))) (zRet (kFr (kC (.bool false)))) zNext) (zIf (kB (kBin gEqA (gVar 5) (kC (.int 5)))) (zSeq (zSet 12 (kData (kCallD d_bad_minor (kCons (gVar 4) kNil))))
  (zIf (kOr (kAnd (kB (kBin gIs (gVar 12) (kC .none))) (kNot (kB (kData (kCallD d_law_packs (kCons (gVar 5) (kCons (gVar 6) kNil))))))) (kAnd (kB (kBin gIsNot (gVar 12) (kC .none))) (kB (kData (kCallD d_law_packs (kCons (gVar 5) (kCons (kData (kCallD d_law_minor (kCons (gVar 6) (kCons (kIx (kQ (gVar 12)) (kC (.int 0))) (kCons (kIx (kQ (gVar 12)) (kC (.int 1))) kNil))))) kNil))))))) (zRet (kFr (kC (.bool false)))) zNext)) (zIf (kB (kBin gNeA (kData (kCallD d_law_word (kCons (kC (.int 1)) (kCons (gVar 4) (kCons (kData (kLst kNil)) (kCons (kData (kLst kNil)) kNil)))))) (kTup (kCons (kC (.str "many")) (kCons (gVar 5) kNil))))) (zRet (kFr (kC (.bool false)))) zNext)))
  (zSeq (zSet 13 (kData (kCallD d_sides (kCons (gVar 4) kNil))))
  (zSeq (zSet 14 (kData (kComp [12] (kQ (kData (kCallD d_law_lists (kCons (gVar 5) kNil)))) (sName 12) (kB (kData (kCallD d_law_is_side (kCons (gVar 4) (kCons (gVar 12) kNil))))) (gVar 12))))
  (zSeq (zIf (kB (kBin gNeA (kBin gIs (gVar 13) (kC .none)) (kBin gEqA (gVar 14) (kData (kLst kNil))))) (zRet (kFr (kC (.bool false)))) zNext)
  (zSeq (zIf (kAnd (kB (kBin gIsNot (gVar 13) (kC .none))) (kOr (kB (kBin gNotIn (gVar 13) (gVar 14))) (kOr (kNot (kB (kData (kCallD d_law_packs (kCons (gVar 5) (kCons (gVar 6) kNil)))))) (kOr (kB (kBin gNotIn (kC (.int 0)) (gVar 13))) (kAnd (kB (kBin gLt (gVar 5) (kC (.int 6)))) (kB (kBin gIsNot (kData (kCallD d_bad_minor (kCons (gVar 4) kNil))) (kC .none)))))))) (zRet (kFr (kC (.bool false)))) zNext)
  (zIf (kOr (kB (kBin gNeA (kData (kCallD d_law_word (kCons (kC (.int 0)) (kCons (gVar 4) (kCons (kData (kLst (kCons (gVar 5) kNil))) (kCons (kData (kLst kNil)) kNil)))))) (kTup (kCons (kC (.str "set")) (kCons (kC (.int 0)) kNil))))) (kOr (kB (kBin gNeA (kData (kCallD d_law_word (kCons (kC (.int 0)) (kCons (gVar 4) (kCons (kData (kLst kNil)) (kCons (kData (kLst (kCons (kC (.int 0)) (kCons (kC (.int 0)) kNil)))) kNil)))))) (kTup (kCons (kC (.str "set")) (kCons (kC (.int 1)) kNil))))) (kB (kBin gNeA (kData (kCall gRepr (kCons (gVar 4) kNil))) (gVar 7))))) (zRet (kFr (kC (.bool false)))) zNext))))))))))))))
  (zRet (kFr (kC (.bool true)))))))
def d_law (K : PySem.W.Frag) : List Int → Option Res := dSc K 16 (b_law K)
end
end K79

set_option Elab.async false
set_option linter.all false
set_option maxRecDepth 100000
set_option maxHeartbeats 2000000
namespace K79
open PySem PySem.Spec L2 DL
def top (i : Nat) : Stmt := PySem.Challenge.pw_wholebest_k79_whole_minors_and_two_sided.main.body.getD i (.Pass ⟨0, 0, 0, 0⟩)
structure Mg (mg : Str → Option Value) : Prop where
  c_MOST_MINORS : ∃ t, mg "MOST_MINORS" = some (.int 5 t)
  c_MOST_SETS : ∃ t, mg "MOST_SETS" = some (.int 10 t)
  c_MOST_THINGS : ∃ t, mg "MOST_THINGS" = some (.int 7 t)
  n_abs : mg "abs" = none
  n_all : mg "all" = none
  n_any : mg "any" = none
  n_enumerate : mg "enumerate" = none
  n_int : mg "int" = none
  n_len : mg "len" = none
  n_list : mg "list" = none
  n_max : mg "max" = none
  n_min : mg "min" = none
  n_range : mg "range" = none
  n_repr : mg "repr" = none
  n_sorted : mg "sorted" = none
  n_super : mg "super" = none
  n_tuple : mg "tuple" = none
  n_zip : mg "zip" = none
abbrev cX : List Str := ["NotASet", "Overlap", "TooMany"]
section
variable {P : Program} {w : World} {K : PySem.W.Frag} {mg : Str → Option Value} {base : Heap} {IsX : XIs}
abbrev s_is_ascending : Stmt := top 10
abbrev N_is_ascending : List Str := ["things", "told", "one", "a", "b"]
abbrev p_is_ascending : List Str := ["things", "told"]
theorem sc_is_ascending : FnScope N_is_ascending p_is_ascending (defScope s_is_ascending) := ⟨rfl, rfl, rfl, by decide +kernel, rfl, by decide +kernel, by decide +kernel⟩
theorem ok_is_ascending {f : Addr} {fd : FuncData} (M : Mg mg) (F : FunD K "is_ascending" "is_ascending" (defArgs s_is_ascending) (defBody s_is_ascending) (defScope s_is_ascending) [] [] f fd) : FnOk P w K mg base CX0 1 f fd p_is_ascending (spD IsX d_is_ascending) :=
  fn_ok F sc_is_ascending fun wx cdv A outer s H E hr => by
    have sc := sc_is_ascending
    exact (by
      have z : DSs wx (cxOf CX0 P w K mg base N_is_ascending "is_ascending" (defScope s_is_ascending) f cdv A outer s H E).nox (defBody s_is_ascending) ((zRet (kFr (vAnd (kData (kCall gAll (kRL (kComp (List.map (fun x => x.2) ([("one", 2)] : List (Str × Nat))) (kQ (gVar 1)) (sName 2) kYes (kChain gLe gLt (kC (.int 0)) (gVar 2) (gVar 0)))))) (kData (kCall gAll (kRL (kComp (List.map (fun x => x.2) ([("a", 3), ("b", 4)] : List (Str × Nat))) (kZip2 (kQ (gVar 1)) (kQ (kData (kSlA (gVar 1) (kO1 (kC (.int 1))) kO0)))) (sTup 2 (sCons (sName 3) (sCons (sName 4) sNil))) kYes (kBin gLt (gVar 3) (gVar 4)))))))))) := (DSs.one (DS.ret (DE.dr (DE.and (DR.de (DR.callBL (cr_all rfl) cl_all (by rfl) M.n_all boot_all_ (DR.ls (DR.lc rfl sc.nd (DIC.seq (DE.q (DE.var (pv 1)))) (blkOk_by (N := N_is_ascending) (sc := (defScope s_is_ascending)) (own := [("one", 2)]) (by decide +kernel)) (fun _ _ _ _ _ => (gN 2 sc.nd)) (fun _ _ _ _ _ => DTs.nil) (fun _ _ _ _ _ => (DE.chain op_le od_le op_lt od_lt DE.int (DE.var (pv 2)) (DE.var (pv 0)))))))) (DE.one (DR.de (DR.callBL (cr_all rfl) cl_all (by rfl) M.n_all boot_all_ (DR.ls (DR.lc rfl sc.nd (DIC.zipM (by rfl) M.n_zip (DE.q (DE.var (pv 1))) (DE.q (DR.de (DR.slA (DE.var (pv 1)) (DO.one DE.int) DO.none)))) (blkOk_by (N := N_is_ascending) (sc := (defScope s_is_ascending)) (own := [("a", 3), ("b", 4)]) (by decide +kernel)) (fun _ _ _ _ _ => (DG.tup rfl (DGs.cons (gN 3 sc.nd) (DGs.cons (gN 4 sc.nd) DGs.nil)))) (fun _ _ _ _ _ => DTs.nil) (fun _ _ _ _ _ => (DE.cmp op_lt od_lt (DE.var (pv 3)) (DE.var (pv 4)))))))))))))
      exact z)
abbrev s_check_family : Stmt := top 11
abbrev N_check_family : List Str := ["family", "things", "sets", "k", "told"]
abbrev p_check_family : List Str := ["family"]
theorem sc_check_family : FnScope N_check_family p_check_family (defScope s_check_family) := ⟨rfl, rfl, rfl, by decide +kernel, rfl, by decide +kernel, by decide +kernel⟩
theorem ok_check_family {f : Addr} {fd : FuncData} (M : Mg mg) (G_is_ascending : FnD P w K mg base IsX CX0 1 "is_ascending" p_is_ascending d_is_ascending) (F : FunD K "check_family" "check_family" (defArgs s_check_family) (defBody s_check_family) (defScope s_check_family) [] [] f fd) : FnOk P w K mg base CX0 2 f fd p_check_family (spD IsX d_check_family) :=
  fn_ok F sc_check_family fun wx cdv A outer s H E hr => by
    have sc := sc_check_family
    have hu := room_hu hr
    exact (DSs.cons (DS.asg (DE.var (pv 0)) (DG.tup rfl (DGs.cons (gN 1 sc.nd) (DGs.cons (gN 2 sc.nd) DGs.nil))) (Frz.tup (Frzs.cons (Frz.name 1) (Frzs.cons (Frz.name 2) Frzs.nil)))) (DSs.cons (DS.ifS (DT.not (DT.chain op_le od_le op_le od_le DE.int (DE.var (pv 1)) (DE.globE (by rfl) M.c_MOST_THINGS))) (DSs.one DS.never) DSs.nil) (DSs.cons (DS.ifS (DT.not (DT.chain op_le od_le op_le od_le DE.int (DR.de (DR.callBQ cr_len cq_len (by rfl) M.n_len boot_len_ (DE.q (DE.var (pv 2))))) (DE.globE (by rfl) M.c_MOST_SETS))) (DSs.one DS.never) DSs.nil) (DSs.one (DS.for_ PassesOwn.never rfl (DIF.enum (by rfl) M.n_enumerate (DE.var (pv 2))) (DG.tup rfl (DGs.cons (gN 3 sc.nd) (DGs.cons (gN 4 sc.nd) DGs.nil))) (Frz.tup (Frzs.cons (Frz.name 3) (Frzs.cons (Frz.name 4) Frzs.nil))) (DSs.one (DS.ifS (DW.t (DW.or (DT.cmp (cEqA hu) od_eqA (DR.de (DR.callBQ cr_len cq_len (by rfl) M.n_len boot_len_ (DE.q (DE.var (pv 4))))) DE.int) (DW.or (DT.not (DT.val (DR.de (DR.call G_is_ascending (hr.mono (by decide)) (by rfl) (DA.cons (DE.var (pv 1)) (DA.cons (DE.var (pv 4)) DA.nil)))))) (DW.or1 (DW.t (DW.and (DT.cmp op_gt od_gt (DE.var (pv 3)) DE.int) (DW.and1 (DT.cmp (op_geD hu) od_geD (DE.ix (DE.q (DE.var (pv 2))) (eSub (DE.var (pv 3)) DE.int)) (DE.var (pv 4)))))))))) (DSs.one DS.never) DSs.nil)))))))
abbrev s_apart : Stmt := top 12
abbrev N_apart : List Str := ["one", "two", "thing"]
abbrev p_apart : List Str := ["one", "two"]
theorem sc_apart : FnScope N_apart p_apart (defScope s_apart) := ⟨rfl, rfl, rfl, by decide +kernel, rfl, by decide +kernel, by decide +kernel⟩
theorem ok_apart {f : Addr} {fd : FuncData} (M : Mg mg) (F : FunD K "apart" "apart" (defArgs s_apart) (defBody s_apart) (defScope s_apart) [] [] f fd) : FnOk P w K mg base CX0 1 f fd p_apart (spD IsX d_apart) :=
  fn_ok F sc_apart fun wx cdv A outer s H E hr => by
    have sc := sc_apart
    have hu := room_hu hr
    exact (by
      have z : DSs wx (cxOf CX0 P w K mg base N_apart "apart" (defScope s_apart) f cdv A outer s H E).nox (defBody s_apart) ((zRet (kFr (vNot (kData (kCall gAny (kRL (kComp (List.map (fun x => x.2) ([("thing", 2)] : List (Str × Nat))) (kQ (gVar 0)) (sName 2) kYes (kBin gInA (gVar 2) (gVar 1)))))))))) := (DSs.one (DS.ret (DE.dr (DE.not (DR.de (DR.callBL (cr_any rfl) cl_any (by rfl) M.n_any boot_any_ (DR.ls (DR.lc rfl sc.nd (DIC.seq (DE.q (DE.var (pv 0)))) (blkOk_by (N := N_apart) (sc := (defScope s_apart)) (own := [("thing", 2)]) (by decide +kernel)) (fun _ _ _ _ _ => (gN 2 sc.nd)) (fun _ _ _ _ _ => DTs.nil) (fun _ _ _ _ _ => (DE.cmp (cIn hu) od_inA (DE.var (pv 2)) (DE.var (pv 1))))))))))))
      exact z)
abbrev s_choices : Stmt := top 13
abbrev N_choices : List Str := ["many", "found", "number", "told"]
abbrev p_choices : List Str := ["many"]
theorem sc_choices : FnScope N_choices p_choices (defScope s_choices) := ⟨rfl, rfl, rfl, by decide +kernel, rfl, by decide +kernel, by decide +kernel⟩
theorem ok_choices {f : Addr} {fd : FuncData} (M : Mg mg) (F : FunD K "choices" "choices" (defArgs s_choices) (defBody s_choices) (defScope s_choices) [] [] f fd) : FnOk P w K mg base CX0 1 f fd p_choices (spD IsX d_choices) :=
  fn_ok F sc_choices fun wx cdv A outer s H E hr => by
    have sc := sc_choices
    have hu := room_hu hr
    exact (by
      have z : DSs wx (cxOf CX0 P w K mg base N_choices "choices" (defScope s_choices) f cdv A outer s H E).nox (defBody s_choices) ((zSeq (zSet 1 (kData (kLst (kCons (kData (kLst kNil)) kNil))))
  (zSeq (zFor (kRange1 (kCons (gVar 0) kNil)) (sName 2) (zSet 1 (kBin gAdd (gVar 1) (kData (kComp (List.map (fun x => x.2) ([("told", 3)] : List (Str × Nat))) (kQ (gVar 1)) (sName 3) kYes (kData (kLst (kStar (kQ (gVar 3)) (kCons (gVar 2) kNil)))))))))
  (zRet (kCall gSortedC (kL (gVar 1))))))) := (DSs.cons (DS.set (i := 1) sc.nd rfl (by first | exact .inl rfl | exact .inr rfl) (DR.de (DR.lst (DA.cons (DR.de (DR.lst DA.nil)) DA.nil)))) (DSs.cons (DS.for_ PassesOwn.never rfl (DIF.range1 (by rfl) M.n_range (DA.cons (DE.var (pv 0)) DA.nil)) (gN 2 sc.nd) (Frz.name 2) (DSs.one (DS.set (i := 1) sc.nd rfl (by first | exact .inl rfl | exact .inr rfl) (eAdd (DE.var (pv 1)) (DR.de (DR.lc rfl sc.nd (DIC.seq (DE.q (DE.var (pv 1)))) (blkOk_by (N := N_choices) (sc := (defScope s_choices)) (own := [("told", 3)]) (by decide +kernel)) (fun _ _ _ _ _ => (gN 3 sc.nd)) (fun _ _ _ _ _ => DTs.nil) (fun _ _ _ _ _ => (DR.de (DR.lst (DA.star (DE.q (DE.var (pv 3))) (DA.cons (DE.var (pv 2)) DA.nil))))))))))) (DSs.one (DS.ret (DR.callBL (cr_sortedD hu) cl_sortedC (by rfl) M.n_sorted boot_sorted_ (DE.ls (DE.var (pv 1))))))))
      exact z)
abbrev s_packings_of : Stmt := top 14
abbrev N_packings_of : List Str := ["sets", "found", "k", "told", "one", "j"]
abbrev p_packings_of : List Str := ["sets"]
theorem sc_packings_of : FnScope N_packings_of p_packings_of (defScope s_packings_of) := ⟨rfl, rfl, rfl, by decide +kernel, rfl, by decide +kernel, by decide +kernel⟩
theorem ok_packings_of {f : Addr} {fd : FuncData} (M : Mg mg) (G_apart : FnD P w K mg base IsX CX0 1 "apart" p_apart d_apart) (F : FunD K "packings_of" "packings_of" (defArgs s_packings_of) (defBody s_packings_of) (defScope s_packings_of) [] [] f fd) : FnOk P w K mg base CX0 2 f fd p_packings_of (spD IsX d_packings_of) :=
  fn_ok F sc_packings_of fun wx cdv A outer s H E hr => by
    have sc := sc_packings_of
    have hu := room_hu hr
    exact (by
      have z : DSs wx (cxOf CX0 P w K mg base N_packings_of "packings_of" (defScope s_packings_of) f cdv A outer s H E).nox (defBody s_packings_of) ((zSeq (zSet 1 (kData (kLst (kCons (kData (kLst kNil)) kNil))))
  (zSeq (zFor (kEnum (kL (gVar 0))) (sTup 2 (sCons (sName 2) (sCons (sName 3) sNil))) (zSet 1 (kBin gAdd (gVar 1) (kData (kComp (List.map (fun x => x.2) ([("one", 4)] : List (Str × Nat))) (kQ (gVar 1)) (sName 4) (kB (kData (kCall gAll (kRL (kComp (List.map (fun x => x.2) ([("j", 5)] : List (Str × Nat))) (kQ (gVar 4)) (sName 5) kYes (kData (kCallD d_apart (kCons (kIx (kQ (gVar 0)) (gVar 5)) (kCons (gVar 3) kNil))))))))) (kData (kLst (kStar (kQ (gVar 4)) (kCons (gVar 2) kNil)))))))))
  (zRet (kCall gSortedC (kL (gVar 1))))))) := (DSs.cons (DS.set (i := 1) sc.nd rfl (by first | exact .inl rfl | exact .inr rfl) (DR.de (DR.lst (DA.cons (DR.de (DR.lst DA.nil)) DA.nil)))) (DSs.cons (DS.for_ PassesOwn.never rfl (DIF.enum (by rfl) M.n_enumerate (DE.var (pv 0))) (DG.tup rfl (DGs.cons (gN 2 sc.nd) (DGs.cons (gN 3 sc.nd) DGs.nil))) (Frz.tup (Frzs.cons (Frz.name 2) (Frzs.cons (Frz.name 3) Frzs.nil))) (DSs.one (DS.set (i := 1) sc.nd rfl (by first | exact .inl rfl | exact .inr rfl) (eAdd (DE.var (pv 1)) (DR.de (DR.lc rfl sc.nd (DIC.seq (DE.q (DE.var (pv 1)))) (blkOk_by (N := N_packings_of) (sc := (defScope s_packings_of)) (own := [("one", 4)]) (by decide +kernel)) (fun _ _ _ _ _ => (gN 4 sc.nd)) (fun _ _ _ _ _ => (DTs.one (DT.val (DR.de (DR.callBL (cr_all rfl) cl_all (by rfl) M.n_all boot_all_ (DR.ls (DR.lc rfl sc.nd (DIC.seq (DE.q (DE.var (pv 4)))) (blkOk_by (N := N_packings_of) (sc := (relS _ (defScope s_packings_of))) (own := [("j", 5)]) (by decide +kernel)) (fun _ _ _ _ _ => (gN 5 sc.nd)) (fun _ _ _ _ _ => DTs.nil) (fun _ _ _ _ _ => (DR.de (DR.call G_apart (hr.mono (by decide)) (by rfl) (DA.cons (DE.ix (DE.q (DE.var (pv 0))) (DE.var (pv 5))) (DA.cons (DE.var (pv 3)) DA.nil)))))))))))) (fun _ _ _ _ _ => (DR.de (DR.lst (DA.star (DE.q (DE.var (pv 4))) (DA.cons (DE.var (pv 2)) DA.nil))))))))))) (DSs.one (DS.ret (DR.callBL (cr_sortedD hu) cl_sortedC (by rfl) M.n_sorted boot_sorted_ (DE.ls (DE.var (pv 1))))))))
      exact z)
abbrev s_covers_of : Stmt := top 15
abbrev N_covers_of : List Str := ["things", "sets", "told", "one"]
abbrev p_covers_of : List Str := ["things", "sets"]
theorem sc_covers_of : FnScope N_covers_of p_covers_of (defScope s_covers_of) := ⟨rfl, rfl, rfl, by decide +kernel, rfl, by decide +kernel, by decide +kernel⟩
theorem ok_covers_of {f : Addr} {fd : FuncData} (M : Mg mg) (G_apart : FnD P w K mg base IsX CX0 1 "apart" p_apart d_apart) (G_choices : FnD P w K mg base IsX CX0 1 "choices" p_choices d_choices) (F : FunD K "covers_of" "covers_of" (defArgs s_covers_of) (defBody s_covers_of) (defScope s_covers_of) [] [] f fd) : FnOk P w K mg base CX0 2 f fd p_covers_of (spD IsX d_covers_of) :=
  fn_ok F sc_covers_of fun wx cdv A outer s H E hr => by
    have sc := sc_covers_of
    exact (by
      have z : DSs wx (cxOf CX0 P w K mg base N_covers_of "covers_of" (defScope s_covers_of) f cdv A outer s H E).nox (defBody s_covers_of) ((zRet (kComp (List.map (fun x => x.2) ([("told", 2)] : List (Str × Nat))) (kQ (kData (kCallD d_choices (kCons (gVar 0) kNil)))) (sName 2) (kNot (kB (kData (kCall gAny (kRL (kComp (List.map (fun x => x.2) ([("one", 3)] : List (Str × Nat))) (kQ (gVar 1)) (sName 3) kYes (kData (kCallD d_apart (kCons (gVar 3) (kCons (gVar 2) kNil)))))))))) (gVar 2)))) := (DSs.one (DS.ret (DR.lc rfl sc.nd (DIC.seq (DE.q (DR.de (DR.call G_choices (hr.mono (by decide)) (by rfl) (DA.cons (DE.var (pv 0)) DA.nil))))) (blkOk_by (N := N_covers_of) (sc := (defScope s_covers_of)) (own := [("told", 2)]) (by decide +kernel)) (fun _ _ _ _ _ => (gN 2 sc.nd)) (fun _ _ _ _ _ => (DTs.one (DT.not (DT.val (DR.de (DR.callBL (cr_any rfl) cl_any (by rfl) M.n_any boot_any_ (DR.ls (DR.lc rfl sc.nd (DIC.seq (DE.q (DE.var (pv 1)))) (blkOk_by (N := N_covers_of) (sc := (relS _ (defScope s_covers_of))) (own := [("one", 3)]) (by decide +kernel)) (fun _ _ _ _ _ => (gN 3 sc.nd)) (fun _ _ _ _ _ => DTs.nil) (fun _ _ _ _ _ => (DR.de (DR.call G_apart (hr.mono (by decide)) (by rfl) (DA.cons (DE.var (pv 3)) (DA.cons (DE.var (pv 2)) DA.nil))))))))))))) (fun _ _ _ _ _ => (DE.var (pv 2))))))
      exact z)
abbrev s_check_lists : Stmt := top 18
abbrev N_check_lists : List Str := ["family", "out", "given", "told", "k", "thing"]
abbrev p_check_lists : List Str := ["family", "out", "given"]
theorem sc_check_lists : FnScope N_check_lists p_check_lists (defScope s_check_lists) := ⟨rfl, rfl, rfl, by decide +kernel, rfl, by decide +kernel, by decide +kernel⟩
theorem ok_check_lists {f : Addr} {fd : FuncData} (M : Mg mg) (C_NotASet : XcD P w K mg base "NotASet") (C_Overlap : XcD P w K mg base "Overlap") (G_check_family : FnD P w K mg base IsX CX0 2 "check_family" p_check_family d_check_family) (F : FunD K "check_lists" "check_lists" (defArgs s_check_lists) (defBody s_check_lists) (defScope s_check_lists) [] [] f fd) : FnOk P w K mg base (L2.CX P w) 3 f fd p_check_lists (spD (isXK K) d_check_lists) :=
  fn_okX F sc_check_lists fun wx cdv A outer s H E hr z => by
    have sc := sc_check_lists
    have hu := room_hu hr
    exact (DSs.cons (DS.drop (DR.call G_check_family (hr.mono (by decide)) (by rfl) (DA.cons (DE.var (pv 0)) DA.nil))) (DSs.cons (DS.for_ (passes_of rfl) rfl (DIF.seq (DE.tup (DA.cons (DE.var (pv 1)) (DA.cons (DE.var (pv 2)) DA.nil)))) (gN 3 sc.nd) (Frz.name 3) (DSs.one (DS.for_ (passes_of rfl) rfl (DIF.enum (by rfl) M.n_enumerate (DE.var (pv 3))) (DG.tup rfl (DGs.cons (gN 4 sc.nd) (DGs.cons (gN 5 sc.nd) DGs.nil))) (Frz.tup (Frzs.cons (Frz.name 4) (Frzs.cons (Frz.name 5) Frzs.nil))) (DSs.one (DS.ifS (DW.t (DW.or (DT.not (DT.chain op_le od_le op_lt od_lt DE.int (DE.var (pv 5)) (DE.ix (DE.q (DE.var (pv 0))) DE.int))) (DW.or1 (DW.t (DW.and (DT.cmp op_gt od_gt (DE.var (pv 4)) DE.int) (DW.and1 (DT.cmp op_ge od_ge (DE.ix (DE.q (DE.var (pv 3))) (eSub (DE.var (pv 4)) DE.int)) (DE.var (pv 5))))))))) (DSs.one (DS.raise z C_NotASet rfl (hr.mono (by decide)) (by rfl) (DE.var (pv 4)))) DSs.nil))))) (DSs.one (DS.for_ (passes_of rfl) rfl (DIF.seq (DE.var (pv 1))) (gN 5 sc.nd) (Frz.name 5) (DSs.one (DS.ifS (DT.cmp (cIn hu) od_inA (DE.var (pv 5)) (DE.var (pv 2))) (DSs.one (DS.raise z C_Overlap rfl (hr.mono (by decide)) (by rfl) (DE.var (pv 5)))) DSs.nil))))))
abbrev s_minor_of : Stmt := top 19
abbrev N_minor_of : List Str := ["sets", "out", "given", "left", "told", "thing"]
abbrev p_minor_of : List Str := ["sets", "out", "given"]
theorem sc_minor_of : FnScope N_minor_of p_minor_of (defScope s_minor_of) := ⟨rfl, rfl, rfl, by decide +kernel, rfl, by decide +kernel, by decide +kernel⟩
theorem ok_minor_of {f : Addr} {fd : FuncData} (M : Mg mg) (G_apart : FnD P w K mg base IsX CX0 1 "apart" p_apart d_apart) (F : FunD K "minor_of" "minor_of" (defArgs s_minor_of) (defBody s_minor_of) (defScope s_minor_of) [] [] f fd) : FnOk P w K mg base CX0 2 f fd p_minor_of (spD IsX d_minor_of) :=
  fn_ok F sc_minor_of fun wx cdv A outer s H E hr => by
    have sc := sc_minor_of
    have hu := room_hu hr
    exact (by
      have z : DSs wx (cxOf CX0 P w K mg base N_minor_of "minor_of" (defScope s_minor_of) f cdv A outer s H E).nox (defBody s_minor_of) ((zSeq (zTnew 3)
  (zSeq (zFor (kQ (gVar 0)) (sName 4) (zIf (kB (kData (kCallD d_apart (kCons (gVar 4) (kCons (gVar 1) kNil))))) (zTput 3 (kC (.bool true)) (kData (kCall gTuple (kRL (kComp (List.map (fun x => x.2) ([("thing", 5)] : List (Str × Nat))) (kQ (gVar 4)) (sName 5) (kB (kBin gNotIn (gVar 5) (gVar 2))) (gVar 5)))))) zNext))
  (zRet (kComp (List.map (fun x => x.2) ([("told", 4)] : List (Str × Nat))) (kQ (kData (kSortT 3))) (sName 4) kYes (kData (kCall gList (kQ (gVar 4))))))))) := (DSs.cons (DS.tnew (i := 3) sc.nd rfl (by first | exact .inl rfl | exact .inr rfl)) (DSs.cons (DS.for_ PassesOwn.never rfl (DIF.seq (DE.var (pv 0))) (gN 4 sc.nd) (Frz.name 4) (DSs.one (DS.ifS (DT.val (DR.de (DR.call G_apart (hr.mono (by decide)) (by rfl) (DA.cons (DE.var (pv 4)) (DA.cons (DE.var (pv 1)) DA.nil))))) (DSs.one (DS.tput hu DE.bl (pv 3) (DR.de (DR.callTyL cr_tuple cl_tuple (by rfl) M.n_tuple boot_tuple_ (DR.ls (DR.lc rfl sc.nd (DIC.seq (DE.q (DE.var (pv 4)))) (blkOk_by (N := N_minor_of) (sc := (defScope s_minor_of)) (own := [("thing", 5)]) (by decide +kernel)) (fun _ _ _ _ _ => (gN 5 sc.nd)) (fun _ _ _ _ _ => (DTs.one (DT.cmp (op_notInD hu) od_notIn (DE.var (pv 5)) (DE.var (pv 2))))) (fun _ _ _ _ _ => (DE.var (pv 5))))))))) DSs.nil))) (DSs.one (DS.ret (DR.lc rfl sc.nd (DIC.seq (DE.q (DR.de (DR.sortedT rfl hu (by rfl) M.n_sorted (pv 3))))) (blkOk_by (N := N_minor_of) (sc := (defScope s_minor_of)) (own := [("told", 4)]) (by decide +kernel)) (fun _ _ _ _ _ => (gN 4 sc.nd)) (fun _ _ _ _ _ => DTs.nil) (fun _ _ _ _ _ => (DR.de (DR.callTyQ cr_list cq_list (by rfl) M.n_list boot_list_ (DE.q (DE.var (pv 4)))))))))))
      exact z)
abbrev s_minor : Stmt := top 20
abbrev N_minor : List Str := ["family", "out", "given"]
abbrev p_minor : List Str := ["family", "out", "given"]
theorem sc_minor : FnScope N_minor p_minor (defScope s_minor) := ⟨rfl, rfl, rfl, by decide +kernel, rfl, by decide +kernel, by decide +kernel⟩
theorem ok_minor {f : Addr} {fd : FuncData} (M : Mg mg) (G_check_lists : FnD P w K mg base (isXK K) (L2.CX P w) 3 "check_lists" p_check_lists d_check_lists) (G_minor_of : FnD P w K mg base IsX CX0 2 "minor_of" p_minor_of d_minor_of) (F : FunD K "minor" "minor" (defArgs s_minor) (defBody s_minor) (defScope s_minor) [] [] f fd) : FnOk P w K mg base (L2.CX P w) 4 f fd p_minor (spD (isXK K) d_minor) :=
  fn_okX F sc_minor fun wx cdv A outer s H E hr z => by
    have sc := sc_minor
    exact (DSs.cons (DS.callX z G_check_lists (hr.mono (by decide)) (by rfl) (DA.cons (DE.var (pv 0)) (DA.cons (DE.var (pv 1)) (DA.cons (DE.var (pv 2)) DA.nil)))) (DSs.one (DS.ret (DR.call G_minor_of (hr.mono (by decide)) (by rfl) (DA.cons (DE.ix (DE.q (DE.var (pv 0))) DE.int) (DA.cons (DE.var (pv 1)) (DA.cons (DE.var (pv 2)) DA.nil)))))))
abbrev s_are_packed : Stmt := top 21
abbrev N_are_packed : List Str := ["things", "sets", "most", "told"]
abbrev p_are_packed : List Str := ["things", "sets"]
theorem sc_are_packed : FnScope N_are_packed p_are_packed (defScope s_are_packed) := ⟨rfl, rfl, rfl, by decide +kernel, rfl, by decide +kernel, by decide +kernel⟩
theorem ok_are_packed {f : Addr} {fd : FuncData} (M : Mg mg) (G_covers_of : FnD P w K mg base IsX CX0 2 "covers_of" p_covers_of d_covers_of) (G_packings_of : FnD P w K mg base IsX CX0 2 "packings_of" p_packings_of d_packings_of) (F : FunD K "are_packed" "are_packed" (defArgs s_are_packed) (defBody s_are_packed) (defScope s_are_packed) [] [] f fd) : FnOk P w K mg base CX0 3 f fd p_are_packed (spD IsX d_are_packed) :=
  fn_ok F sc_are_packed fun wx cdv A outer s H E hr => by
    have sc := sc_are_packed
    have hu := room_hu hr
    exact (by
      have z : DSs wx (cxOf CX0 P w K mg base N_are_packed "are_packed" (defScope s_are_packed) f cdv A outer s H E).nox (defBody s_are_packed) ((zSeq (zIf (kOr (kB (kBin gEqA (kData (kCall gLen (kQ (gVar 1)))) (kC (.int 0)))) (kB (kBin gInA (kData (kLst kNil)) (gVar 1)))) (zRet (kFr (kC (.bool true)))) zNext)
  (zSeq (zSet 2 (kData (kCall gMax (kRL (kComp (List.map (fun x => x.2) ([("told", 3)] : List (Str × Nat))) (kQ (kData (kCallD d_packings_of (kCons (gVar 1) kNil)))) (sName 3) kYes (kData (kCall gLen (kQ (gVar 3)))))))))
  (zRet (kFr (kBin gEqA (gVar 2) (kData (kCall gMin (kRL (kComp (List.map (fun x => x.2) ([("told", 3)] : List (Str × Nat))) (kQ (kData (kCallD d_covers_of (kCons (gVar 0) (kCons (gVar 1) kNil))))) (sName 3) kYes (kData (kCall gLen (kQ (gVar 3)))))))))))))) := (DSs.cons (DS.ifS (DW.t (DW.or (DT.cmp (cEqA hu) od_eqA (DR.de (DR.callBQ cr_len cq_len (by rfl) M.n_len boot_len_ (DE.q (DE.var (pv 1))))) DE.int) (DW.or1 (DT.cmp (cIn hu) od_inA (DR.de (DR.lst DA.nil)) (DE.var (pv 1)))))) (DSs.one (DS.ret (DE.dr DE.bl))) DSs.nil) (DSs.cons (DS.set (i := 2) sc.nd rfl (by first | exact .inl rfl | exact .inr rfl) (DR.de (DR.callBL (cr_max rfl) cl_max (by rfl) M.n_max boot_max_ (DR.ls (DR.lc rfl sc.nd (DIC.seq (DE.q (DR.de (DR.call G_packings_of (hr.mono (by decide)) (by rfl) (DA.cons (DE.var (pv 1)) DA.nil))))) (blkOk_by (N := N_are_packed) (sc := (defScope s_are_packed)) (own := [("told", 3)]) (by decide +kernel)) (fun _ _ _ _ _ => (gN 3 sc.nd)) (fun _ _ _ _ _ => DTs.nil) (fun _ _ _ _ _ => (DR.de (DR.callBQ cr_len cq_len (by rfl) M.n_len boot_len_ (DE.q (DE.var (pv 3))))))))))) (DSs.one (DS.ret (DE.dr (DE.cmp (cEqA hu) od_eqA (DE.var (pv 2)) (DR.de (DR.callBL (cr_min rfl) cl_min (by rfl) M.n_min boot_min_ (DR.ls (DR.lc rfl sc.nd (DIC.seq (DE.q (DR.de (DR.call G_covers_of (hr.mono (by decide)) (by rfl) (DA.cons (DE.var (pv 0)) (DA.cons (DE.var (pv 1)) DA.nil)))))) (blkOk_by (N := N_are_packed) (sc := (defScope s_are_packed)) (own := [("told", 3)]) (by decide +kernel)) (fun _ _ _ _ _ => (gN 3 sc.nd)) (fun _ _ _ _ _ => DTs.nil) (fun _ _ _ _ _ => (DR.de (DR.callBQ cr_len cq_len (by rfl) M.n_len boot_len_ (DE.q (DE.var (pv 3))))))))))))))))
      exact z)
abbrev s_packs : Stmt := top 22
abbrev N_packs : List Str := ["family"]
abbrev p_packs : List Str := ["family"]
theorem sc_packs : FnScope N_packs p_packs (defScope s_packs) := ⟨rfl, rfl, rfl, by decide +kernel, rfl, by decide +kernel, by decide +kernel⟩
theorem ok_packs {f : Addr} {fd : FuncData} (M : Mg mg) (G_are_packed : FnD P w K mg base IsX CX0 3 "are_packed" p_are_packed d_are_packed) (G_check_family : FnD P w K mg base IsX CX0 2 "check_family" p_check_family d_check_family) (F : FunD K "packs" "packs" (defArgs s_packs) (defBody s_packs) (defScope s_packs) [] [] f fd) : FnOk P w K mg base CX0 4 f fd p_packs (spD IsX d_packs) :=
  fn_ok F sc_packs fun wx cdv A outer s H E hr => by
    have sc := sc_packs
    exact (DSs.cons (DS.drop (DR.call G_check_family (hr.mono (by decide)) (by rfl) (DA.cons (DE.var (pv 0)) DA.nil))) (DSs.one (DS.ret (DR.call G_are_packed (hr.mono (by decide)) (by rfl) (DA.cons (DE.ix (DE.q (DE.var (pv 0))) DE.int) (DA.cons (DE.ix (DE.q (DE.var (pv 0))) DE.int) DA.nil))))))
abbrev s_bad_minor : Stmt := top 23
abbrev N_bad_minor : List Str := ["family", "things", "sets", "out", "given"]
abbrev p_bad_minor : List Str := ["family"]
theorem sc_bad_minor : FnScope N_bad_minor p_bad_minor (defScope s_bad_minor) := ⟨rfl, rfl, rfl, by decide +kernel, rfl, by decide +kernel, by decide +kernel⟩
theorem ok_bad_minor {f : Addr} {fd : FuncData} (M : Mg mg) (C_TooMany : XcD P w K mg base "TooMany") (G_apart : FnD P w K mg base IsX CX0 1 "apart" p_apart d_apart) (G_are_packed : FnD P w K mg base IsX CX0 3 "are_packed" p_are_packed d_are_packed) (G_check_family : FnD P w K mg base IsX CX0 2 "check_family" p_check_family d_check_family) (G_choices : FnD P w K mg base IsX CX0 1 "choices" p_choices d_choices) (G_minor_of : FnD P w K mg base IsX CX0 2 "minor_of" p_minor_of d_minor_of) (F : FunD K "bad_minor" "bad_minor" (defArgs s_bad_minor) (defBody s_bad_minor) (defScope s_bad_minor) [] [] f fd) : FnOk P w K mg base (L2.CX P w) 4 f fd p_bad_minor (spD (isXK K) d_bad_minor) :=
  fn_okX F sc_bad_minor fun wx cdv A outer s H E hr z => by
    have sc := sc_bad_minor
    exact (DSs.cons (DS.drop (DR.call G_check_family (hr.mono (by decide)) (by rfl) (DA.cons (DE.var (pv 0)) DA.nil))) (DSs.cons (DS.asg (DE.var (pv 0)) (DG.tup rfl (DGs.cons (gN 1 sc.nd) (DGs.cons (gN 2 sc.nd) DGs.nil))) (Frz.tup (Frzs.cons (Frz.name 1) (Frzs.cons (Frz.name 2) Frzs.nil)))) (DSs.cons (DS.ifS (DT.cmp op_gt od_gt (DE.var (pv 1)) (DE.globE (by rfl) M.c_MOST_MINORS)) (DSs.one (DS.raise z C_TooMany rfl (hr.mono (by decide)) (by rfl) (DE.var (pv 1)))) DSs.nil) (DSs.cons (DS.for_ (passes_of rfl) rfl (DIF.seq (DR.de (DR.call G_choices (hr.mono (by decide)) (by rfl) (DA.cons (DE.var (pv 1)) DA.nil)))) (gN 3 sc.nd) (Frz.name 3) (DSs.one (DS.for_ (passes_of rfl) rfl (DIF.seq (DR.de (DR.call G_choices (hr.mono (by decide)) (by rfl) (DA.cons (DE.var (pv 1)) DA.nil)))) (gN 4 sc.nd) (Frz.name 4) (DSs.one (DS.ifS (DW.t (DW.and (DT.val (DR.de (DR.call G_apart (hr.mono (by decide)) (by rfl) (DA.cons (DE.var (pv 3)) (DA.cons (DE.var (pv 4)) DA.nil))))) (DW.and1 (DT.not (DT.val (DR.de (DR.call G_are_packed (hr.mono (by decide)) (by rfl) (DA.cons (DE.var (pv 1)) (DA.cons (DR.de (DR.call G_minor_of (hr.mono (by decide)) (by rfl) (DA.cons (DE.var (pv 2)) (DA.cons (DE.var (pv 3)) (DA.cons (DE.var (pv 4)) DA.nil))))) DA.nil))))))))) (DSs.one (DS.ret (DE.dr (DE.tup (DA.cons (DE.var (pv 3)) (DA.cons (DE.var (pv 4)) DA.nil)))))) DSs.nil))))) (DSs.one (DS.ret (DE.dr DE.non)))))))
abbrev s_sides : Stmt := top 24
abbrev N_sides : List Str := ["family", "things", "sets", "side", "start", "waiting", "at", "a", "b", "other", "told", "thing"]
abbrev p_sides : List Str := ["family"]
theorem sc_sides : FnScope N_sides p_sides (defScope s_sides) := ⟨rfl, rfl, rfl, by decide +kernel, rfl, by decide +kernel, by decide +kernel⟩
theorem ok_sides {f : Addr} {fd : FuncData} (M : Mg mg) (G_check_family : FnD P w K mg base IsX CX0 2 "check_family" p_check_family d_check_family) (F : FunD K "sides" "sides" (defArgs s_sides) (defBody s_sides) (defScope s_sides) [] [] f fd) : FnOk P w K mg base CX0 3 f fd p_sides (spD IsX d_sides) :=
  fn_ok F sc_sides fun wx cdv A outer s H E hr => by
    have sc := sc_sides
    have hu := room_hu hr
    exact (by
      have z : DSs wx (cxOf CX0 P w K mg base N_sides "sides" (defScope s_sides) f cdv A outer s H E).nox (defBody s_sides) ((zSeq (zDrop (kCallD d_check_family (kCons (gVar 0) kNil)))
  (zSeq (zAsg (gVar 0) (sTup 2 (sCons (sName 1) (sCons (sName 2) sNil))))
  (zSeq (zIf (kNot (kB (kData (kCall gAll (kRL (kComp (List.map (fun x => x.2) ([("told", 10)] : List (Str × Nat))) (kQ (gVar 2)) (sName 10) kYes (kBin gEqA (kData (kCall gLen (kQ (gVar 10)))) (kC (.int 2))))))))) (zRet (kFr (kC .none))) zNext)
  (zSeq (zDnew 3)
  (zSeq (zFor (kRange1 (kCons (gVar 1) kNil)) (sName 4) (zIf (kB (kDin true 3 (gVar 4))) (zSeq (zDput 3 (kC (.int 0)) (gVar 4))
  (zSeq (zSetR 5 (kLst (kCons (gVar 4) kNil)))
  (zSeq (zSet 6 (kC (.int 0)))
  (zWhile wN (kB (kBin gLt (gVar 6) (kData (kCall gLen (gLst 5))))) (zSeq (zFor (kQ (gVar 2)) (sLst 2 (sCons (sName 7) (sCons (sName 8) sNil))) (zIf (kB (kBin gInA (kIx (gLst 5) (gVar 6)) (kTup (kCons (gVar 7) (kCons (gVar 8) kNil))))) (zSeq (zSet 9 (kBin gSub (kBin gAdd (gVar 7) (gVar 8)) (kIx (gLst 5) (gVar 6))))
  (zIf (kB (kDin true 3 (gVar 9))) (zSeq (zDput 3 (kBin gSub (kC (.int 1)) (kDget 3 (kIx (gLst 5) (gVar 6)))) (gVar 9))
  (zApp 5 (gVar 9))) zNext)) zNext))
  (zSet 6 (kBin gAdd (gVar 6) (kC (.int 1))))))))) zNext))
  (zSeq (zIf (kB (kData (kCall gAny (kRL (kComp (List.map (fun x => x.2) ([("a", 7), ("b", 8)] : List (Str × Nat))) (kQ (gVar 2)) (sLst 2 (sCons (sName 7) (sCons (sName 8) sNil))) kYes (kBin gEqA (kDget 3 (gVar 7)) (kDget 3 (gVar 8)))))))) (zRet (kFr (kC .none))) zNext)
  (zRet (kComp (List.map (fun x => x.2) ([("thing", 11)] : List (Str × Nat))) (kRange1 (kCons (gVar 1) kNil)) (sName 11) (kB (kBin gEqA (kDget 3 (gVar 11)) (kC (.int 0)))) (gVar 11)))))))))) := (DSs.cons (DS.drop (DR.call G_check_family (hr.mono (by decide)) (by rfl) (DA.cons (DE.var (pv 0)) DA.nil))) (DSs.cons (DS.asg (DE.var (pv 0)) (DG.tup rfl (DGs.cons (gN 1 sc.nd) (DGs.cons (gN 2 sc.nd) DGs.nil))) (Frz.tup (Frzs.cons (Frz.name 1) (Frzs.cons (Frz.name 2) Frzs.nil)))) (DSs.cons (DS.ifS (DT.not (DT.val (DR.de (DR.callBL (cr_all rfl) cl_all (by rfl) M.n_all boot_all_ (DR.ls (DR.lc rfl sc.nd (DIC.seq (DE.q (DE.var (pv 2)))) (blkOk_by (N := N_sides) (sc := (defScope s_sides)) (own := [("told", 10)]) (by decide +kernel)) (fun _ _ _ _ _ => (gN 10 sc.nd)) (fun _ _ _ _ _ => DTs.nil) (fun _ _ _ _ _ => (DE.cmp (cEqA hu) od_eqA (DR.de (DR.callBQ cr_len cq_len (by rfl) M.n_len boot_len_ (DE.q (DE.var (pv 10))))) DE.int)))))))) (DSs.one (DS.ret (DE.dr DE.non))) DSs.nil) (DSs.cons (DS.dnew (i := 3) sc.nd rfl (by first | exact .inl rfl | exact .inr rfl)) (DSs.cons (DS.for_ PassesOwn.never rfl (DIF.range1 (by rfl) M.n_range (DA.cons (DE.var (pv 1)) DA.nil)) (gN 4 sc.nd) (Frz.name 4) (DSs.one (DS.ifS (DT.dNin hu (DE.var (pv 4)) (pv 3)) (DSs.cons (DS.dput hu DE.int (pv 3) (DE.var (pv 4))) (DSs.cons (DS.setR (i := 5) sc.nd rfl (by first | exact .inl rfl | exact .inr rfl) (DR.lst (DA.cons (DE.var (pv 4)) DA.nil))) (DSs.cons (DS.set (i := 6) sc.nd rfl (by first | exact .inl rfl | exact .inr rfl) DE.int) (DSs.one (DS.while_ (n := wN) PassesOwn.never (DT.cmp op_lt od_lt (DE.var (pv 6)) (DR.de (DR.callBQ cr_len cq_len (by rfl) M.n_len boot_len_ (DLs.q (DLs.var (pv 5)))))) (DSs.cons (DS.for_ PassesOwn.never rfl (DIF.seq (DE.var (pv 2))) (DG.lst rfl (DGs.cons (gN 7 sc.nd) (DGs.cons (gN 8 sc.nd) DGs.nil))) (Frz.lst (Frzs.cons (Frz.name 7) (Frzs.cons (Frz.name 8) Frzs.nil))) (DSs.one (DS.ifS (DT.cmp (cIn hu) od_inA (DE.ix (DLs.q (DLs.var (pv 5))) (DE.var (pv 6))) (DE.tup (DA.cons (DE.var (pv 7)) (DA.cons (DE.var (pv 8)) DA.nil)))) (DSs.cons (DS.set (i := 9) sc.nd rfl (by first | exact .inl rfl | exact .inr rfl) (eSub (eAdd (DE.var (pv 7)) (DE.var (pv 8))) (DE.ix (DLs.q (DLs.var (pv 5))) (DE.var (pv 6))))) (DSs.one (DS.ifS (DT.dNin hu (DE.var (pv 9)) (pv 3)) (DSs.cons (DS.dput hu (eSub DE.int (DE.dget hu (pv 3) (DE.ix (DLs.q (DLs.var (pv 5))) (DE.var (pv 6))))) (pv 3) (DE.var (pv 9))) (DSs.one (DS.app (pv 5) (DE.var (pv 9))))) DSs.nil))) DSs.nil))) (DSs.one (DS.set (i := 6) sc.nd rfl (by first | exact .inl rfl | exact .inr rfl) (eAdd (DE.var (pv 6)) DE.int))))))))) DSs.nil))) (DSs.cons (DS.ifS (DT.val (DR.de (DR.callBL (cr_any rfl) cl_any (by rfl) M.n_any boot_any_ (DR.ls (DR.lc rfl sc.nd (DIC.seq (DE.q (DE.var (pv 2)))) (blkOk_by (N := N_sides) (sc := (defScope s_sides)) (own := [("a", 7), ("b", 8)]) (by decide +kernel)) (fun _ _ _ _ _ => (DG.lst rfl (DGs.cons (gN 7 sc.nd) (DGs.cons (gN 8 sc.nd) DGs.nil)))) (fun _ _ _ _ _ => DTs.nil) (fun _ _ _ _ _ => (DE.cmp (cEqA hu) od_eqA (DE.dget hu (pv 3) (DE.var (pv 7))) (DE.dget hu (pv 3) (DE.var (pv 8)))))))))) (DSs.one (DS.ret (DE.dr DE.non))) DSs.nil) (DSs.one (DS.ret (DR.lc rfl sc.nd (DIF.c (DIF.range1 (by rfl) M.n_range (DA.cons (DE.var (pv 1)) DA.nil))) (blkOk_by (N := N_sides) (sc := (defScope s_sides)) (own := [("thing", 11)]) (by decide +kernel)) (fun _ _ _ _ _ => (gN 11 sc.nd)) (fun _ _ _ _ _ => (DTs.one (DT.cmp (cEqA hu) od_eqA (DE.dget hu (pv 3) (DE.var (pv 11))) DE.int))) (fun _ _ _ _ _ => (DE.var (pv 11))))))))))))
      exact z)
abbrev s_law_draws : Stmt := top 26
abbrev N_law_draws : List Str := ["script", "draws", "k", "rest", "turn", "mixed"]
abbrev p_law_draws : List Str := ["script"]
theorem sc_law_draws : FnScope N_law_draws p_law_draws (defScope s_law_draws) := ⟨rfl, rfl, rfl, by decide +kernel, rfl, by decide +kernel, by decide +kernel⟩
theorem ok_law_draws {f : Addr} {fd : FuncData} (M : Mg mg) (F : FunD K "_law_draws" "_law_draws" (defArgs s_law_draws) (defBody s_law_draws) (defScope s_law_draws) [] [] f fd) : FnOk P w K mg base CX0 1 f fd p_law_draws (spS IsX K (d_law_draws K)) :=
  fn_okS F sc_law_draws rfl fun wx cdv A outer s H E hr => by
    have sc := sc_law_draws
    exact (DSs.cons (DS.setR (i := 1) sc.nd rfl (by first | exact .inl rfl | exact .inr rfl) (DR.lst DA.nil)) (DSs.cons (DS.for_ PassesOwn.never rfl (DIF.range1 (by rfl) M.n_range (DA.cons (DR.de (DR.callB (cr_min2D rfl) cd_min2 (by rfl) M.n_min boot_min_ (DA.cons DE.int (DA.cons (DR.de (DR.scLen (by rfl) M.n_len (pv 0))) DA.nil)))) DA.nil)) (gN 2 sc.nd) (Frz.name 2) (DSs.cons (DS.set (i := 3) sc.nd rfl (by first | exact .inl rfl | exact .inr rfl) (DR.de (DR.callB cr_absD cd_abs (by rfl) M.n_abs boot_abs_ (DA.cons (DE.scIx (pv 0) (DE.var (pv 2))) DA.nil)))) (DSs.one (DS.ifS (DT.cmp op_ge od_ge (DE.var (pv 3)) (ePow DE.int DE.int)) (DSs.one (DS.for_ PassesOwn.never rfl (DIF.range1 (by rfl) M.n_range (DA.cons DE.int DA.nil)) (gN 4 sc.nd) (Frz.name 4) (DSs.one (DS.ifS (DT.cmp op_gt od_gt (DE.var (pv 3)) DE.int) (DSs.cons (DS.app (pv 1) (eMod (DR.de (DR.callTy cr_int cd_int (by rfl) M.n_int boot_int_ (DA.cons (DE.var (pv 3)) DA.nil))) DE.int)) (DSs.one (DS.set (i := 3) sc.nd rfl (by first | exact .inl rfl | exact .inr rfl) (eDiv (DE.var (pv 3)) DE.int)))) DSs.nil)))) (DSs.cons (DS.set (i := 5) sc.nd rfl (by first | exact .inl rfl | exact .inr rfl) (eMod (DR.de (DR.callTy cr_int cd_int (by rfl) M.n_int boot_int_ (DA.cons (eAdd (eMul (DE.var (pv 3)) DE.int) (eMul (eAdd (DE.var (pv 2)) DE.int) DE.int)) DA.nil))) DE.int)) (DSs.cons (DS.set (i := 5) sc.nd rfl (by first | exact .inl rfl | exact .inr rfl) (eMod (DR.de (DR.callTy cr_int cd_int (by rfl) M.n_int boot_int_ (DA.cons (eAdd (eAdd (eMul (DE.var (pv 5)) DE.int) (eMul DE.int (DE.var (pv 2)))) DE.int) DA.nil))) DE.int)) (DSs.cons (DS.app (pv 1) (eMod (DR.de (DR.callTy cr_int cd_int (by rfl) M.n_int boot_int_ (DA.cons (DE.var (pv 5)) DA.nil))) DE.int)) (DSs.one (DS.app (pv 1) (eMod (DR.de (DR.callTy cr_int cd_int (by rfl) M.n_int boot_int_ (DA.cons (eDiv (DE.var (pv 5)) DE.int) DA.nil))) DE.int)))))))))) (DSs.one (DS.retV (pv 1)))))
abbrev s_law_mix : Stmt := top 27
abbrev N_law_mix : List Str := ["draws", "k", "many", "value"]
abbrev p_law_mix : List Str := ["draws", "k", "many"]
theorem sc_law_mix : FnScope N_law_mix p_law_mix (defScope s_law_mix) := ⟨rfl, rfl, rfl, by decide +kernel, rfl, by decide +kernel, by decide +kernel⟩
theorem ok_law_mix {f : Addr} {fd : FuncData} (M : Mg mg) (F : FunD K "_law_mix" "_law_mix" (defArgs s_law_mix) (defBody s_law_mix) (defScope s_law_mix) [] [] f fd) : FnOk P w K mg base CX0 1 f fd p_law_mix (spD IsX d_law_mix) :=
  fn_ok F sc_law_mix fun wx cdv A outer s H E hr => by
    have sc := sc_law_mix
    exact (DSs.cons (DS.set (i := 3) sc.nd rfl (by first | exact .inl rfl | exact .inr rfl) DE.int) (DSs.cons (DS.ifS (DT.cmp op_gt od_gt (DR.de (DR.callBQ cr_len cq_len (by rfl) M.n_len boot_len_ (DE.q (DE.var (pv 0))))) DE.int) (DSs.one (DS.set (i := 3) sc.nd rfl (by first | exact .inl rfl | exact .inr rfl) (DE.ix (DE.q (DE.var (pv 0))) (eMod (DR.de (DR.callTy cr_int cd_int (by rfl) M.n_int boot_int_ (DA.cons (DE.var (pv 1)) DA.nil))) (DR.de (DR.callBQ cr_len cq_len (by rfl) M.n_len boot_len_ (DE.q (DE.var (pv 0))))))))) DSs.nil) (DSs.cons (DS.ifS (DT.cmp op_lt od_lt (DE.var (pv 1)) (DR.de (DR.callBQ cr_len cq_len (by rfl) M.n_len boot_len_ (DE.q (DE.var (pv 0)))))) (DSs.one (DS.ret (DE.dr (eMod (DR.de (DR.callTy cr_int cd_int (by rfl) M.n_int boot_int_ (DA.cons (DE.var (pv 3)) DA.nil))) (DE.var (pv 2)))))) DSs.nil) (DSs.one (DS.ret (DE.dr (eMod (DR.de (DR.callTy cr_int cd_int (by rfl) M.n_int boot_int_ (DA.cons (eDiv (DR.de (DR.callTy cr_int cd_int (by rfl) M.n_int boot_int_ (DA.cons (eAdd (eMul (DE.var (pv 3)) DE.int) (eMul (DE.var (pv 1)) DE.int)) DA.nil))) DE.int) DA.nil))) (DE.var (pv 2)))))))))
abbrev s_law_family : Stmt := top 28
abbrev N_law_family : List Str := ["draws", "first", "most", "things", "sets", "t", "told", "v"]
abbrev p_law_family : List Str := ["draws", "first", "most"]
theorem sc_law_family : FnScope N_law_family p_law_family (defScope s_law_family) := ⟨rfl, rfl, rfl, by decide +kernel, rfl, by decide +kernel, by decide +kernel⟩
theorem ok_law_family {f : Addr} {fd : FuncData} (M : Mg mg) (G_law_mix : FnD P w K mg base IsX CX0 1 "_law_mix" p_law_mix d_law_mix) (F : FunD K "_law_family" "_law_family" (defArgs s_law_family) (defBody s_law_family) (defScope s_law_family) [] [] f fd) : FnOk P w K mg base CX0 2 f fd p_law_family (spD IsX d_law_family) :=
  fn_ok F sc_law_family fun wx cdv A outer s H E hr => by
    have sc := sc_law_family
    have hu := room_hu hr
    exact (by
      have z : DSs wx (cxOf CX0 P w K mg base N_law_family "_law_family" (defScope s_law_family) f cdv A outer s H E).nox (defBody s_law_family) ((zSeq (zSet 3 (kBin gAdd (kC (.int 1)) (kData (kCallD d_law_mix (kCons (gVar 0) (kCons (gVar 1) (kCons (gVar 2) kNil)))))))
  (zSeq (zSetR 4 (kLst kNil))
  (zSeq (zFor (kRange1 (kCons (kBin gAdd (kC (.int 1)) (kData (kCallD d_law_mix (kCons (gVar 0) (kCons (kBin gAdd (gVar 1) (kC (.int 1))) (kCons (kC (.int 10)) kNil)))))) kNil)) (sName 5) (zSeq (zSet 6 (kData (kComp (List.map (fun x => x.2) ([("v", 7)] : List (Str × Nat))) (kRange1 (kCons (gVar 3) kNil)) (sName 7) (kB (kBin gEqA (kData (kCallD d_law_mix (kCons (gVar 0) (kCons (kBin gAdd (kBin gAdd (kBin gAdd (gVar 1) (kC (.int 10))) (kBin gMul (kC (.int 8)) (gVar 5))) (gVar 7)) (kCons (kIx (kQ (kData (kLst (kCons (kC (.int 2)) (kCons (kC (.int 3)) (kCons (kC (.int 4)) kNil)))))) (kData (kCallD d_law_mix (kCons (gVar 0) (kCons (kBin gAdd (gVar 1) (kC (.int 2))) (kCons (kC (.int 3)) kNil)))))) kNil))))) (kC (.int 0)))) (gVar 7))))
  (zSeq (zIf (kB (kBin gEqA (gVar 6) (kData (kLst kNil)))) (zSet 6 (kData (kLst (kCons (kData (kCallD d_law_mix (kCons (gVar 0) (kCons (kBin gAdd (kBin gAdd (gVar 1) (kC (.int 100))) (gVar 5)) (kCons (gVar 3) kNil))))) kNil)))) zNext)
  (zIf (kB (kBinL gNotInL (gVar 6) (gLst 4))) (zApp 4 (gVar 6)) zNext))))
  (zRet (kFr (kTup (kCons (gVar 3) (kCons (kData (kCall gSortedC (gLst 4))) kNil))))))))) := (DSs.cons (DS.set (i := 3) sc.nd rfl (by first | exact .inl rfl | exact .inr rfl) (eAdd DE.int (DR.de (DR.call G_law_mix (hr.mono (by decide)) (by rfl) (DA.cons (DE.var (pv 0)) (DA.cons (DE.var (pv 1)) (DA.cons (DE.var (pv 2)) DA.nil))))))) (DSs.cons (DS.setR (i := 4) sc.nd rfl (by first | exact .inl rfl | exact .inr rfl) (DR.lst DA.nil)) (DSs.cons (DS.for_ PassesOwn.never rfl (DIF.range1 (by rfl) M.n_range (DA.cons (eAdd DE.int (DR.de (DR.call G_law_mix (hr.mono (by decide)) (by rfl) (DA.cons (DE.var (pv 0)) (DA.cons (eAdd (DE.var (pv 1)) DE.int) (DA.cons DE.int DA.nil)))))) DA.nil)) (gN 5 sc.nd) (Frz.name 5) (DSs.cons (DS.setLcE (i := 6) rfl sc.nd rfl rfl (sw_true rfl rfl rfl (by decide +kernel)) (DIF.c (DIF.range1 (by rfl) M.n_range (DA.cons (DE.var (pv 3)) DA.nil))) (blkOk_by (N := N_law_family) (sc := (defScope s_law_family)) (own := [("v", 7)]) (by decide +kernel)) (fun _ _ _ _ _ => (gN 7 sc.nd)) (fun _ _ _ _ _ => (DTs.one (DT.cmp (cEqA hu) od_eqA (DR.de (DR.call G_law_mix (hr.mono (by decide)) (by rfl) (DA.cons (DE.var (pv 0)) (DA.cons (eAdd (eAdd (eAdd (DE.var (pv 1)) DE.int) (eMul DE.int (DE.var (pv 5)))) (DE.var (pv 7))) (DA.cons (DE.ix (DE.q (DR.de (DR.lst (DA.cons DE.int (DA.cons DE.int (DA.cons DE.int DA.nil)))))) (DR.de (DR.call G_law_mix (hr.mono (by decide)) (by rfl) (DA.cons (DE.var (pv 0)) (DA.cons (eAdd (DE.var (pv 1)) DE.int) (DA.cons DE.int DA.nil)))))) DA.nil))))) DE.int))) (fun _ _ _ _ _ => (DE.var (pv 7)))) (DSs.cons (DS.ifS (DT.cmp (cEqA hu) od_eqA (DE.var (pv 6)) (DR.de (DR.lst DA.nil))) (DSs.one (DS.set (i := 6) sc.nd rfl (by first | exact .inl rfl | exact .inr rfl) (DR.de (DR.lst (DA.cons (DR.de (DR.call G_law_mix (hr.mono (by decide)) (by rfl) (DA.cons (DE.var (pv 0)) (DA.cons (eAdd (eAdd (DE.var (pv 1)) DE.int) (DE.var (pv 5))) (DA.cons (DE.var (pv 3)) DA.nil))))) DA.nil))))) DSs.nil) (DSs.one (DS.ifS (DT.cmpL (op_notInD hu) ol_notIn (DE.var (pv 6)) (DLs.var (pv 4))) (DSs.one (DS.app (pv 4) (DE.var (pv 6)))) DSs.nil))))) (DSs.one (DS.ret (DE.dr (DE.tup (DA.cons (DE.var (pv 3)) (DA.cons (DR.de (DR.callBL (cr_sortedD hu) cl_sortedC (by rfl) M.n_sorted boot_sorted_ (DLs.var (pv 4)))) DA.nil)))))))))
      exact z)
abbrev s_law_lists : Stmt := top 29
abbrev N_law_lists : List Str := ["many", "found", "v", "one"]
abbrev p_law_lists : List Str := ["many"]
theorem sc_law_lists : FnScope N_law_lists p_law_lists (defScope s_law_lists) := ⟨rfl, rfl, rfl, by decide +kernel, rfl, by decide +kernel, by decide +kernel⟩
theorem ok_law_lists {f : Addr} {fd : FuncData} (M : Mg mg) (F : FunD K "_law_lists" "_law_lists" (defArgs s_law_lists) (defBody s_law_lists) (defScope s_law_lists) [] [] f fd) : FnOk P w K mg base CX0 1 f fd p_law_lists (spD IsX d_law_lists) :=
  fn_ok F sc_law_lists fun wx cdv A outer s H E hr => by
    have sc := sc_law_lists
    have hu := room_hu hr
    exact (by
      have z : DSs wx (cxOf CX0 P w K mg base N_law_lists "_law_lists" (defScope s_law_lists) f cdv A outer s H E).nox (defBody s_law_lists) ((zSeq (zSet 1 (kData (kLst (kCons (kData (kLst kNil)) kNil))))
  (zSeq (zFor (kRange1 (kCons (gVar 0) kNil)) (sName 2) (zSet 1 (kBin gAdd (gVar 1) (kData (kComp (List.map (fun x => x.2) ([("one", 3)] : List (Str × Nat))) (kQ (gVar 1)) (sName 3) kYes (kBin gAdd (gVar 3) (kData (kLst (kCons (gVar 2) kNil)))))))))
  (zRet (kCall gSortedC (kL (gVar 1))))))) := (DSs.cons (DS.set (i := 1) sc.nd rfl (by first | exact .inl rfl | exact .inr rfl) (DR.de (DR.lst (DA.cons (DR.de (DR.lst DA.nil)) DA.nil)))) (DSs.cons (DS.for_ PassesOwn.never rfl (DIF.range1 (by rfl) M.n_range (DA.cons (DE.var (pv 0)) DA.nil)) (gN 2 sc.nd) (Frz.name 2) (DSs.one (DS.set (i := 1) sc.nd rfl (by first | exact .inl rfl | exact .inr rfl) (eAdd (DE.var (pv 1)) (DR.de (DR.lc rfl sc.nd (DIC.seq (DE.q (DE.var (pv 1)))) (blkOk_by (N := N_law_lists) (sc := (defScope s_law_lists)) (own := [("one", 3)]) (by decide +kernel)) (fun _ _ _ _ _ => (gN 3 sc.nd)) (fun _ _ _ _ _ => DTs.nil) (fun _ _ _ _ _ => (eAdd (DE.var (pv 3)) (DR.de (DR.lst (DA.cons (DE.var (pv 2)) DA.nil))))))))))) (DSs.one (DS.ret (DR.callBL (cr_sortedD hu) cl_sortedC (by rfl) M.n_sorted boot_sorted_ (DE.ls (DE.var (pv 1))))))))
      exact z)
abbrev s_law_meets : Stmt := top 30
abbrev N_law_meets : List Str := ["one", "two", "v"]
abbrev p_law_meets : List Str := ["one", "two"]
theorem sc_law_meets : FnScope N_law_meets p_law_meets (defScope s_law_meets) := ⟨rfl, rfl, rfl, by decide +kernel, rfl, by decide +kernel, by decide +kernel⟩
theorem ok_law_meets {f : Addr} {fd : FuncData} (M : Mg mg) (F : FunD K "_law_meets" "_law_meets" (defArgs s_law_meets) (defBody s_law_meets) (defScope s_law_meets) [] [] f fd) : FnOk P w K mg base CX0 1 f fd p_law_meets (spD IsX d_law_meets) :=
  fn_ok F sc_law_meets fun wx cdv A outer s H E hr => by
    have sc := sc_law_meets
    have hu := room_hu hr
    exact (by
      have z : DSs wx (cxOf CX0 P w K mg base N_law_meets "_law_meets" (defScope s_law_meets) f cdv A outer s H E).nox (defBody s_law_meets) ((zRet (kFr (kBin gGt (kData (kCall gLen (kQ (kData (kComp (List.map (fun x => x.2) ([("v", 2)] : List (Str × Nat))) (kQ (gVar 0)) (sName 2) (kB (kBin gInA (gVar 2) (gVar 1))) (gVar 2)))))) (kC (.int 0)))))) := (DSs.one (DS.ret (DE.dr (DE.cmp op_gt od_gt (DR.de (DR.callBQ cr_len cq_len (by rfl) M.n_len boot_len_ (DE.q (DR.de (DR.lc rfl sc.nd (DIC.seq (DE.q (DE.var (pv 0)))) (blkOk_by (N := N_law_meets) (sc := (defScope s_law_meets)) (own := [("v", 2)]) (by decide +kernel)) (fun _ _ _ _ _ => (gN 2 sc.nd)) (fun _ _ _ _ _ => (DTs.one (DT.cmp (cIn hu) od_inA (DE.var (pv 2)) (DE.var (pv 1))))) (fun _ _ _ _ _ => (DE.var (pv 2)))))))) DE.int))))
      exact z)
abbrev s_law_is_packing : Stmt := top 31
abbrev N_law_is_packing : List Str := ["sets", "told", "a", "b"]
abbrev p_law_is_packing : List Str := ["sets", "told"]
theorem sc_law_is_packing : FnScope N_law_is_packing p_law_is_packing (defScope s_law_is_packing) := ⟨rfl, rfl, rfl, by decide +kernel, rfl, by decide +kernel, by decide +kernel⟩
theorem ok_law_is_packing {f : Addr} {fd : FuncData} (M : Mg mg) (G_law_meets : FnD P w K mg base IsX CX0 1 "_law_meets" p_law_meets d_law_meets) (F : FunD K "_law_is_packing" "_law_is_packing" (defArgs s_law_is_packing) (defBody s_law_is_packing) (defScope s_law_is_packing) [] [] f fd) : FnOk P w K mg base CX0 2 f fd p_law_is_packing (spD IsX d_law_is_packing) :=
  fn_ok F sc_law_is_packing fun wx cdv A outer s H E hr => by
    have sc := sc_law_is_packing
    exact (DSs.cons (DS.for_ PassesOwn.never rfl (DIF.range1 (by rfl) M.n_range (DA.cons (DR.de (DR.callBQ cr_len cq_len (by rfl) M.n_len boot_len_ (DE.q (DE.var (pv 1))))) DA.nil)) (gN 2 sc.nd) (Frz.name 2) (DSs.one (DS.for_ PassesOwn.never rfl (DIF.range1 (by rfl) M.n_range (DA.cons (DE.var (pv 2)) DA.nil)) (gN 3 sc.nd) (Frz.name 3) (DSs.one (DS.ifS (DT.val (DR.de (DR.call G_law_meets (hr.mono (by decide)) (by rfl) (DA.cons (DE.ix (DE.q (DE.var (pv 0))) (DE.ix (DE.q (DE.var (pv 1))) (DE.var (pv 2)))) (DA.cons (DE.ix (DE.q (DE.var (pv 0))) (DE.ix (DE.q (DE.var (pv 1))) (DE.var (pv 3)))) DA.nil))))) (DSs.one (DS.ret (DE.dr DE.bl))) DSs.nil))))) (DSs.one (DS.ret (DE.dr DE.bl))))
abbrev s_law_packings : Stmt := top 32
abbrev N_law_packings : List Str := ["sets", "told"]
abbrev p_law_packings : List Str := ["sets"]
theorem sc_law_packings : FnScope N_law_packings p_law_packings (defScope s_law_packings) := ⟨rfl, rfl, rfl, by decide +kernel, rfl, by decide +kernel, by decide +kernel⟩
theorem ok_law_packings {f : Addr} {fd : FuncData} (M : Mg mg) (G_law_is_packing : FnD P w K mg base IsX CX0 2 "_law_is_packing" p_law_is_packing d_law_is_packing) (G_law_lists : FnD P w K mg base IsX CX0 1 "_law_lists" p_law_lists d_law_lists) (F : FunD K "_law_packings" "_law_packings" (defArgs s_law_packings) (defBody s_law_packings) (defScope s_law_packings) [] [] f fd) : FnOk P w K mg base CX0 3 f fd p_law_packings (spD IsX d_law_packings) :=
  fn_ok F sc_law_packings fun wx cdv A outer s H E hr => by
    have sc := sc_law_packings
    exact (by
      have z : DSs wx (cxOf CX0 P w K mg base N_law_packings "_law_packings" (defScope s_law_packings) f cdv A outer s H E).nox (defBody s_law_packings) ((zRet (kComp (List.map (fun x => x.2) ([("told", 1)] : List (Str × Nat))) (kQ (kData (kCallD d_law_lists (kCons (kData (kCall gLen (kQ (gVar 0)))) kNil)))) (sName 1) (kB (kData (kCallD d_law_is_packing (kCons (gVar 0) (kCons (gVar 1) kNil))))) (gVar 1)))) := (DSs.one (DS.ret (DR.lc rfl sc.nd (DIC.seq (DE.q (DR.de (DR.call G_law_lists (hr.mono (by decide)) (by rfl) (DA.cons (DR.de (DR.callBQ cr_len cq_len (by rfl) M.n_len boot_len_ (DE.q (DE.var (pv 0))))) DA.nil))))) (blkOk_by (N := N_law_packings) (sc := (defScope s_law_packings)) (own := [("told", 1)]) (by decide +kernel)) (fun _ _ _ _ _ => (gN 1 sc.nd)) (fun _ _ _ _ _ => (DTs.one (DT.val (DR.de (DR.call G_law_is_packing (hr.mono (by decide)) (by rfl) (DA.cons (DE.var (pv 0)) (DA.cons (DE.var (pv 1)) DA.nil))))))) (fun _ _ _ _ _ => (DE.var (pv 1))))))
      exact z)
abbrev s_law_covers : Stmt := top 33
abbrev N_law_covers : List Str := ["things", "sets", "told", "one"]
abbrev p_law_covers : List Str := ["things", "sets"]
theorem sc_law_covers : FnScope N_law_covers p_law_covers (defScope s_law_covers) := ⟨rfl, rfl, rfl, by decide +kernel, rfl, by decide +kernel, by decide +kernel⟩
theorem ok_law_covers {f : Addr} {fd : FuncData} (M : Mg mg) (G_law_lists : FnD P w K mg base IsX CX0 1 "_law_lists" p_law_lists d_law_lists) (G_law_meets : FnD P w K mg base IsX CX0 1 "_law_meets" p_law_meets d_law_meets) (F : FunD K "_law_covers" "_law_covers" (defArgs s_law_covers) (defBody s_law_covers) (defScope s_law_covers) [] [] f fd) : FnOk P w K mg base CX0 2 f fd p_law_covers (spD IsX d_law_covers) :=
  fn_ok F sc_law_covers fun wx cdv A outer s H E hr => by
    have sc := sc_law_covers
    have hu := room_hu hr
    exact (by
      have z : DSs wx (cxOf CX0 P w K mg base N_law_covers "_law_covers" (defScope s_law_covers) f cdv A outer s H E).nox (defBody s_law_covers) ((zRet (kComp (List.map (fun x => x.2) ([("told", 2)] : List (Str × Nat))) (kQ (kData (kCallD d_law_lists (kCons (gVar 0) kNil)))) (sName 2) (kB (kBin gEqA (kData (kCall gLen (kQ (kData (kComp (List.map (fun x => x.2) ([("one", 3)] : List (Str × Nat))) (kQ (gVar 1)) (sName 3) (kNot (kB (kData (kCallD d_law_meets (kCons (gVar 3) (kCons (gVar 2) kNil)))))) (gVar 3)))))) (kC (.int 0)))) (gVar 2)))) := (DSs.one (DS.ret (DR.lc rfl sc.nd (DIC.seq (DE.q (DR.de (DR.call G_law_lists (hr.mono (by decide)) (by rfl) (DA.cons (DE.var (pv 0)) DA.nil))))) (blkOk_by (N := N_law_covers) (sc := (defScope s_law_covers)) (own := [("told", 2)]) (by decide +kernel)) (fun _ _ _ _ _ => (gN 2 sc.nd)) (fun _ _ _ _ _ => (DTs.one (DT.cmp (cEqA hu) od_eqA (DR.de (DR.callBQ cr_len cq_len (by rfl) M.n_len boot_len_ (DE.q (DR.de (DR.lc rfl sc.nd (DIC.seq (DE.q (DE.var (pv 1)))) (blkOk_by (N := N_law_covers) (sc := (relS _ (defScope s_law_covers))) (own := [("one", 3)]) (by decide +kernel)) (fun _ _ _ _ _ => (gN 3 sc.nd)) (fun _ _ _ _ _ => (DTs.one (DT.not (DT.val (DR.de (DR.call G_law_meets (hr.mono (by decide)) (by rfl) (DA.cons (DE.var (pv 3)) (DA.cons (DE.var (pv 2)) DA.nil)))))))) (fun _ _ _ _ _ => (DE.var (pv 3)))))))) DE.int))) (fun _ _ _ _ _ => (DE.var (pv 2))))))
      exact z)
abbrev s_law_minor : Stmt := top 34
abbrev N_law_minor : List Str := ["sets", "out", "given", "found", "one", "left", "v"]
abbrev p_law_minor : List Str := ["sets", "out", "given"]
theorem sc_law_minor : FnScope N_law_minor p_law_minor (defScope s_law_minor) := ⟨rfl, rfl, rfl, by decide +kernel, rfl, by decide +kernel, by decide +kernel⟩
theorem ok_law_minor {f : Addr} {fd : FuncData} (M : Mg mg) (G_law_meets : FnD P w K mg base IsX CX0 1 "_law_meets" p_law_meets d_law_meets) (F : FunD K "_law_minor" "_law_minor" (defArgs s_law_minor) (defBody s_law_minor) (defScope s_law_minor) [] [] f fd) : FnOk P w K mg base CX0 2 f fd p_law_minor (spD IsX d_law_minor) :=
  fn_ok F sc_law_minor fun wx cdv A outer s H E hr => by
    have sc := sc_law_minor
    have hu := room_hu hr
    exact (by
      have z : DSs wx (cxOf CX0 P w K mg base N_law_minor "_law_minor" (defScope s_law_minor) f cdv A outer s H E).nox (defBody s_law_minor) ((zSeq (zSetR 3 (kLst kNil))
  (zSeq (zFor (kQ (gVar 0)) (sName 4) (zIf (kNot (kB (kData (kCallD d_law_meets (kCons (gVar 4) (kCons (gVar 1) kNil)))))) (zSeq (zSet 5 (kData (kComp (List.map (fun x => x.2) ([("v", 6)] : List (Str × Nat))) (kQ (gVar 4)) (sName 6) (kB (kBin gNotIn (gVar 6) (gVar 2))) (gVar 6))))
  (zIf (kB (kBinL gNotInL (gVar 5) (gLst 3))) (zApp 3 (gVar 5)) zNext)) zNext))
  (zRet (kCall gSortedC (gLst 3)))))) := (DSs.cons (DS.setR (i := 3) sc.nd rfl (by first | exact .inl rfl | exact .inr rfl) (DR.lst DA.nil)) (DSs.cons (DS.for_ PassesOwn.never rfl (DIF.seq (DE.var (pv 0))) (gN 4 sc.nd) (Frz.name 4) (DSs.one (DS.ifS (DT.not (DT.val (DR.de (DR.call G_law_meets (hr.mono (by decide)) (by rfl) (DA.cons (DE.var (pv 4)) (DA.cons (DE.var (pv 1)) DA.nil)))))) (DSs.cons (DS.setLcE (i := 5) rfl sc.nd rfl rfl (sw_true rfl rfl rfl (by decide +kernel)) (DIC.seq (DE.q (DE.var (pv 4)))) (blkOk_by (N := N_law_minor) (sc := (defScope s_law_minor)) (own := [("v", 6)]) (by decide +kernel)) (fun _ _ _ _ _ => (gN 6 sc.nd)) (fun _ _ _ _ _ => (DTs.one (DT.cmp (op_notInD hu) od_notIn (DE.var (pv 6)) (DE.var (pv 2))))) (fun _ _ _ _ _ => (DE.var (pv 6)))) (DSs.one (DS.ifS (DT.cmpL (op_notInD hu) ol_notIn (DE.var (pv 5)) (DLs.var (pv 3))) (DSs.one (DS.app (pv 3) (DE.var (pv 5)))) DSs.nil))) DSs.nil))) (DSs.one (DS.ret (DR.callBL (cr_sortedD hu) cl_sortedC (by rfl) M.n_sorted boot_sorted_ (DLs.var (pv 3)))))))
      exact z)
abbrev s_law_packs : Stmt := top 35
abbrev N_law_packs : List Str := ["things", "sets", "told"]
abbrev p_law_packs : List Str := ["things", "sets"]
theorem sc_law_packs : FnScope N_law_packs p_law_packs (defScope s_law_packs) := ⟨rfl, rfl, rfl, by decide +kernel, rfl, by decide +kernel, by decide +kernel⟩
theorem ok_law_packs {f : Addr} {fd : FuncData} (M : Mg mg) (G_law_covers : FnD P w K mg base IsX CX0 2 "_law_covers" p_law_covers d_law_covers) (G_law_packings : FnD P w K mg base IsX CX0 3 "_law_packings" p_law_packings d_law_packings) (F : FunD K "_law_packs" "_law_packs" (defArgs s_law_packs) (defBody s_law_packs) (defScope s_law_packs) [] [] f fd) : FnOk P w K mg base CX0 4 f fd p_law_packs (spD IsX d_law_packs) :=
  fn_ok F sc_law_packs fun wx cdv A outer s H E hr => by
    have sc := sc_law_packs
    have hu := room_hu hr
    exact (by
      have z : DSs wx (cxOf CX0 P w K mg base N_law_packs "_law_packs" (defScope s_law_packs) f cdv A outer s H E).nox (defBody s_law_packs) ((zSeq (zIf (kOr (kB (kBin gEqA (gVar 1) (kData (kLst kNil)))) (kB (kBin gInA (kData (kLst kNil)) (gVar 1)))) (zRet (kFr (kC (.bool true)))) zNext)
  (zRet (kFr (kBin gEqA (kData (kCall gMax (kRL (kComp (List.map (fun x => x.2) ([("told", 2)] : List (Str × Nat))) (kQ (kData (kCallD d_law_packings (kCons (gVar 1) kNil)))) (sName 2) kYes (kData (kCall gLen (kQ (gVar 2)))))))) (kData (kCall gMin (kRL (kComp (List.map (fun x => x.2) ([("told", 2)] : List (Str × Nat))) (kQ (kData (kCallD d_law_covers (kCons (gVar 0) (kCons (gVar 1) kNil))))) (sName 2) kYes (kData (kCall gLen (kQ (gVar 2))))))))))))) := (DSs.cons (DS.ifS (DW.t (DW.or (DT.cmp (cEqA hu) od_eqA (DE.var (pv 1)) (DR.de (DR.lst DA.nil))) (DW.or1 (DT.cmp (cIn hu) od_inA (DR.de (DR.lst DA.nil)) (DE.var (pv 1)))))) (DSs.one (DS.ret (DE.dr DE.bl))) DSs.nil) (DSs.one (DS.ret (DE.dr (DE.cmp (cEqA hu) od_eqA (DR.de (DR.callBL (cr_max rfl) cl_max (by rfl) M.n_max boot_max_ (DR.ls (DR.lc rfl sc.nd (DIC.seq (DE.q (DR.de (DR.call G_law_packings (hr.mono (by decide)) (by rfl) (DA.cons (DE.var (pv 1)) DA.nil))))) (blkOk_by (N := N_law_packs) (sc := (defScope s_law_packs)) (own := [("told", 2)]) (by decide +kernel)) (fun _ _ _ _ _ => (gN 2 sc.nd)) (fun _ _ _ _ _ => DTs.nil) (fun _ _ _ _ _ => (DR.de (DR.callBQ cr_len cq_len (by rfl) M.n_len boot_len_ (DE.q (DE.var (pv 2)))))))))) (DR.de (DR.callBL (cr_min rfl) cl_min (by rfl) M.n_min boot_min_ (DR.ls (DR.lc rfl sc.nd (DIC.seq (DE.q (DR.de (DR.call G_law_covers (hr.mono (by decide)) (by rfl) (DA.cons (DE.var (pv 0)) (DA.cons (DE.var (pv 1)) DA.nil)))))) (blkOk_by (N := N_law_packs) (sc := (defScope s_law_packs)) (own := [("told", 2)]) (by decide +kernel)) (fun _ _ _ _ _ => (gN 2 sc.nd)) (fun _ _ _ _ _ => DTs.nil) (fun _ _ _ _ _ => (DR.de (DR.callBQ cr_len cq_len (by rfl) M.n_len boot_len_ (DE.q (DE.var (pv 2)))))))))))))))
      exact z)
abbrev s_law_word : Stmt := top 36
abbrev N_law_word : List Str := ["way", "family", "out", "given", "e"]
abbrev p_law_word : List Str := ["way", "family", "out", "given"]
theorem sc_law_word : FnScope N_law_word p_law_word (defScope s_law_word) := ⟨rfl, rfl, rfl, by decide +kernel, rfl, by decide +kernel, by decide +kernel⟩
theorem ok_law_word {f : Addr} {fd : FuncData} (M : Mg mg) (MX : Mx K mg cX) (G_bad_minor : FnD P w K mg base (isXK K) (L2.CX P w) 4 "bad_minor" p_bad_minor d_bad_minor) (G_minor : FnD P w K mg base (isXK K) (L2.CX P w) 4 "minor" p_minor d_minor) (F : FunD K "_law_word" "_law_word" (defArgs s_law_word) (defBody s_law_word) (defScope s_law_word) [] [] f fd) : FnOk P w K mg base CX0 5 f fd p_law_word (spD IsX d_law_word) :=
  fn_ok F sc_law_word fun wx cdv A outer s H E hr => by
    have sc := sc_law_word
    have hu := room_hu hr
    exact (DSs.cons (DS.try_ (i := 4) (l := [("NotASet", hStr "set"), ("Overlap", hStr "both"), ("TooMany", hStr "many")]) rfl rfl sc.nd rfl rfl (MX.hx (by decide)) (fun wx1 pn xe z po => (DSs.one (DS.ifS (DT.cmp (cEqA hu) od_eqA (DE.var (pv 0)) DE.int) (DSs.one (DS.callX z G_minor (hr.mono (by decide)) (by rfl) (DA.cons (DE.var (pv 1)) (DA.cons (DE.var (pv 2)) (DA.cons (DE.var (pv 3)) DA.nil))))) (DSs.one (DS.callX z G_bad_minor (hr.mono (by decide)) (by rfl) (DA.cons (DE.var (pv 1)) DA.nil)))))) (.cons ⟨by rfl, by decide, .inl (MX.m _ (by decide))⟩ (fun a oe cls d pn hz hf => hsStr (MX.xf _ (by decide)) (MX.no _ (by decide)) hz hf (pv 4)) (.cons ⟨by rfl, by decide, .inl (MX.m _ (by decide))⟩ (fun a oe cls d pn hz hf => hsStr (MX.xf _ (by decide)) (MX.no _ (by decide)) hz hf (pv 4)) (.cons ⟨by rfl, by decide, .inl (MX.m _ (by decide))⟩ (fun a oe cls d pn hz hf => hsStr (MX.xf _ (by decide)) (MX.no _ (by decide)) hz hf (pv 4)) .nil)))) (DSs.one (DS.ret (DE.dr (DE.tup (DA.cons DE.str (DA.cons DE.int DA.nil)))))))
abbrev s_law_pairs : Stmt := top 37
abbrev N_law_pairs : List Str := ["draws", "first", "things", "sets", "t", "a", "b"]
abbrev p_law_pairs : List Str := ["draws", "first"]
theorem sc_law_pairs : FnScope N_law_pairs p_law_pairs (defScope s_law_pairs) := ⟨rfl, rfl, rfl, by decide +kernel, rfl, by decide +kernel, by decide +kernel⟩
theorem ok_law_pairs {f : Addr} {fd : FuncData} (M : Mg mg) (G_law_mix : FnD P w K mg base IsX CX0 1 "_law_mix" p_law_mix d_law_mix) (F : FunD K "_law_pairs" "_law_pairs" (defArgs s_law_pairs) (defBody s_law_pairs) (defScope s_law_pairs) [] [] f fd) : FnOk P w K mg base CX0 2 f fd p_law_pairs (spD IsX d_law_pairs) :=
  fn_ok F sc_law_pairs fun wx cdv A outer s H E hr => by
    have sc := sc_law_pairs
    have hu := room_hu hr
    exact (DSs.cons (DS.set (i := 2) sc.nd rfl (by first | exact .inl rfl | exact .inr rfl) (eAdd DE.int (DR.de (DR.call G_law_mix (hr.mono (by decide)) (by rfl) (DA.cons (DE.var (pv 0)) (DA.cons (DE.var (pv 1)) (DA.cons DE.int DA.nil))))))) (DSs.cons (DS.setR (i := 3) sc.nd rfl (by first | exact .inl rfl | exact .inr rfl) (DR.lst DA.nil)) (DSs.cons (DS.for_ PassesOwn.never rfl (DIF.range1 (by rfl) M.n_range (DA.cons (eAdd DE.int (DR.de (DR.call G_law_mix (hr.mono (by decide)) (by rfl) (DA.cons (DE.var (pv 0)) (DA.cons (eAdd (DE.var (pv 1)) DE.int) (DA.cons DE.int DA.nil)))))) DA.nil)) (gN 4 sc.nd) (Frz.name 4) (DSs.cons (DS.set (i := 5) sc.nd rfl (by first | exact .inl rfl | exact .inr rfl) (DR.de (DR.call G_law_mix (hr.mono (by decide)) (by rfl) (DA.cons (DE.var (pv 0)) (DA.cons (eAdd (eAdd (DE.var (pv 1)) (eMul DE.int (DE.var (pv 4)))) DE.int) (DA.cons (DE.var (pv 2)) DA.nil)))))) (DSs.cons (DS.set (i := 6) sc.nd rfl (by first | exact .inl rfl | exact .inr rfl) (DR.de (DR.call G_law_mix (hr.mono (by decide)) (by rfl) (DA.cons (DE.var (pv 0)) (DA.cons (eAdd (eAdd (DE.var (pv 1)) (eMul DE.int (DE.var (pv 4)))) DE.int) (DA.cons (DE.var (pv 2)) DA.nil)))))) (DSs.one (DS.ifS (DW.t (DW.and (DT.cmp (cNeA hu) od_neA (DE.var (pv 5)) (DE.var (pv 6))) (DW.and1 (DT.cmpL (op_notInD hu) ol_notIn (DR.de (DR.callBL (cr_sortedD hu) cl_sortedC (by rfl) M.n_sorted boot_sorted_ (DR.ls (DR.lst (DA.cons (DE.var (pv 5)) (DA.cons (DE.var (pv 6)) DA.nil)))))) (DLs.var (pv 3)))))) (DSs.one (DS.app (pv 3) (DR.de (DR.callBL (cr_sortedD hu) cl_sortedC (by rfl) M.n_sorted boot_sorted_ (DR.ls (DR.lst (DA.cons (DE.var (pv 5)) (DA.cons (DE.var (pv 6)) DA.nil)))))))) DSs.nil))))) (DSs.ice 3 (DSs.one (DS.ret (DE.dr (DE.tup (DA.cons (DE.var (pv 2)) (DA.cons (DR.de (DR.callBL (cr_sortedD hu) cl_sortedC (by rfl) M.n_sorted boot_sorted_ (DE.ls (eAdd (DE.var (pv 3)) (eMul (DR.de (DR.lst (DA.cons (DR.de (DR.lst (DA.cons DE.int (DA.cons DE.int DA.nil)))) DA.nil))) (DR.de (DR.callTy cr_int cd_int (by rfl) M.n_int boot_int_ (DA.cons (DE.cmp (cEqA hu) od_eqA (DE.var (pv 3)) (DR.de (DR.lst DA.nil))) DA.nil)))))))) DA.nil))))))))))
abbrev s_law_is_side : Stmt := top 38
abbrev N_law_is_side : List Str := ["family", "told", "one", "v"]
abbrev p_law_is_side : List Str := ["family", "told"]
theorem sc_law_is_side : FnScope N_law_is_side p_law_is_side (defScope s_law_is_side) := ⟨rfl, rfl, rfl, by decide +kernel, rfl, by decide +kernel, by decide +kernel⟩
theorem ok_law_is_side {f : Addr} {fd : FuncData} (M : Mg mg) (F : FunD K "_law_is_side" "_law_is_side" (defArgs s_law_is_side) (defBody s_law_is_side) (defScope s_law_is_side) [] [] f fd) : FnOk P w K mg base CX0 1 f fd p_law_is_side (spD IsX d_law_is_side) :=
  fn_ok F sc_law_is_side fun wx cdv A outer s H E hr => by
    have sc := sc_law_is_side
    have hu := room_hu hr
    exact (by
      have z : DSs wx (cxOf CX0 P w K mg base N_law_is_side "_law_is_side" (defScope s_law_is_side) f cdv A outer s H E).nox (defBody s_law_is_side) ((zRet (kFr (kBin gEqA (kData (kCall gLen (kQ (kData (kComp (List.map (fun x => x.2) ([("one", 2)] : List (Str × Nat))) (kQ (kIx (kQ (gVar 0)) (kC (.int 1)))) (sName 2) (kOr (kB (kBin gNeA (kData (kCall gLen (kQ (gVar 2)))) (kC (.int 2)))) (kB (kBin gNeA (kData (kCall gLen (kQ (kData (kComp (List.map (fun x => x.2) ([("v", 3)] : List (Str × Nat))) (kQ (gVar 2)) (sName 3) (kB (kBin gInA (gVar 3) (gVar 1))) (gVar 3)))))) (kC (.int 1))))) (gVar 2)))))) (kC (.int 0)))))) := (DSs.one (DS.ret (DE.dr (DE.cmp (cEqA hu) od_eqA (DR.de (DR.callBQ cr_len cq_len (by rfl) M.n_len boot_len_ (DE.q (DR.de (DR.lc rfl sc.nd (DIC.seq (DE.q (DE.ix (DE.q (DE.var (pv 0))) DE.int))) (blkOk_by (N := N_law_is_side) (sc := (defScope s_law_is_side)) (own := [("one", 2)]) (by decide +kernel)) (fun _ _ _ _ _ => (gN 2 sc.nd)) (fun _ _ _ _ _ => (DTs.one (DW.t (DW.or (DT.cmp (cNeA hu) od_neA (DR.de (DR.callBQ cr_len cq_len (by rfl) M.n_len boot_len_ (DE.q (DE.var (pv 2))))) DE.int) (DW.or1 (DT.cmp (cNeA hu) od_neA (DR.de (DR.callBQ cr_len cq_len (by rfl) M.n_len boot_len_ (DE.q (DR.de (DR.lc rfl sc.nd (DIC.seq (DE.q (DE.var (pv 2)))) (blkOk_by (N := N_law_is_side) (sc := (relS _ (defScope s_law_is_side))) (own := [("v", 3)]) (by decide +kernel)) (fun _ _ _ _ _ => (gN 3 sc.nd)) (fun _ _ _ _ _ => (DTs.one (DT.cmp (cIn hu) od_inA (DE.var (pv 3)) (DE.var (pv 1))))) (fun _ _ _ _ _ => (DE.var (pv 3)))))))) DE.int)))))) (fun _ _ _ _ _ => (DE.var (pv 2)))))))) DE.int))))
      exact z)
abbrev s_law : Stmt := top 39
abbrev N_law : List Str := ["script", "draws", "families", "t", "family", "things", "sets", "kept", "turn", "out", "given", "due", "told", "side", "every", "v"]
abbrev p_law : List Str := ["script"]
theorem sc_law : FnScope N_law p_law (defScope s_law) := ⟨rfl, rfl, rfl, by decide +kernel, rfl, by decide +kernel, by decide +kernel⟩
theorem bd_law (M : Mg mg) (G_law_draws : FnS P w K mg base IsX CX0 1 "_law_draws" p_law_draws (d_law_draws K)) (G_law_family : FnD P w K mg base IsX CX0 2 "_law_family" p_law_family d_law_family) (G_law_is_side : FnD P w K mg base IsX CX0 1 "_law_is_side" p_law_is_side d_law_is_side) (G_law_lists : FnD P w K mg base IsX CX0 1 "_law_lists" p_law_lists d_law_lists) (G_law_meets : FnD P w K mg base IsX CX0 1 "_law_meets" p_law_meets d_law_meets) (G_law_minor : FnD P w K mg base IsX CX0 2 "_law_minor" p_law_minor d_law_minor) (G_law_mix : FnD P w K mg base IsX CX0 1 "_law_mix" p_law_mix d_law_mix) (G_law_packs : FnD P w K mg base IsX CX0 4 "_law_packs" p_law_packs d_law_packs) (G_law_pairs : FnD P w K mg base IsX CX0 2 "_law_pairs" p_law_pairs d_law_pairs) (G_law_word : FnD P w K mg base IsX CX0 5 "_law_word" p_law_word d_law_word) (G_bad_minor : FnD P w K mg base (isXK K) (L2.CX P w) 4 "bad_minor" p_bad_minor d_bad_minor) (G_minor : FnD P w K mg base (isXK K) (L2.CX P w) 4 "minor" p_minor d_minor) (G_packs : FnD P w K mg base IsX CX0 4 "packs" p_packs d_packs) (G_sides : FnD P w K mg base IsX CX0 3 "sides" p_sides d_sides) (wx : Hp → Str → Int → Prop) (f : Addr) (cdv : Value) (A : Around) (outer : List PySem.Env) (s : Shared) (H : Hp) (E : XK) (hg : A.guards = some []) (hr : Room 5 (A.deeper (PyProof.Rows.envOfC "law" (defScope s_law) s.heap.objs.size f cdv))) : DSs wx (cxOf CX0 P w K mg base N_law "law" (defScope s_law) f cdv A outer s H E).nox (defBody s_law) (b_law K) := by
    have sc := sc_law
    have hu := room_hu hr
    exact (by
      have z : DSs wx (cxOf CX0 P w K mg base N_law "law" (defScope s_law) f cdv A outer s H E).nox (defBody s_law) ((zSeq (zSet 1 (kData (kCallSc K (d_law_draws K) 0)))
  (zSeq (zSet 2 (kData (kLst (kCons (kData (kCallD d_law_family (kCons (gVar 1) (kCons (kC (.int 10)) (kCons (kC (.int 5)) kNil))))) (kCons (kData (kCallD d_law_pairs (kCons (gVar 1) (kCons (kC (.int 200)) kNil)))) (kCons (kTup (kCons (kC (.int 3)) (kCons (kData (kLst (kCons (kData (kLst (kCons (kC (.int 0)) (kCons (kC (.int 1)) kNil)))) (kCons (kData (kLst (kCons (kC (.int 0)) (kCons (kC (.int 2)) kNil)))) (kCons (kData (kLst (kCons (kC (.int 1)) (kCons (kC (.int 2)) kNil)))) kNil))))) kNil))) kNil))))))
  (zSeq (zFor (kRange1 (kCons (kC (.int 3)) kNil)) (sName 3) (zSeq (zSet 4 (kIx (kQ (gVar 2)) (gVar 3)))
  (zSeq (zAsg (gVar 4) (sTup 2 (sCons (sName 5) (sCons (sName 6) sNil))))
  (zSeq (zSet 7 (kData (kCall gRepr (kCons (gVar 4) kNil))))
  (zSeq (zIf (kB (kBin gNeA (kData (kCall gRepr (kCons (kData (kCallD d_packs (kCons (gVar 4) kNil))) kNil))) (kData (kCall gRepr (kCons (kData (kCallD d_law_packs (kCons (gVar 5) (kCons (gVar 6) kNil)))) kNil))))) (zRet (kFr (kC (.bool false)))) zNext)
  (zSeq (zFor (kRange1 (kCons (kC (.int 4)) kNil)) (sName 8) (zSeq (zSet 9 (kData (kComp (List.map (fun x => x.2) ([("v", 15)] : List (Str × Nat))) (kRange1 (kCons (gVar 5) kNil)) (sName 15) (kB (kBin gEqA (kData (kCallD d_law_mix (kCons (gVar 1) (kCons (kBin gAdd (kBin gAdd (kBin gAdd (kC (.int 300)) (kBin gMul (kC (.int 50)) (gVar 3))) (kBin gMul (kC (.int 10)) (gVar 8))) (gVar 15)) (kCons (kC (.int 4)) kNil))))) (kC (.int 0)))) (gVar 15))))
  (zSeq (zSet 10 (kData (kComp (List.map (fun x => x.2) ([("v", 15)] : List (Str × Nat))) (kRange1 (kCons (gVar 5) kNil)) (sName 15) (kAnd (kB (kBin gNotIn (gVar 15) (gVar 9))) (kB (kBin gEqA (kData (kCallD d_law_mix (kCons (gVar 1) (kCons (kBin gAdd (kBin gAdd (kBin gAdd (kC (.int 450)) (kBin gMul (kC (.int 50)) (gVar 3))) (kBin gMul (kC (.int 10)) (gVar 8))) (gVar 15)) (kCons (kC (.int 3)) kNil))))) (kC (.int 0))))) (gVar 15))))
  (zSeq (zIf (kB (kBin gNeA (kData (kCall gRepr (kCons (kData (kCallD d_minor (kCons (gVar 4) (kCons (gVar 9) (kCons (gVar 10) kNil))))) kNil))) (kData (kCall gRepr (kCons (kData (kCallD d_law_minor (kCons (gVar 6) (kCons (gVar 9) (kCons (gVar 10) kNil))))) kNil))))) (zRet (kFr (kC (.bool false)))) zNext)
  (zIf (kAnd (kB (kBin gNeA (gVar 9) (kData (kLst kNil)))) (kB (kBin gNeA (kData (kCallD d_law_word (kCons (kC (.int 0)) (kCons (gVar 4) (kCons (gVar 9) (kCons (kData (kCall gSortedC (kL (kBin gAdd (gVar 9) (gVar 10))))) kNil)))))) (kTup (kCons (kC (.str "both")) (kCons (kIx (kQ (gVar 9)) (kC (.int 0))) kNil)))))) (zRet (kFr (kC (.bool false)))) zNext)))))
  (zSeq (zSet 11 (kC .none))
  (zSeq (zFor (kQ (kData (kCallD d_law_lists (kCons (gVar 5) kNil)))) (sName 9) (zFor (kQ (kData (kCallD d_law_lists (kCons (gVar 5) kNil)))) (sName 10) (zIf (kAnd (kB (kBin gLt (gVar 5) (kC (.int 5)))) (kAnd (kB (kBin gIs (gVar 11) (kC .none))) (kAnd (kNot (kB (kData (kCallD d_law_meets (kCons (gVar 9) (kCons (gVar 10) kNil)))))) (kNot (kB (kData (kCallD d_law_packs (kCons (gVar 5) (kCons (kData (kCallD d_law_minor (kCons (gVar 6) (kCons (gVar 9) (kCons (gVar 10) kNil))))) kNil))))))))) (zSet 11 (kTup (kCons (gVar 9) (kCons (gVar 10) kNil)))) zNext)))
  (zSeq (zIf (kB (kBin gLt (gVar 5) (kC (.int 5)))) (zIf (kB (kBin gNeA (kData (kCall gRepr (kCons (kData (kCallD d_bad_minor (kCons (gVar 4) kNil))) kNil))) (kData (kCall gRepr (kCons (gVar 11) kNil))))) (zRet (kFr (kC (.bool false)))) zNext) (zIf (kB (kBin gEqA (gVar 5) (kC (.int 5)))) (zSeq (zSet 12 (kData (kCallD d_bad_minor (kCons (gVar 4) kNil))))
  (zIf (kOr (kAnd (kB (kBin gIs (gVar 12) (kC .none))) (kNot (kB (kData (kCallD d_law_packs (kCons (gVar 5) (kCons (gVar 6) kNil))))))) (kAnd (kB (kBin gIsNot (gVar 12) (kC .none))) (kB (kData (kCallD d_law_packs (kCons (gVar 5) (kCons (kData (kCallD d_law_minor (kCons (gVar 6) (kCons (kIx (kQ (gVar 12)) (kC (.int 0))) (kCons (kIx (kQ (gVar 12)) (kC (.int 1))) kNil))))) kNil))))))) (zRet (kFr (kC (.bool false)))) zNext)) (zIf (kB (kBin gNeA (kData (kCallD d_law_word (kCons (kC (.int 1)) (kCons (gVar 4) (kCons (kData (kLst kNil)) (kCons (kData (kLst kNil)) kNil)))))) (kTup (kCons (kC (.str "many")) (kCons (gVar 5) kNil))))) (zRet (kFr (kC (.bool false)))) zNext)))
  (zSeq (zSet 13 (kData (kCallD d_sides (kCons (gVar 4) kNil))))
  (zSeq (zSet 14 (kData (kComp (List.map (fun x => x.2) ([("told", 12)] : List (Str × Nat))) (kQ (kData (kCallD d_law_lists (kCons (gVar 5) kNil)))) (sName 12) (kB (kData (kCallD d_law_is_side (kCons (gVar 4) (kCons (gVar 12) kNil))))) (gVar 12))))
  (zSeq (zIf (kB (kBin gNeA (kBin gIs (gVar 13) (kC .none)) (kBin gEqA (gVar 14) (kData (kLst kNil))))) (zRet (kFr (kC (.bool false)))) zNext)
  (zSeq (zIf (kAnd (kB (kBin gIsNot (gVar 13) (kC .none))) (kOr (kB (kBin gNotIn (gVar 13) (gVar 14))) (kOr (kNot (kB (kData (kCallD d_law_packs (kCons (gVar 5) (kCons (gVar 6) kNil)))))) (kOr (kB (kBin gNotIn (kC (.int 0)) (gVar 13))) (kAnd (kB (kBin gLt (gVar 5) (kC (.int 6)))) (kB (kBin gIsNot (kData (kCallD d_bad_minor (kCons (gVar 4) kNil))) (kC .none)))))))) (zRet (kFr (kC (.bool false)))) zNext)
  (zIf (kOr (kB (kBin gNeA (kData (kCallD d_law_word (kCons (kC (.int 0)) (kCons (gVar 4) (kCons (kData (kLst (kCons (gVar 5) kNil))) (kCons (kData (kLst kNil)) kNil)))))) (kTup (kCons (kC (.str "set")) (kCons (kC (.int 0)) kNil))))) (kOr (kB (kBin gNeA (kData (kCallD d_law_word (kCons (kC (.int 0)) (kCons (gVar 4) (kCons (kData (kLst kNil)) (kCons (kData (kLst (kCons (kC (.int 0)) (kCons (kC (.int 0)) kNil)))) kNil)))))) (kTup (kCons (kC (.str "set")) (kCons (kC (.int 1)) kNil))))) (kB (kBin gNeA (kData (kCall gRepr (kCons (gVar 4) kNil))) (gVar 7))))) (zRet (kFr (kC (.bool false)))) zNext))))))))))))))
  (zRet (kFr (kC (.bool true)))))))) := (DSs.cons (DS.set (i := 1) sc.nd rfl (by first | exact .inl rfl | exact .inr rfl) (DR.de (DR.callSc G_law_draws (hr.mono (by decide)) (by rfl) (pv 0)))) (DSs.cons (DS.set (i := 2) sc.nd rfl (by first | exact .inl rfl | exact .inr rfl) (DR.de (DR.lst (DA.cons (DR.de (DR.call G_law_family (hr.mono (by decide)) (by rfl) (DA.cons (DE.var (pv 1)) (DA.cons DE.int (DA.cons DE.int DA.nil))))) (DA.cons (DR.de (DR.call G_law_pairs (hr.mono (by decide)) (by rfl) (DA.cons (DE.var (pv 1)) (DA.cons DE.int DA.nil)))) (DA.cons (DE.tup (DA.cons DE.int (DA.cons (DR.de (DR.lst (DA.cons (DR.de (DR.lst (DA.cons DE.int (DA.cons DE.int DA.nil)))) (DA.cons (DR.de (DR.lst (DA.cons DE.int (DA.cons DE.int DA.nil)))) (DA.cons (DR.de (DR.lst (DA.cons DE.int (DA.cons DE.int DA.nil)))) DA.nil))))) DA.nil))) DA.nil)))))) (DSs.cons (DS.for_ PassesOwn.never rfl (DIF.range1 (by rfl) M.n_range (DA.cons DE.int DA.nil)) (gN 3 sc.nd) (Frz.name 3) (DSs.cons (DS.set (i := 4) sc.nd rfl (by first | exact .inl rfl | exact .inr rfl) (DE.ix (DE.q (DE.var (pv 2))) (DE.var (pv 3)))) (DSs.cons (DS.asg (DE.var (pv 4)) (DG.tup rfl (DGs.cons (gN 5 sc.nd) (DGs.cons (gN 6 sc.nd) DGs.nil))) (Frz.tup (Frzs.cons (Frz.name 5) (Frzs.cons (Frz.name 6) Frzs.nil)))) (DSs.cons (DS.set (i := 7) sc.nd rfl (by first | exact .inl rfl | exact .inr rfl) (DR.de (DR.callB (cr_repr hg hu) cd_repr (by rfl) M.n_repr boot_repr_ (DA.cons (DE.var (pv 4)) DA.nil)))) (DSs.cons (DS.ifS (DT.cmp (cNeA hu) od_neA (DR.de (DR.callB (cr_repr hg hu) cd_repr (by rfl) M.n_repr boot_repr_ (DA.cons (DR.de (DR.call G_packs (hr.mono (by decide)) (by rfl) (DA.cons (DE.var (pv 4)) DA.nil))) DA.nil))) (DR.de (DR.callB (cr_repr hg hu) cd_repr (by rfl) M.n_repr boot_repr_ (DA.cons (DR.de (DR.call G_law_packs (hr.mono (by decide)) (by rfl) (DA.cons (DE.var (pv 5)) (DA.cons (DE.var (pv 6)) DA.nil)))) DA.nil)))) (DSs.one (DS.ret (DE.dr DE.bl))) DSs.nil) (DSs.cons (DS.for_ PassesOwn.never rfl (DIF.range1 (by rfl) M.n_range (DA.cons DE.int DA.nil)) (gN 8 sc.nd) (Frz.name 8) (DSs.cons (DS.set (i := 9) sc.nd rfl (by first | exact .inl rfl | exact .inr rfl) (DR.de (DR.lc rfl sc.nd (DIF.c (DIF.range1 (by rfl) M.n_range (DA.cons (DE.var (pv 5)) DA.nil))) (blkOk_by (N := N_law) (sc := (defScope s_law)) (own := [("v", 15)]) (by decide +kernel)) (fun _ _ _ _ _ => (gN 15 sc.nd)) (fun _ _ _ _ _ => (DTs.one (DT.cmp (cEqA hu) od_eqA (DR.de (DR.call G_law_mix (hr.mono (by decide)) (by rfl) (DA.cons (DE.var (pv 1)) (DA.cons (eAdd (eAdd (eAdd DE.int (eMul DE.int (DE.var (pv 3)))) (eMul DE.int (DE.var (pv 8)))) (DE.var (pv 15))) (DA.cons DE.int DA.nil))))) DE.int))) (fun _ _ _ _ _ => (DE.var (pv 15)))))) (DSs.cons (DS.setLcE (i := 10) rfl sc.nd rfl rfl (sw_true rfl rfl rfl (by decide +kernel)) (DIF.c (DIF.range1 (by rfl) M.n_range (DA.cons (DE.var (pv 5)) DA.nil))) (blkOk_by (N := N_law) (sc := (defScope s_law)) (own := [("v", 15)]) (by decide +kernel)) (fun _ _ _ _ _ => (gN 15 sc.nd)) (fun _ _ _ _ _ => (DTs.one (DW.t (DW.and (DT.cmp (op_notInD hu) od_notIn (DE.var (pv 15)) (DE.var (pv 9))) (DW.and1 (DT.cmp (cEqA hu) od_eqA (DR.de (DR.call G_law_mix (hr.mono (by decide)) (by rfl) (DA.cons (DE.var (pv 1)) (DA.cons (eAdd (eAdd (eAdd DE.int (eMul DE.int (DE.var (pv 3)))) (eMul DE.int (DE.var (pv 8)))) (DE.var (pv 15))) (DA.cons DE.int DA.nil))))) DE.int)))))) (fun _ _ _ _ _ => (DE.var (pv 15)))) (DSs.cons (DS.ifS (DT.cmp (cNeA hu) od_neA (DR.de (DR.callB (cr_repr hg hu) cd_repr (by rfl) M.n_repr boot_repr_ (DA.cons (DR.de (DR.callR G_minor (hr.mono (by decide)) (by rfl) (DA.cons (DE.var (pv 4)) (DA.cons (DE.var (pv 9)) (DA.cons (DE.var (pv 10)) DA.nil))))) DA.nil))) (DR.de (DR.callB (cr_repr hg hu) cd_repr (by rfl) M.n_repr boot_repr_ (DA.cons (DR.de (DR.call G_law_minor (hr.mono (by decide)) (by rfl) (DA.cons (DE.var (pv 6)) (DA.cons (DE.var (pv 9)) (DA.cons (DE.var (pv 10)) DA.nil))))) DA.nil)))) (DSs.one (DS.ret (DE.dr DE.bl))) DSs.nil) (DSs.one (DS.ifS (DW.t (DW.and (DT.cmp (cNeA hu) od_neA (DE.var (pv 9)) (DR.de (DR.lst DA.nil))) (DW.and1 (DT.cmp (cNeA hu) od_neA (DR.de (DR.call G_law_word (hr.mono (by decide)) (by rfl) (DA.cons DE.int (DA.cons (DE.var (pv 4)) (DA.cons (DE.var (pv 9)) (DA.cons (DR.de (DR.callBL (cr_sortedD hu) cl_sortedC (by rfl) M.n_sorted boot_sorted_ (DE.ls (eAdd (DE.var (pv 9)) (DE.var (pv 10)))))) DA.nil)))))) (DE.tup (DA.cons DE.str (DA.cons (DE.ix (DE.q (DE.var (pv 9))) DE.int) DA.nil))))))) (DSs.one (DS.ret (DE.dr DE.bl))) DSs.nil)))))) (DSs.cons (DS.set (i := 11) sc.nd rfl (by first | exact .inl rfl | exact .inr rfl) DE.non) (DSs.cons (DS.for_ PassesOwn.never rfl (DIF.seq (DR.de (DR.call G_law_lists (hr.mono (by decide)) (by rfl) (DA.cons (DE.var (pv 5)) DA.nil)))) (gN 9 sc.nd) (Frz.name 9) (DSs.one (DS.for_ PassesOwn.never rfl (DIF.seq (DR.de (DR.call G_law_lists (hr.mono (by decide)) (by rfl) (DA.cons (DE.var (pv 5)) DA.nil)))) (gN 10 sc.nd) (Frz.name 10) (DSs.one (DS.ifS (DW.t (DW.and (DT.cmp op_lt od_lt (DE.var (pv 5)) DE.int) (DW.and (DT.cmp op_isD od_is (DE.var (pv 11)) DE.non) (DW.and (DT.not (DT.val (DR.de (DR.call G_law_meets (hr.mono (by decide)) (by rfl) (DA.cons (DE.var (pv 9)) (DA.cons (DE.var (pv 10)) DA.nil)))))) (DW.and1 (DT.not (DT.val (DR.de (DR.call G_law_packs (hr.mono (by decide)) (by rfl) (DA.cons (DE.var (pv 5)) (DA.cons (DR.de (DR.call G_law_minor (hr.mono (by decide)) (by rfl) (DA.cons (DE.var (pv 6)) (DA.cons (DE.var (pv 9)) (DA.cons (DE.var (pv 10)) DA.nil))))) DA.nil))))))))))) (DSs.one (DS.set (i := 11) sc.nd rfl (by first | exact .inl rfl | exact .inr rfl) (DE.tup (DA.cons (DE.var (pv 9)) (DA.cons (DE.var (pv 10)) DA.nil))))) DSs.nil))))) (DSs.cons (DS.ifS (DT.cmp op_lt od_lt (DE.var (pv 5)) DE.int) (DSs.one (DS.ifS (DT.cmp (cNeA hu) od_neA (DR.de (DR.callB (cr_repr hg hu) cd_repr (by rfl) M.n_repr boot_repr_ (DA.cons (DR.de (DR.callR G_bad_minor (hr.mono (by decide)) (by rfl) (DA.cons (DE.var (pv 4)) DA.nil))) DA.nil))) (DR.de (DR.callB (cr_repr hg hu) cd_repr (by rfl) M.n_repr boot_repr_ (DA.cons (DE.var (pv 11)) DA.nil)))) (DSs.one (DS.ret (DE.dr DE.bl))) DSs.nil)) (DSs.one (DS.ifS (DT.cmp (cEqA hu) od_eqA (DE.var (pv 5)) DE.int) (DSs.cons (DS.set (i := 12) sc.nd rfl (by first | exact .inl rfl | exact .inr rfl) (DR.de (DR.callR G_bad_minor (hr.mono (by decide)) (by rfl) (DA.cons (DE.var (pv 4)) DA.nil)))) (DSs.one (DS.ifS (DW.t (DW.or (DW.t (DW.and (DT.cmp op_isD od_is (DE.var (pv 12)) DE.non) (DW.and1 (DT.not (DT.val (DR.de (DR.call G_law_packs (hr.mono (by decide)) (by rfl) (DA.cons (DE.var (pv 5)) (DA.cons (DE.var (pv 6)) DA.nil))))))))) (DW.or1 (DW.t (DW.and (DT.cmp op_isNotD od_isNot (DE.var (pv 12)) DE.non) (DW.and1 (DT.val (DR.de (DR.call G_law_packs (hr.mono (by decide)) (by rfl) (DA.cons (DE.var (pv 5)) (DA.cons (DR.de (DR.call G_law_minor (hr.mono (by decide)) (by rfl) (DA.cons (DE.var (pv 6)) (DA.cons (DE.ix (DE.q (DE.var (pv 12))) DE.int) (DA.cons (DE.ix (DE.q (DE.var (pv 12))) DE.int) DA.nil))))) DA.nil))))))))))) (DSs.one (DS.ret (DE.dr DE.bl))) DSs.nil))) (DSs.one (DS.ifS (DT.cmp (cNeA hu) od_neA (DR.de (DR.call G_law_word (hr.mono (by decide)) (by rfl) (DA.cons DE.int (DA.cons (DE.var (pv 4)) (DA.cons (DR.de (DR.lst DA.nil)) (DA.cons (DR.de (DR.lst DA.nil)) DA.nil)))))) (DE.tup (DA.cons DE.str (DA.cons (DE.var (pv 5)) DA.nil)))) (DSs.one (DS.ret (DE.dr DE.bl))) DSs.nil))))) (DSs.cons (DS.set (i := 13) sc.nd rfl (by first | exact .inl rfl | exact .inr rfl) (DR.de (DR.call G_sides (hr.mono (by decide)) (by rfl) (DA.cons (DE.var (pv 4)) DA.nil)))) (DSs.cons (DS.setLcE (i := 14) rfl sc.nd rfl rfl (sw_true rfl rfl rfl (by decide +kernel)) (DIC.seq (DE.q (DR.de (DR.call G_law_lists (hr.mono (by decide)) (by rfl) (DA.cons (DE.var (pv 5)) DA.nil))))) (blkOk_by (N := N_law) (sc := (defScope s_law)) (own := [("told", 12)]) (by decide +kernel)) (fun _ _ _ _ _ => (gN 12 sc.nd)) (fun _ _ _ _ _ => (DTs.one (DT.val (DR.de (DR.call G_law_is_side (hr.mono (by decide)) (by rfl) (DA.cons (DE.var (pv 4)) (DA.cons (DE.var (pv 12)) DA.nil))))))) (fun _ _ _ _ _ => (DE.var (pv 12)))) (DSs.cons (DS.ifS (DT.cmp (cNeA hu) od_neA (DE.cmp op_isD od_is (DE.var (pv 13)) DE.non) (DE.cmp (cEqA hu) od_eqA (DE.var (pv 14)) (DR.de (DR.lst DA.nil)))) (DSs.one (DS.ret (DE.dr DE.bl))) DSs.nil) (DSs.cons (DS.ifS (DW.t (DW.and (DT.cmp op_isNotD od_isNot (DE.var (pv 13)) DE.non) (DW.and1 (DW.t (DW.or (DT.cmp (op_notInD hu) od_notIn (DE.var (pv 13)) (DE.var (pv 14))) (DW.or (DT.not (DT.val (DR.de (DR.call G_law_packs (hr.mono (by decide)) (by rfl) (DA.cons (DE.var (pv 5)) (DA.cons (DE.var (pv 6)) DA.nil)))))) (DW.or (DT.cmp (op_notInD hu) od_notIn DE.int (DE.var (pv 13))) (DW.or1 (DW.t (DW.and (DT.cmp op_lt od_lt (DE.var (pv 5)) DE.int) (DW.and1 (DT.cmp op_isNotD od_isNot (DR.de (DR.callR G_bad_minor (hr.mono (by decide)) (by rfl) (DA.cons (DE.var (pv 4)) DA.nil))) DE.non)))))))))))) (DSs.one (DS.ret (DE.dr DE.bl))) DSs.nil) (DSs.one (DS.ifS (DW.t (DW.or (DT.cmp (cNeA hu) od_neA (DR.de (DR.call G_law_word (hr.mono (by decide)) (by rfl) (DA.cons DE.int (DA.cons (DE.var (pv 4)) (DA.cons (DR.de (DR.lst (DA.cons (DE.var (pv 5)) DA.nil))) (DA.cons (DR.de (DR.lst DA.nil)) DA.nil)))))) (DE.tup (DA.cons DE.str (DA.cons DE.int DA.nil)))) (DW.or (DT.cmp (cNeA hu) od_neA (DR.de (DR.call G_law_word (hr.mono (by decide)) (by rfl) (DA.cons DE.int (DA.cons (DE.var (pv 4)) (DA.cons (DR.de (DR.lst DA.nil)) (DA.cons (DR.de (DR.lst (DA.cons DE.int (DA.cons DE.int DA.nil)))) DA.nil)))))) (DE.tup (DA.cons DE.str (DA.cons DE.int DA.nil)))) (DW.or1 (DT.cmp (cNeA hu) od_neA (DR.de (DR.callB (cr_repr hg hu) cd_repr (by rfl) M.n_repr boot_repr_ (DA.cons (DE.var (pv 4)) DA.nil))) (DE.var (pv 7))))))) (DSs.one (DS.ret (DE.dr DE.bl))) DSs.nil))))))))))))))) (DSs.one (DS.ret (DE.dr DE.bl))))))
      exact z)
end
end K79

set_option Elab.async false
set_option linter.all false
set_option maxRecDepth 100000
set_option maxHeartbeats 0
namespace K79
open PySem PySem.Spec PyProof.Rows L2 DL
/-! ### the head -/
def h_is_ascending : He.DefD := ⟨("is_ascending", none), "is_ascending", "is_ascending", defArgs s_is_ascending, defBody s_is_ascending, defScope s_is_ascending, [], []⟩
def h_check_family : He.DefD := ⟨("check_family", none), "check_family", "check_family", defArgs s_check_family, defBody s_check_family, defScope s_check_family, [], []⟩
def h_apart : He.DefD := ⟨("apart", none), "apart", "apart", defArgs s_apart, defBody s_apart, defScope s_apart, [], []⟩
def h_choices : He.DefD := ⟨("choices", none), "choices", "choices", defArgs s_choices, defBody s_choices, defScope s_choices, [], []⟩
def h_packings_of : He.DefD := ⟨("packings_of", none), "packings_of", "packings_of", defArgs s_packings_of, defBody s_packings_of, defScope s_packings_of, [], []⟩
def h_covers_of : He.DefD := ⟨("covers_of", none), "covers_of", "covers_of", defArgs s_covers_of, defBody s_covers_of, defScope s_covers_of, [], []⟩
def h_check_lists : He.DefD := ⟨("check_lists", none), "check_lists", "check_lists", defArgs s_check_lists, defBody s_check_lists, defScope s_check_lists, [], []⟩
def h_minor_of : He.DefD := ⟨("minor_of", none), "minor_of", "minor_of", defArgs s_minor_of, defBody s_minor_of, defScope s_minor_of, [], []⟩
def h_minor : He.DefD := ⟨("minor", none), "minor", "minor", defArgs s_minor, defBody s_minor, defScope s_minor, [], []⟩
def h_are_packed : He.DefD := ⟨("are_packed", none), "are_packed", "are_packed", defArgs s_are_packed, defBody s_are_packed, defScope s_are_packed, [], []⟩
def h_packs : He.DefD := ⟨("packs", none), "packs", "packs", defArgs s_packs, defBody s_packs, defScope s_packs, [], []⟩
def h_bad_minor : He.DefD := ⟨("bad_minor", none), "bad_minor", "bad_minor", defArgs s_bad_minor, defBody s_bad_minor, defScope s_bad_minor, [], []⟩
def h_sides : He.DefD := ⟨("sides", none), "sides", "sides", defArgs s_sides, defBody s_sides, defScope s_sides, [], []⟩
def h_law_draws : He.DefD := ⟨("_law_draws", none), "_law_draws", "_law_draws", defArgs s_law_draws, defBody s_law_draws, defScope s_law_draws, [], []⟩
def h_law_mix : He.DefD := ⟨("_law_mix", none), "_law_mix", "_law_mix", defArgs s_law_mix, defBody s_law_mix, defScope s_law_mix, [], []⟩
def h_law_family : He.DefD := ⟨("_law_family", none), "_law_family", "_law_family", defArgs s_law_family, defBody s_law_family, defScope s_law_family, [], []⟩
def h_law_lists : He.DefD := ⟨("_law_lists", none), "_law_lists", "_law_lists", defArgs s_law_lists, defBody s_law_lists, defScope s_law_lists, [], []⟩
def h_law_meets : He.DefD := ⟨("_law_meets", none), "_law_meets", "_law_meets", defArgs s_law_meets, defBody s_law_meets, defScope s_law_meets, [], []⟩
def h_law_is_packing : He.DefD := ⟨("_law_is_packing", none), "_law_is_packing", "_law_is_packing", defArgs s_law_is_packing, defBody s_law_is_packing, defScope s_law_is_packing, [], []⟩
def h_law_packings : He.DefD := ⟨("_law_packings", none), "_law_packings", "_law_packings", defArgs s_law_packings, defBody s_law_packings, defScope s_law_packings, [], []⟩
def h_law_covers : He.DefD := ⟨("_law_covers", none), "_law_covers", "_law_covers", defArgs s_law_covers, defBody s_law_covers, defScope s_law_covers, [], []⟩
def h_law_minor : He.DefD := ⟨("_law_minor", none), "_law_minor", "_law_minor", defArgs s_law_minor, defBody s_law_minor, defScope s_law_minor, [], []⟩
def h_law_packs : He.DefD := ⟨("_law_packs", none), "_law_packs", "_law_packs", defArgs s_law_packs, defBody s_law_packs, defScope s_law_packs, [], []⟩
def h_law_word : He.DefD := ⟨("_law_word", none), "_law_word", "_law_word", defArgs s_law_word, defBody s_law_word, defScope s_law_word, [], []⟩
def h_law_pairs : He.DefD := ⟨("_law_pairs", none), "_law_pairs", "_law_pairs", defArgs s_law_pairs, defBody s_law_pairs, defScope s_law_pairs, [], []⟩
def h_law_is_side : He.DefD := ⟨("_law_is_side", none), "_law_is_side", "_law_is_side", defArgs s_law_is_side, defBody s_law_is_side, defScope s_law_is_side, [], []⟩
def h_law : He.DefD := ⟨("law", none), "law", "law", defArgs s_law, defBody s_law, defScope s_law, [], []⟩
def fn : List He.DefD := [h_is_ascending, h_check_family, h_apart, h_choices, h_packings_of, h_covers_of, h_check_lists, h_minor_of, h_minor, h_are_packed, h_packs, h_bad_minor, h_sides, h_law_draws, h_law_mix, h_law_family, h_law_lists, h_law_meets, h_law_is_packing, h_law_packings, h_law_covers, h_law_minor, h_law_packs, h_law_word, h_law_pairs, h_law_is_side, h_law]
def fa : List He.Fa := [.glo "is_ascending", .glo "check_family", .glo "apart", .glo "choices", .glo "packings_of", .glo "covers_of", .glo "check_lists", .glo "minor_of", .glo "minor", .glo "are_packed", .glo "packs", .glo "bad_minor", .glo "sides", .glo "_law_draws", .glo "_law_mix", .glo "_law_family", .glo "_law_lists", .glo "_law_meets", .glo "_law_is_packing", .glo "_law_packings", .glo "_law_covers", .glo "_law_minor", .glo "_law_packs", .glo "_law_word", .glo "_law_pairs", .glo "_law_is_side", .glo "law", .int "MOST_MINORS" 5, .int "MOST_SETS" 10, .int "MOST_THINGS" 7, .free "abs", .free "all", .free "any", .free "enumerate", .free "int", .free "len", .free "list", .free "max", .free "min", .free "range", .free "repr", .free "sorted", .free "super", .free "tuple", .free "zip"]
abbrev R : PySem.W.OpenRow := PySem.W.OpenLaw.row PySem.Challenge.rw_wholebest_k79_whole_minors_and_two_sided
abbrev s_init : Stmt := clsIni (top 1)
def fileX : Str := R.prog.main.file
def ex (K : PySem.W.Frag) : Bool := (initB "WholeError" fileX K && clsB "WholeError" cX K)
def ivv : InV := (some (("__init__" : Str), ("WholeError.__init__" : Str), defArgs s_init, FuncBody.stmts (defBody s_init), defScope s_init, mainGlobals, builtinsNs) : InV)
abbrev hk : PySem.W.Hook := hookX 5 fa fn ex (initV "WholeError") ivv
def ob (s : PySem.W.SharedT) : AlX := obsXG 5 fa fn ex (initV "WholeError") (HandSHeadRun.getT s)
theorem ob_eq (s : PySem.W.SharedT) : ob s = hk.obs s.abs := obsXG_eq (HandSHeadRun.getT_eq s)
def loo : List Str := (["WholeError", "OutOfRange", "TooMany", "NotASet", "BadSet", "Overlap", "MOST_THINGS", "MOST_SETS"] : List Str) ++ (["is_ascending", "check_family", "apart", "choices", "packings_of", "covers_of", "MOST_MINORS", "check_lists"] : List Str) ++ (["minor_of", "minor", "are_packed", "packs", "bad_minor", "sides", "_law_draws", "_law_mix"] : List Str) ++ (["_law_family", "_law_lists", "_law_meets", "_law_is_packing", "_law_packings", "_law_covers", "_law_minor", "_law_packs"] : List Str) ++ (["_law_word", "_law_pairs", "_law_is_side"] : List Str)
theorem run (w : World) : HandSHeadRun.RunEq R (PySem.W.view R.prog [39]) hk ob 40000 loo w := by
  intro os
  kernel_rfl
def isX : XIs := fun _ _ _ _ _ => False
theorem mg_of {K : PySem.W.Frag} {h : Heap} {mg : Str → Option Value} (X : K.In h) (G : h.Ns mainGlobals mg) (c : He.SaysD fa fn K) (cx : ex K = true) : Mg mg where
  c_MOST_MINORS := He.int_ok X G (c.fact 27 (f := .int "MOST_MINORS" 5) rfl)
  c_MOST_SETS := He.int_ok X G (c.fact 28 (f := .int "MOST_SETS" 10) rfl)
  c_MOST_THINGS := He.int_ok X G (c.fact 29 (f := .int "MOST_THINGS" 7) rfl)
  n_abs := He.free_ok X G (c.fact 30 (f := .free "abs") rfl)
  n_all := He.free_ok X G (c.fact 31 (f := .free "all") rfl)
  n_any := He.free_ok X G (c.fact 32 (f := .free "any") rfl)
  n_enumerate := He.free_ok X G (c.fact 33 (f := .free "enumerate") rfl)
  n_int := He.free_ok X G (c.fact 34 (f := .free "int") rfl)
  n_len := He.free_ok X G (c.fact 35 (f := .free "len") rfl)
  n_list := He.free_ok X G (c.fact 36 (f := .free "list") rfl)
  n_max := He.free_ok X G (c.fact 37 (f := .free "max") rfl)
  n_min := He.free_ok X G (c.fact 38 (f := .free "min") rfl)
  n_range := He.free_ok X G (c.fact 39 (f := .free "range") rfl)
  n_repr := He.free_ok X G (c.fact 40 (f := .free "repr") rfl)
  n_sorted := He.free_ok X G (c.fact 41 (f := .free "sorted") rfl)
  n_super := He.free_ok X G (c.fact 42 (f := .free "super") rfl)
  n_tuple := He.free_ok X G (c.fact 43 (f := .free "tuple") rfl)
  n_zip := He.free_ok X G (c.fact 44 (f := .free "zip") rfl)
theorem facts {P : Program} {w : World} {K : PySem.W.Frag} {h : Heap} {mg : Str → Option Value} {f : Addr} (X : K.In h) (G : h.Ns mainGlobals mg) (hfa : mg ("law" : Str) = some (.ref f)) (c : He.SaysD fa fn K) (cx : ex K = true) (cv : initV "WholeError" K = ivv) (hfile : (P.main.file : Str) = fileX) (htop : (P.main.scope.names.lookup ("super" : Str)).isSome = false)
    (plain : ∀ (K : PySem.W.Frag) (ns : List Int), ns.length ≤ 63 → (b_law K (Sl.sc K ns :: List.replicate 15 Sl.un)).bind flRes = some (.ok (.fr (.bool true)))) :
    ∀ base : Heap, K.In base → base.Ns mainGlobals mg → LawAt P w K mg base f 63 := by
  intro base hK hM
  have M := mg_of X G c cx
  obtain ⟨cB, cC⟩ := He.ba cx
  have MX : Mx K mg cX := mx_of X G cC
  obtain ⟨fdI, cc, cd, GI, hdf⟩ := init_of (P := P) cv cB hfile
  have FI : FnOk P w K mg base (L2.CX P w) 1 (He.ma K (He.ga K "WholeError") "__init__") fdI ["self", "at"] (XI.spInit K (He.ga K "WholeError")) := XI.init_ok (k := 0) GI (NdefX.nscope_by (by decide +kernel)) rfl rfl rfl htop (by decide +kernel) M.n_super (fun _ _ _ _ => ⟨_, rfl⟩) (fun _ _ _ _ => rfl) (fun _ _ _ _ => rfl) (fun _ _ _ _ => rfl)
  have BI : Binds K fdI ["self", "at"] [] := by
    obtain ⟨oc, od, dV, kV, doc, pm, ct, an, osl, rfl, lk⟩ := GI.lk
    obtain rfl : dV = .none := hdf
    exact .all fun us hl => match us, hl with | [_, _], _ => rfl
  have C_NotASet : XcD P w K mg base "NotASet" := xc_of X G cC (by decide) FI BI
  have C_Overlap : XcD P w K mg base "Overlap" := xc_of X G cC (by decide) FI BI
  have C_TooMany : XcD P w K mg base "TooMany" := xc_of X G cC (by decide) FI BI
  obtain ⟨fd_is_ascending, F_is_ascending⟩ := c.def_ 0 (d := h_is_ascending) rfl
  have B_is_ascending := FunD.bindsA (ps := p_is_ascending) F_is_ascending fun _ _ _ _ _ _ us hl => match us, hl with | [_, _], _ => rfl
  have G_is_ascending : FnD P w K mg base isX CX0 1 "is_ascending" p_is_ascending d_is_ascending := ⟨_, _, ok_is_ascending M  F_is_ascending, He.glo_ok X G (c.fact 0 (f := .glo "is_ascending") rfl), F_is_ascending.kp, fun s us _ hl => by rw [List.append_nil] at hl ⊢; exact B_is_ascending s us hl⟩
  obtain ⟨fd_check_family, F_check_family⟩ := c.def_ 1 (d := h_check_family) rfl
  have B_check_family := FunD.bindsA (ps := p_check_family) F_check_family fun _ _ _ _ _ _ us hl => match us, hl with | [_], _ => rfl
  have G_check_family : FnD P w K mg base isX CX0 2 "check_family" p_check_family d_check_family := ⟨_, _, ok_check_family M G_is_ascending F_check_family, He.glo_ok X G (c.fact 1 (f := .glo "check_family") rfl), F_check_family.kp, fun s us _ hl => by rw [List.append_nil] at hl ⊢; exact B_check_family s us hl⟩
  obtain ⟨fd_apart, F_apart⟩ := c.def_ 2 (d := h_apart) rfl
  have B_apart := FunD.bindsA (ps := p_apart) F_apart fun _ _ _ _ _ _ us hl => match us, hl with | [_, _], _ => rfl
  have G_apart : FnD P w K mg base isX CX0 1 "apart" p_apart d_apart := ⟨_, _, ok_apart M  F_apart, He.glo_ok X G (c.fact 2 (f := .glo "apart") rfl), F_apart.kp, fun s us _ hl => by rw [List.append_nil] at hl ⊢; exact B_apart s us hl⟩
  obtain ⟨fd_choices, F_choices⟩ := c.def_ 3 (d := h_choices) rfl
  have B_choices := FunD.bindsA (ps := p_choices) F_choices fun _ _ _ _ _ _ us hl => match us, hl with | [_], _ => rfl
  have G_choices : FnD P w K mg base isX CX0 1 "choices" p_choices d_choices := ⟨_, _, ok_choices M  F_choices, He.glo_ok X G (c.fact 3 (f := .glo "choices") rfl), F_choices.kp, fun s us _ hl => by rw [List.append_nil] at hl ⊢; exact B_choices s us hl⟩
  obtain ⟨fd_packings_of, F_packings_of⟩ := c.def_ 4 (d := h_packings_of) rfl
  have B_packings_of := FunD.bindsA (ps := p_packings_of) F_packings_of fun _ _ _ _ _ _ us hl => match us, hl with | [_], _ => rfl
  have G_packings_of : FnD P w K mg base isX CX0 2 "packings_of" p_packings_of d_packings_of := ⟨_, _, ok_packings_of M G_apart F_packings_of, He.glo_ok X G (c.fact 4 (f := .glo "packings_of") rfl), F_packings_of.kp, fun s us _ hl => by rw [List.append_nil] at hl ⊢; exact B_packings_of s us hl⟩
  obtain ⟨fd_covers_of, F_covers_of⟩ := c.def_ 5 (d := h_covers_of) rfl
  have B_covers_of := FunD.bindsA (ps := p_covers_of) F_covers_of fun _ _ _ _ _ _ us hl => match us, hl with | [_, _], _ => rfl
  have G_covers_of : FnD P w K mg base isX CX0 2 "covers_of" p_covers_of d_covers_of := ⟨_, _, ok_covers_of M G_apart G_choices F_covers_of, He.glo_ok X G (c.fact 5 (f := .glo "covers_of") rfl), F_covers_of.kp, fun s us _ hl => by rw [List.append_nil] at hl ⊢; exact B_covers_of s us hl⟩
  obtain ⟨fd_check_lists, F_check_lists⟩ := c.def_ 6 (d := h_check_lists) rfl
  have B_check_lists := FunD.bindsA (ps := p_check_lists) F_check_lists fun _ _ _ _ _ _ us hl => match us, hl with | [_, _, _], _ => rfl
  have G_check_lists : FnD P w K mg base (isXK K) (L2.CX P w) 3 "check_lists" p_check_lists d_check_lists := ⟨_, _, ok_check_lists M C_NotASet C_Overlap G_check_family F_check_lists, He.glo_ok X G (c.fact 6 (f := .glo "check_lists") rfl), F_check_lists.kp, fun s us _ hl => by rw [List.append_nil] at hl ⊢; exact B_check_lists s us hl⟩
  obtain ⟨fd_minor_of, F_minor_of⟩ := c.def_ 7 (d := h_minor_of) rfl
  have B_minor_of := FunD.bindsA (ps := p_minor_of) F_minor_of fun _ _ _ _ _ _ us hl => match us, hl with | [_, _, _], _ => rfl
  have G_minor_of : FnD P w K mg base isX CX0 2 "minor_of" p_minor_of d_minor_of := ⟨_, _, ok_minor_of M G_apart F_minor_of, He.glo_ok X G (c.fact 7 (f := .glo "minor_of") rfl), F_minor_of.kp, fun s us _ hl => by rw [List.append_nil] at hl ⊢; exact B_minor_of s us hl⟩
  obtain ⟨fd_minor, F_minor⟩ := c.def_ 8 (d := h_minor) rfl
  have B_minor := FunD.bindsA (ps := p_minor) F_minor fun _ _ _ _ _ _ us hl => match us, hl with | [_, _, _], _ => rfl
  have G_minor : FnD P w K mg base (isXK K) (L2.CX P w) 4 "minor" p_minor d_minor := ⟨_, _, ok_minor M G_check_lists G_minor_of F_minor, He.glo_ok X G (c.fact 8 (f := .glo "minor") rfl), F_minor.kp, fun s us _ hl => by rw [List.append_nil] at hl ⊢; exact B_minor s us hl⟩
  obtain ⟨fd_are_packed, F_are_packed⟩ := c.def_ 9 (d := h_are_packed) rfl
  have B_are_packed := FunD.bindsA (ps := p_are_packed) F_are_packed fun _ _ _ _ _ _ us hl => match us, hl with | [_, _], _ => rfl
  have G_are_packed : FnD P w K mg base isX CX0 3 "are_packed" p_are_packed d_are_packed := ⟨_, _, ok_are_packed M G_covers_of G_packings_of F_are_packed, He.glo_ok X G (c.fact 9 (f := .glo "are_packed") rfl), F_are_packed.kp, fun s us _ hl => by rw [List.append_nil] at hl ⊢; exact B_are_packed s us hl⟩
  obtain ⟨fd_packs, F_packs⟩ := c.def_ 10 (d := h_packs) rfl
  have B_packs := FunD.bindsA (ps := p_packs) F_packs fun _ _ _ _ _ _ us hl => match us, hl with | [_], _ => rfl
  have G_packs : FnD P w K mg base isX CX0 4 "packs" p_packs d_packs := ⟨_, _, ok_packs M G_are_packed G_check_family F_packs, He.glo_ok X G (c.fact 10 (f := .glo "packs") rfl), F_packs.kp, fun s us _ hl => by rw [List.append_nil] at hl ⊢; exact B_packs s us hl⟩
  obtain ⟨fd_bad_minor, F_bad_minor⟩ := c.def_ 11 (d := h_bad_minor) rfl
  have B_bad_minor := FunD.bindsA (ps := p_bad_minor) F_bad_minor fun _ _ _ _ _ _ us hl => match us, hl with | [_], _ => rfl
  have G_bad_minor : FnD P w K mg base (isXK K) (L2.CX P w) 4 "bad_minor" p_bad_minor d_bad_minor := ⟨_, _, ok_bad_minor M C_TooMany G_apart G_are_packed G_check_family G_choices G_minor_of F_bad_minor, He.glo_ok X G (c.fact 11 (f := .glo "bad_minor") rfl), F_bad_minor.kp, fun s us _ hl => by rw [List.append_nil] at hl ⊢; exact B_bad_minor s us hl⟩
  obtain ⟨fd_sides, F_sides⟩ := c.def_ 12 (d := h_sides) rfl
  have B_sides := FunD.bindsA (ps := p_sides) F_sides fun _ _ _ _ _ _ us hl => match us, hl with | [_], _ => rfl
  have G_sides : FnD P w K mg base isX CX0 3 "sides" p_sides d_sides := ⟨_, _, ok_sides M G_check_family F_sides, He.glo_ok X G (c.fact 12 (f := .glo "sides") rfl), F_sides.kp, fun s us _ hl => by rw [List.append_nil] at hl ⊢; exact B_sides s us hl⟩
  obtain ⟨fd_law_draws, F_law_draws⟩ := c.def_ 13 (d := h_law_draws) rfl
  have B_law_draws := FunD.bindsA (ps := p_law_draws) F_law_draws fun _ _ _ _ _ _ us hl => match us, hl with | [_], _ => rfl
  have G_law_draws : FnS P w K mg base isX CX0 1 "_law_draws" p_law_draws (d_law_draws K) := ⟨_, _, ok_law_draws M  F_law_draws, He.glo_ok X G (c.fact 13 (f := .glo "_law_draws") rfl), F_law_draws.kp, fun s us _ hl => by rw [List.append_nil] at hl ⊢; exact B_law_draws s us hl⟩
  obtain ⟨fd_law_mix, F_law_mix⟩ := c.def_ 14 (d := h_law_mix) rfl
  have B_law_mix := FunD.bindsA (ps := p_law_mix) F_law_mix fun _ _ _ _ _ _ us hl => match us, hl with | [_, _, _], _ => rfl
  have G_law_mix : FnD P w K mg base isX CX0 1 "_law_mix" p_law_mix d_law_mix := ⟨_, _, ok_law_mix M  F_law_mix, He.glo_ok X G (c.fact 14 (f := .glo "_law_mix") rfl), F_law_mix.kp, fun s us _ hl => by rw [List.append_nil] at hl ⊢; exact B_law_mix s us hl⟩
  obtain ⟨fd_law_family, F_law_family⟩ := c.def_ 15 (d := h_law_family) rfl
  have B_law_family := FunD.bindsA (ps := p_law_family) F_law_family fun _ _ _ _ _ _ us hl => match us, hl with | [_, _, _], _ => rfl
  have G_law_family : FnD P w K mg base isX CX0 2 "_law_family" p_law_family d_law_family := ⟨_, _, ok_law_family M G_law_mix F_law_family, He.glo_ok X G (c.fact 15 (f := .glo "_law_family") rfl), F_law_family.kp, fun s us _ hl => by rw [List.append_nil] at hl ⊢; exact B_law_family s us hl⟩
  obtain ⟨fd_law_lists, F_law_lists⟩ := c.def_ 16 (d := h_law_lists) rfl
  have B_law_lists := FunD.bindsA (ps := p_law_lists) F_law_lists fun _ _ _ _ _ _ us hl => match us, hl with | [_], _ => rfl
  have G_law_lists : FnD P w K mg base isX CX0 1 "_law_lists" p_law_lists d_law_lists := ⟨_, _, ok_law_lists M  F_law_lists, He.glo_ok X G (c.fact 16 (f := .glo "_law_lists") rfl), F_law_lists.kp, fun s us _ hl => by rw [List.append_nil] at hl ⊢; exact B_law_lists s us hl⟩
  obtain ⟨fd_law_meets, F_law_meets⟩ := c.def_ 17 (d := h_law_meets) rfl
  have B_law_meets := FunD.bindsA (ps := p_law_meets) F_law_meets fun _ _ _ _ _ _ us hl => match us, hl with | [_, _], _ => rfl
  have G_law_meets : FnD P w K mg base isX CX0 1 "_law_meets" p_law_meets d_law_meets := ⟨_, _, ok_law_meets M  F_law_meets, He.glo_ok X G (c.fact 17 (f := .glo "_law_meets") rfl), F_law_meets.kp, fun s us _ hl => by rw [List.append_nil] at hl ⊢; exact B_law_meets s us hl⟩
  obtain ⟨fd_law_is_packing, F_law_is_packing⟩ := c.def_ 18 (d := h_law_is_packing) rfl
  have B_law_is_packing := FunD.bindsA (ps := p_law_is_packing) F_law_is_packing fun _ _ _ _ _ _ us hl => match us, hl with | [_, _], _ => rfl
  have G_law_is_packing : FnD P w K mg base isX CX0 2 "_law_is_packing" p_law_is_packing d_law_is_packing := ⟨_, _, ok_law_is_packing M G_law_meets F_law_is_packing, He.glo_ok X G (c.fact 18 (f := .glo "_law_is_packing") rfl), F_law_is_packing.kp, fun s us _ hl => by rw [List.append_nil] at hl ⊢; exact B_law_is_packing s us hl⟩
  obtain ⟨fd_law_packings, F_law_packings⟩ := c.def_ 19 (d := h_law_packings) rfl
  have B_law_packings := FunD.bindsA (ps := p_law_packings) F_law_packings fun _ _ _ _ _ _ us hl => match us, hl with | [_], _ => rfl
  have G_law_packings : FnD P w K mg base isX CX0 3 "_law_packings" p_law_packings d_law_packings := ⟨_, _, ok_law_packings M G_law_is_packing G_law_lists F_law_packings, He.glo_ok X G (c.fact 19 (f := .glo "_law_packings") rfl), F_law_packings.kp, fun s us _ hl => by rw [List.append_nil] at hl ⊢; exact B_law_packings s us hl⟩
  obtain ⟨fd_law_covers, F_law_covers⟩ := c.def_ 20 (d := h_law_covers) rfl
  have B_law_covers := FunD.bindsA (ps := p_law_covers) F_law_covers fun _ _ _ _ _ _ us hl => match us, hl with | [_, _], _ => rfl
  have G_law_covers : FnD P w K mg base isX CX0 2 "_law_covers" p_law_covers d_law_covers := ⟨_, _, ok_law_covers M G_law_lists G_law_meets F_law_covers, He.glo_ok X G (c.fact 20 (f := .glo "_law_covers") rfl), F_law_covers.kp, fun s us _ hl => by rw [List.append_nil] at hl ⊢; exact B_law_covers s us hl⟩
  obtain ⟨fd_law_minor, F_law_minor⟩ := c.def_ 21 (d := h_law_minor) rfl
  have B_law_minor := FunD.bindsA (ps := p_law_minor) F_law_minor fun _ _ _ _ _ _ us hl => match us, hl with | [_, _, _], _ => rfl
  have G_law_minor : FnD P w K mg base isX CX0 2 "_law_minor" p_law_minor d_law_minor := ⟨_, _, ok_law_minor M G_law_meets F_law_minor, He.glo_ok X G (c.fact 21 (f := .glo "_law_minor") rfl), F_law_minor.kp, fun s us _ hl => by rw [List.append_nil] at hl ⊢; exact B_law_minor s us hl⟩
  obtain ⟨fd_law_packs, F_law_packs⟩ := c.def_ 22 (d := h_law_packs) rfl
  have B_law_packs := FunD.bindsA (ps := p_law_packs) F_law_packs fun _ _ _ _ _ _ us hl => match us, hl with | [_, _], _ => rfl
  have G_law_packs : FnD P w K mg base isX CX0 4 "_law_packs" p_law_packs d_law_packs := ⟨_, _, ok_law_packs M G_law_covers G_law_packings F_law_packs, He.glo_ok X G (c.fact 22 (f := .glo "_law_packs") rfl), F_law_packs.kp, fun s us _ hl => by rw [List.append_nil] at hl ⊢; exact B_law_packs s us hl⟩
  obtain ⟨fd_law_word, F_law_word⟩ := c.def_ 23 (d := h_law_word) rfl
  have B_law_word := FunD.bindsA (ps := p_law_word) F_law_word fun _ _ _ _ _ _ us hl => match us, hl with | [_, _, _, _], _ => rfl
  have G_law_word : FnD P w K mg base isX CX0 5 "_law_word" p_law_word d_law_word := ⟨_, _, ok_law_word M MX G_bad_minor G_minor F_law_word, He.glo_ok X G (c.fact 23 (f := .glo "_law_word") rfl), F_law_word.kp, fun s us _ hl => by rw [List.append_nil] at hl ⊢; exact B_law_word s us hl⟩
  obtain ⟨fd_law_pairs, F_law_pairs⟩ := c.def_ 24 (d := h_law_pairs) rfl
  have B_law_pairs := FunD.bindsA (ps := p_law_pairs) F_law_pairs fun _ _ _ _ _ _ us hl => match us, hl with | [_, _], _ => rfl
  have G_law_pairs : FnD P w K mg base isX CX0 2 "_law_pairs" p_law_pairs d_law_pairs := ⟨_, _, ok_law_pairs M G_law_mix F_law_pairs, He.glo_ok X G (c.fact 24 (f := .glo "_law_pairs") rfl), F_law_pairs.kp, fun s us _ hl => by rw [List.append_nil] at hl ⊢; exact B_law_pairs s us hl⟩
  obtain ⟨fd_law_is_side, F_law_is_side⟩ := c.def_ 25 (d := h_law_is_side) rfl
  have B_law_is_side := FunD.bindsA (ps := p_law_is_side) F_law_is_side fun _ _ _ _ _ _ us hl => match us, hl with | [_, _], _ => rfl
  have G_law_is_side : FnD P w K mg base isX CX0 1 "_law_is_side" p_law_is_side d_law_is_side := ⟨_, _, ok_law_is_side M  F_law_is_side, He.glo_ok X G (c.fact 25 (f := .glo "_law_is_side") rfl), F_law_is_side.kp, fun s us _ hl => by rw [List.append_nil] at hl ⊢; exact B_law_is_side s us hl⟩
  obtain ⟨fd_law, F_law⟩ := c.def_ 26 (d := h_law) rfl
  have B_law := FunD.bindsA (ps := p_law) F_law fun _ _ _ _ _ _ us hl => match us, hl with | [_], _ => rfl
  have e := hfa.symm.trans (He.glo_ok X G (c.fact 26 (f := .glo "law") rfl))
  cases e
  exact law_at (N := N_law) (kk := 5) (g := b_law K) F_law sc_law (fun s us _ hl => by rw [List.append_nil] at hl ⊢; exact B_law s us hl) ⟨rfl, by decide, by decide⟩ (plain K) fun wx cdv A outer s H E hg hr => bd_law M G_law_draws G_law_family G_law_is_side G_law_lists G_law_meets G_law_minor G_law_mix G_law_packs G_law_pairs G_law_word G_bad_minor G_minor G_packs G_sides wx _ cdv A outer s H E hg hr
end K79
section
open PySem PySem.W PySem.Calls PyProof.Rows
theorem K79_holds (plain : ∀ (K : PySem.W.Frag) (ns : List Int), ns.length ≤ 63 → (K79.b_law K (DL.Sl.sc K ns :: List.replicate 15 DL.Sl.un)).bind DL.flRes = some (.ok (.fr (.bool true)))) : PySem.Challenge.rw_wholebest_k79_whole_minors_and_two_sided.Holds := by
  w_on; o_law
  refine HandSHeadRun.head_any (r := OpenLaw.row PySem.Challenge.rw_wholebest_k79_whole_minors_and_two_sided) (q := view (OpenLaw.row PySem.Challenge.rw_wholebest_k79_whole_minors_and_two_sided).prog [39]) (H := K79.hk) (ob := K79.ob) (M := 40000) (loose := K79.loo) (d := HandSHeadRun.topDef (OpenLaw.row PySem.Challenge.rw_wholebest_k79_whole_minors_and_two_sided).prog 39) (kwd := []) K79.ob_eq
    (by kernel_rfl) (fun s => by kernel_rfl) K79.run (by kernel_rfl) (by kernel_rfl) (by kernel_rfl) (by rfl) (by first | assumption | decide +kernel) (by decide +kernel) ⟨rfl, rfl, rfl, rfl, rfl, by decide +kernel⟩ ?hw ?hc
  case hw => w_witness2
  case hc =>
    refine DL.walk_law (l := PySem.Challenge.rw_wholebest_k79_whole_minors_and_two_sided) (n := 63) rfl (by decide) (by kernel_rfl) ?F
    intro w mg fa h Y G hmg0
    obtain ⟨K, KX, c, cx, cv⟩ := Y
    have hmg : mg ("law" : PySem.Str) = some (.ref fa) := by
      have e : (HandSHeadRun.topDef (OpenLaw.row PySem.Challenge.rw_wholebest_k79_whole_minors_and_two_sided).prog 39).name = ("law" : PySem.Str) := by kernel_rfl
      rw [← e]
      exact hmg0
    exact ⟨K, KX, K79.facts KX G hmg c cx cv (by kernel_rfl) (by kernel_rfl) plain⟩
end

set_option Elab.async false
set_option linter.all false
set_option maxRecDepth 100000
set_option maxHeartbeats 2000000
namespace DL
open PySem PySem.Spec L2
abbrev iL (xs : List Int) : D := .list (xs.map PyData.int)
theorem bind_ok {α β : Type} {x : Option α} {a : α} (h : x = some a) (g : α → Option β) : x.bind g = g a := by rw [h]; rfl
theorem compGo_map {A : Type} (f : A → D) (g : D → Rho → Option Rho) (tt : Rho → Option Bool) (te : Rho → Option D) (ρ0 : Rho) (p : A → Bool) (y : A → D) : ∀ (L : List A),
    (∀ a ∈ L, ∃ ρ1, g (f a) ρ0 = some ρ1 ∧ tt ρ1 = some (p a) ∧ (p a = true → te ρ1 = some (y a))) → compGo g tt te ρ0 (L.map f) = some ((L.filter p).map y)
  | [], _ => rfl
  | a :: L, h => by
    obtain ⟨ρ1, h1, h2, h3⟩ := h a List.mem_cons_self
    have ih := compGo_map f g tt te ρ0 p y L fun b hb => h b (List.mem_cons_of_mem _ hb)
    show (g (f a) ρ0).bind _ = _
    rw [h1, Option.bind_some, h2, Option.bind_some]
    cases hp : p a with
    | true => rw [if_pos rfl, h3 hp, Option.bind_some, ih, Option.bind_some, List.filter_cons_of_pos hp]; rfl
    | false => rw [if_neg Bool.false_ne_true, ih, List.filter_cons_of_neg (by rw [hp]; exact Bool.false_ne_true)]
/-- all items, no test -/
theorem compGo_all {A : Type} (f : A → D) (g : D → Rho → Option Rho) (te : Rho → Option D) (ρ0 : Rho) (y : A → D) (L : List A) (h : ∀ a ∈ L, ∃ ρ1, g (f a) ρ0 = some ρ1 ∧ te ρ1 = some (y a)) : compGo g kYes te ρ0 (L.map f) = some (L.map y) := by
  have := compGo_map f g kYes te ρ0 (fun _ => true) y L fun a ha => let ⟨ρ1, h1, h2⟩ := h a ha; ⟨ρ1, h1, rfl, fun _ => h2⟩
  rw [this, List.filter_eq_self.mpr fun _ _ => rfl]
theorem compGo_data (g : D → Rho → Option Rho) (te : Rho → Option D) (ρ0 : Rho) (y : D → D) (L : List D) (h : ∀ a ∈ L, ∃ ρ1, g a ρ0 = some ρ1 ∧ te ρ1 = some (y a)) : compGo g kYes te ρ0 L = some (L.map y) := by
  have := compGo_all (fun d : D => d) g te ρ0 y L h
  rw [List.map_id'] at this
  exact this
theorem rangeD_one (lo : Int) (n : Nat) : rangeD lo 1 n = ((List.range n).map fun i : Nat => lo + (i : Int)).map PyData.int := by
  unfold rangeD
  rw [List.map_map]
  exact List.map_congr_left fun i _ => by simp
theorem rangeD_zero (n : Nat) : rangeD 0 1 n = (List.range n).map fun i : Nat => PyData.int (i : Int) := by
  unfold rangeD
  exact List.map_congr_left fun i _ => by simp
theorem forGo_nil (g : D → Rho → Option Rho) (b : Rho → Option Fl) (ρ : Rho) : forGo g b [] ρ = some (.nx ρ) := rfl
/-- a loop without break, continue and return, by its states -/
theorem forGo_st {A S : Type} (f : A → D) (g : D → Rho → Option Rho) (b : Rho → Option Fl) (E : S → Rho → Prop) (step : S → A → S) : ∀ (L : List A) (s : S) (ρ : Rho), E s ρ →
    (∀ a ∈ L, ∀ (s : S) (ρ : Rho), E s ρ → ∃ ρ1 ρ2, g (f a) ρ = some ρ1 ∧ b ρ1 = some (.nx ρ2) ∧ E (step s a) ρ2) → ∃ ρ', forGo g b (L.map f) ρ = some (.nx ρ') ∧ E (L.foldl step s) ρ'
  | [], s, ρ, e, _ => ⟨ρ, rfl, e⟩
  | a :: L, s, ρ, e, h => by
    obtain ⟨ρ1, ρ2, h1, h2, h3⟩ := h a List.mem_cons_self s ρ e
    obtain ⟨ρ', h4, h5⟩ := forGo_st f g b E step L _ ρ2 h3 fun c hc => h c (List.mem_cons_of_mem _ hc)
    refine ⟨ρ', ?_, h5⟩
    show (g (f a) ρ).bind _ = _
    rw [h1, Option.bind_some, h2, Option.bind_some]
    exact h4
theorem atI_nat {α : Type} (xs : List α) (i : Nat) (h : i < xs.length) : atI xs (i : Int) = some (xs[i]) := by
  unfold atI ixN
  rw [if_pos (by omega), if_pos (by omega)]
  simp [h]
@[simp] theorem atI_zero {α : Type} (x : α) (xs : List α) : atI (x :: xs) 0 = some x := by simp [atI, ixN]
@[simp] theorem atI_one {α : Type} (x y : α) (xs : List α) : atI (x :: y :: xs) 1 = some y := by
  have := atI_nat (x :: y :: xs) 1 (by simp)
  simpa using this
@[simp] theorem atI_two {α : Type} (x y z : α) (xs : List α) : atI (x :: y :: z :: xs) 2 = some z := by
  have := atI_nat (x :: y :: z :: xs) 2 (by simp)
  simpa using this
@[simp] theorem atI_three {α : Type} (x y z w : α) (xs : List α) : atI (x :: y :: z :: w :: xs) 3 = some w := by
  have := atI_nat (x :: y :: z :: w :: xs) 3 (by simp)
  simpa using this
@[simp] theorem intsOf_m (xs : List Int) : intsOf (xs.map PyData.int) = some xs := intsOf_map xs
@[simp] theorem boolsOf_m (xs : List Bool) : boolsOf (xs.map PyData.bool) = some xs := boolsOf_map xs
@[simp] theorem wipeE_nil (ρ : Rho) : wipeE ρ [] = ρ := rfl
@[simp] theorem wipeE_cons (ρ : Rho) (v : Nat) (vs : List Nat) : wipeE ρ (v :: vs) = (wipeE ρ vs).set v .un := rfl
end DL
namespace DL
open PySem PySem.Spec L2
theorem atI_map_nat {A : Type} (f : A → D) (xs : List A) (k : Nat) (h : k < xs.length) : atI (xs.map f) (k : Int) = some (f xs[k]) := by
  rw [atI_nat _ _ (by simpa using h)]
  simp
theorem atI_iL (xs : List Int) (k : Nat) (h : k < xs.length) : atI (xs.map PyData.int) (k : Int) = some (.int (xs.getD k 0)) := by
  rw [atI_map_nat _ _ _ h, List.getD_eq_getElem?_getD, List.getElem?_eq_getElem h]
  rfl
theorem okMul_of {i j : Int} (h : i.natAbs ≤ 1000000000000) : okMul i j = true := by
  unfold okMul
  rw [Bool.or_eq_true, decide_eq_true_iff]
  exact .inl (by omega)
theorem okMul_of' {i j : Int} (h : j.natAbs ≤ 1000000000000) : okMul i j = true := by
  unfold okMul
  rw [Bool.or_eq_true, decide_eq_true_iff, decide_eq_true_iff]
  exact .inr (by omega)
/-- numbers of at most B -/
def Bd (B : Nat) (xs : List Int) : Prop := ∀ x ∈ xs, x.natAbs ≤ B
theorem Bd.mono {B C : Nat} {xs : List Int} (h : Bd B xs) (l : B ≤ C) : Bd C xs := fun x hx => Nat.le_trans (h x hx) l
theorem Bd.get {B : Nat} {xs : List Int} (h : Bd B xs) (k : Nat) : (xs.getD k 0).natAbs ≤ B := by
  rw [List.getD_eq_getElem?_getD]
  cases e : xs[k]? with
  | none => simp
  | some x => exact h x (List.mem_of_getElem? e)
theorem Bd.get? {B : Nat} {xs : List Int} (h : Bd B xs) {k : Nat} {x : Int} (e : xs[k]? = some x) : x.natAbs ≤ B := h x (List.mem_of_getElem? e)
/-- places of two lists, as pairs -/
theorem range_zip (f : Int → Int → D) : ∀ (xs ys : List Int), xs.length ≤ ys.length → (List.range xs.length).map (fun k => f (xs.getD k 0) (ys.getD k 0)) = List.zipWith f xs ys
  | [], _, _ => rfl
  | x :: xs, [], h => by simp at h
  | x :: xs, y :: ys, h => by
    have ih := range_zip f xs ys (by simpa using h)
    rw [List.length_cons, List.range_succ_eq_map, List.map_cons, List.map_map]
    show f x y :: _ = f x y :: _
    rw [← ih]
    rfl
theorem range_one {A : Type} (d : A) (f : A → D) : ∀ (xs : List A), (List.range xs.length).map (fun k => f (xs.getD k d)) = xs.map f
  | [] => rfl
  | x :: xs => by
    have ih := range_one d f xs
    rw [List.length_cons, List.range_succ_eq_map, List.map_cons, List.map_map, List.map_cons, ← ih]
    rfl
theorem fit_of {ys : List D} (h : ys.length ≤ 1000000) : fit ys = some (.ow ys) := by
  unfold fit
  rw [if_pos (Nat.le_trans h (by decide))]
def dot (xs ys : List Int) : Int := (List.zipWith (· * ·) xs ys).sum
theorem zipWith_int (xs ys : List Int) : List.zipWith (fun a b => PyData.int (a * b)) xs ys = (List.zipWith (· * ·) xs ys).map PyData.int := by
  rw [List.map_zipWith]
end DL
namespace DL
open PySem PySem.Spec L2
/-- walked with conditions on the items alone, the state coming back to a fixed one -/
theorem forGo_same (g : D → Rho → Option Rho) (b : Rho → Option Fl) (E : Rho → Prop) : ∀ (L : List D) (ρ : Rho), E ρ → (∀ a ∈ L, ∀ ρ, E ρ → ∃ ρ1 ρ2, g a ρ = some ρ1 ∧ b ρ1 = some (.nx ρ2) ∧ E ρ2) → ∃ ρ', forGo g b L ρ = some (.nx ρ') ∧ E ρ'
  | [], ρ, e, _ => ⟨ρ, rfl, e⟩
  | a :: L, ρ, e, h => by
    obtain ⟨ρ1, ρ2, h1, h2, h3⟩ := h a List.mem_cons_self ρ e
    obtain ⟨ρ', h4, h5⟩ := forGo_same g b E L ρ2 h3 fun c hc => h c (List.mem_cons_of_mem _ hc)
    refine ⟨ρ', ?_, h5⟩
    show (g a ρ).bind _ = _
    rw [h1, Option.bind_some, h2, Option.bind_some]
    exact h4
theorem enumD_map {A : Type} (f : A → D) : ∀ (xs : List A) (k : Nat), enumD k (xs.map f) = (xs.zipIdx k).map fun p => .tuple [.int (p.2 : Int), f p.1]
  | [], _ => rfl
  | x :: xs, k => by rw [List.map_cons, List.zipIdx_cons, List.map_cons, ← enumD_map f xs (k + 1)]; rfl
theorem zipD_map {A B : Type} (f : A → D) (h : B → D) : ∀ (xs : List A) (ys : List B), zipD (xs.map f) (ys.map h) = (xs.zip ys).map fun p => .tuple [f p.1, h p.2]
  | [], _ => by cases ‹List B› <;> rfl
  | _ :: _, [] => rfl
  | x :: xs, y :: ys => by rw [List.map_cons, List.map_cons, List.zip_cons_cons, List.map_cons, ← zipD_map f h xs ys]; rfl
theorem zipIdx_lt {A : Type} {xs : List A} {p : A × Nat} (h : p ∈ xs.zipIdx) : p.2 < xs.length ∧ xs[p.2]? = some p.1 := by
  obtain ⟨x, i⟩ := p
  have := List.mem_zipIdx_iff_getElem?.mp h
  exact ⟨(List.getElem?_eq_some_iff.mp this).1, this⟩
def prodT (ts : List Int) : Int := ts.foldl (fun a t => a * (t + 1)) 1
@[simp] theorem data_fr (d : D) : (Rv.fr d).data = d := rfl
@[simp] theorem gEq_int (i j : Int) : gEq (.int i) (.int j) = some (.bool (i == j)) := by
  unfold gEq
  rw [if_pos ⟨rfl, rfl⟩]
  rfl
@[simp] theorem gNe_int (i j : Int) : gNe (.int i) (.int j) = some (.bool (!(i == j))) := by
  unfold gNe
  rw [if_pos ⟨rfl, rfl⟩]
  rfl
@[simp] theorem boolsOf_const {A : Type} (f : A → Bool) (xs : List A) : boolsOf (xs.map fun a => PyData.bool (f a)) = some (xs.map f) := by
  have := boolsOf_map (xs.map f)
  rw [List.map_map] at this
  exact this
@[simp] theorem intsOf_fn {A : Type} (f : A → Int) (xs : List A) : intsOf (xs.map fun a => PyData.int (f a)) = some (xs.map f) := by
  have := intsOf_map (xs.map f)
  rw [List.map_map] at this
  exact this
@[simp] theorem gAll_m {A : Type} (f : A → Bool) (xs : List A) : gAll (xs.map fun a => PyData.bool (f a)) = some (.fr (.bool (xs.all f))) := by
  unfold gAll
  rw [boolsOf_const]
  simp [List.all_map]
@[simp] theorem gAny_m {A : Type} (f : A → Bool) (xs : List A) : gAny (xs.map fun a => PyData.bool (f a)) = some (.fr (.bool (xs.any f))) := by
  unfold gAny
  rw [boolsOf_const]
  simp [List.any_map]
@[simp] theorem gSum_m {A : Type} (f : A → Int) (xs : List A) : gSum (xs.map fun a => PyData.int (f a)) = some (.fr (.int (xs.map f).sum)) := by
  unfold gSum
  rw [intsOf_fn]
  rfl
@[simp] theorem line_v : line = 16777216 := rfl
end DL

set_option Elab.async false
set_option linter.all false
set_option maxRecDepth 100000
set_option maxHeartbeats 2000000
namespace DL
open PySem PySem.Spec L2
/-- what can be shown, in at most n signs, at most k deep -/
structure RB (n k : Nat) (d : D) : Prop where
  sh : d.showable = true
  nd : d.hasDict = false
  dp : d.depth ≤ k
  ln : d.shown.length ≤ n
theorem RB.mono {n k n' k' : Nat} {d : D} (h : RB n k d) (h1 : n ≤ n') (h2 : k ≤ k') : RB n' k' d := ⟨h.sh, h.nd, Nat.le_trans h.dp h2, Nat.le_trans h.ln h1⟩
theorem gRepr_ok {n k : Nat} {d : D} (h : RB n k d) (h1 : n ≤ 16777216) (h2 : k ≤ 60) : gRepr [d] = some (.fr (.str d.shown)) := by
  show (if _ then _ else _) = _
  rw [if_pos ⟨h.sh, h.nd, Nat.le_trans h.dp h2, Nat.le_trans h.ln h1⟩]
theorem RB.none : RB 4 0 .none := ⟨rfl, rfl, Nat.le_refl _, by decide +kernel⟩
theorem RB.int {i : Int} (h : i.natAbs ≤ 1000000000000) : RB 60 0 (.int i) := by
  have h2 : i.natAbs < 10 ^ 13 := by omega
  refine ⟨?_, rfl, Nat.le_refl _, ?_⟩
  · show decide (i.natAbs.log2 < 1920) = true
    rw [decide_eq_true_iff]
    have : i.natAbs.log2 ≤ i.natAbs := Nat.log2_le_self _
    by_cases z : i.natAbs = 0
    · rw [z]; decide
    · have := (Nat.log2_lt z (k := 1920)).mpr (Nat.lt_of_lt_of_le h2 (by decide))
      exact this
  · have e := int_text_length_le10 (k := 13) (by decide) h2
    show (Str.ofString (toString i)).length ≤ 60
    rw [ofString_length]
    omega
theorem piled_le {n : Nat} : ∀ (ts : List Str), (∀ t ∈ ts, t.length ≤ n) → piled ts ≤ ts.length * (n + 2)
  | [], _ => Nat.zero_le _
  | t :: ts, h => by
    have ih := piled_le ts fun x hx => h x (List.mem_cons_of_mem _ hx)
    have := h t List.mem_cons_self
    show t.length + 2 + piled ts ≤ (ts.length + 1) * (n + 2)
    rw [Nat.add_mul]
    omega
theorem listText_le (ts : List Str) : (listText ts).length ≤ 4 + piled ts := by
  cases ts with
  | nil => decide +kernel
  | cons t r =>
    have h := textFrom_length_pos r 1 (("[" : Str) ++ (if (0 : Nat) > 0 then ", " else "" : String) ++ t) (Nat.succ_pos 0)
    show (textFrom 0 "[" (t :: r) ++ "]").length ≤ _
    rw [strLen_append]
    show (textFrom 1 _ r).length + _ ≤ _
    have e1 : ((("[" : Str) ++ (if (0 : Nat) > 0 then ", " else "" : String) ++ t)).length = 1 + t.length := by
      rw [strLen_append, strLen_append]
      rfl
    rw [e1] at h
    have e2 : (("]" : String) : Str).length = 1 := rfl
    have e3 : piled (t :: r) = t.length + 2 + piled r := rfl
    rw [e2, e3]
    simp only [gt_iff_lt, Nat.lt_irrefl, if_false] at h ⊢
    omega
theorem tupleText_le (ts : List Str) : (tupleText ts).length ≤ 4 + piled ts := by
  unfold tupleText
  rw [strLen_append, strLen_append]
  have e1 : (("(" : String) : Str).length = 1 := rfl
  have e2 : ((if ts.length == 1 then ",)" else ")" : String) : Str).length ≤ 2 := by split <;> decide +kernel
  by_cases z : ts = []
  · subst z
    have : (Str.join ", " []).length = 0 := by decide +kernel
    rw [this, e1]
    omega
  · have := join_length_add ts z
    rw [e1]
    omega
theorem all_rb {n k : Nat} : ∀ (ds : List D), (∀ d ∈ ds, RB n k d) → PyData.showableAll ds = true ∧ PyData.hasDictAll ds = false ∧ PyData.depthAll ds ≤ k ∧ (PyData.shownAll ds).length = ds.length ∧ ∀ t ∈ PyData.shownAll ds, t.length ≤ n
  | [], _ => ⟨rfl, rfl, Nat.zero_le _, rfl, fun t h => (nomatch h)⟩
  | d :: ds, h => by
    obtain ⟨a1, a2, a3, a4, a5⟩ := all_rb ds fun x hx => h x (List.mem_cons_of_mem _ hx)
    have b := h d List.mem_cons_self
    refine ⟨?_, ?_, ?_, ?_, fun t ht => ?_⟩
    · rw [PyData.showableAll, b.sh, a1]; rfl
    · rw [PyData.hasDictAll, b.nd, a2]; rfl
    · rw [PyData.depthAll]; have := b.dp; omega
    · rw [PyData.shownAll, List.length_cons, a4, List.length_cons]
    · rw [PyData.shownAll] at ht
      rcases List.mem_cons.mp ht with e | ht
      · rw [e]; exact b.ln
      · exact a5 t ht
theorem RB.list {n k m : Nat} {ds : List D} (h : ∀ d ∈ ds, RB n k d) (hm : ds.length ≤ m) : RB (4 + m * (n + 2)) (k + 1) (.list ds) := by
  obtain ⟨a1, a2, a3, a4, a5⟩ := all_rb ds h
  refine ⟨by rw [PyData.showable]; exact a1, by rw [PyData.hasDict]; exact a2, by rw [PyData.depth]; omega, ?_⟩
  rw [PyData.shown]
  have b1 := listText_le (PyData.shownAll ds)
  have b2 := piled_le (PyData.shownAll ds) a5
  have b3 := Nat.mul_le_mul_right (n + 2) hm
  rw [a4] at b2
  omega
theorem RB.tuple {n k m : Nat} {ds : List D} (h : ∀ d ∈ ds, RB n k d) (hm : ds.length ≤ m) : RB (4 + m * (n + 2)) (k + 1) (.tuple ds) := by
  obtain ⟨a1, a2, a3, a4, a5⟩ := all_rb ds h
  refine ⟨by rw [PyData.showable]; exact a1, by rw [PyData.hasDict]; exact a2, by rw [PyData.depth]; omega, ?_⟩
  rw [PyData.shown]
  have b1 := tupleText_le (PyData.shownAll ds)
  have b2 := piled_le (PyData.shownAll ds) a5
  have b3 := Nat.mul_le_mul_right (n + 2) hm
  rw [a4] at b2
  omega
end DL

set_option Elab.async false
set_option linter.all false
set_option maxRecDepth 100000
set_option maxHeartbeats 2000000
namespace DL
open PySem PySem.Spec L2
theorem forGo_ix {A S : Type} (f : A → D) (g : D → Rho → Option Rho) (b : Rho → Option Fl) (E : Nat → S → Rho → Prop) (step : S → A → S) : ∀ (L : List A) (i : Nat) (s : S) (ρ : Rho), E i s ρ →
    (∀ (j : Nat) (a : A), L[j]? = some a → ∀ (s : S) (ρ : Rho), E (i + j) s ρ → ∃ ρ1 ρ2, g (f a) ρ = some ρ1 ∧ b ρ1 = some (.nx ρ2) ∧ E (i + j + 1) (step s a) ρ2) → ∃ ρ', forGo g b (L.map f) ρ = some (.nx ρ') ∧ E (i + L.length) (L.foldl step s) ρ'
  | [], i, s, ρ, e, _ => ⟨ρ, rfl, e⟩
  | a :: L, i, s, ρ, e, h => by
    obtain ⟨ρ1, ρ2, h1, h2, h3⟩ := h 0 a rfl s ρ e
    obtain ⟨ρ', h4, h5⟩ := forGo_ix f g b E step L (i + 1) _ ρ2 h3 fun j c hc s ρ e => by
      have := h (j + 1) c (by simpa using hc) s ρ (by rw [show i + (j + 1) = i + 1 + j by omega]; exact e)
      rw [show i + 1 + j + 1 = i + (j + 1) + 1 by omega]
      exact this
    refine ⟨ρ', ?_, by rw [List.length_cons, show i + (L.length + 1) = i + 1 + L.length by omega]; exact h5⟩
    show (g (f a) ρ).bind _ = _
    rw [h1, Option.bind_some, h2, Option.bind_some]
    exact h4
theorem compGo2_all {A : Type} (f : A → D) (g : D → Rho → Option Rho) (src1 : Rho → Option (List D)) (vs1 : List Nat) (g1 : D → Rho → Option Rho) (te : Rho → Option D) (ρ0 : Rho) (Y : A → List D) : ∀ (L : List A),
    (∀ a ∈ L, ∃ ρ1 us, g (f a) ρ0 = some ρ1 ∧ src1 ρ1 = some us ∧ compGo g1 kYes te (wipeE ρ1 vs1) us = some (Y a)) → compGo2 g kYes src1 vs1 g1 kYes te ρ0 (L.map f) = some (L.flatMap Y)
  | [], _ => rfl
  | a :: L, h => by
    obtain ⟨ρ1, us, h1, h2, h3⟩ := h a List.mem_cons_self
    have ih := compGo2_all f g src1 vs1 g1 te ρ0 Y L fun b hb => h b (List.mem_cons_of_mem _ hb)
    show (g (f a) ρ0).bind _ = _
    rw [h1, Option.bind_some, show kYes ρ1 = some true from rfl, Option.bind_some, if_pos rfl, h2, Option.bind_some, h3, Option.bind_some, ih]
    rfl
theorem forGo_find {A : Type} (f : A → D) (g : D → Rho → Option Rho) (b : Rho → Option Fl) (E : Rho → Prop) (P : A → Bool) (R : A → Rv) : ∀ (L : List A), (∀ a ∈ L, ∀ ρ, E ρ → ∃ ρ1, g (f a) ρ = some ρ1 ∧ (P a = true → b ρ1 = some (.rt (R a))) ∧ (P a = false → ∃ ρ2, b ρ1 = some (.nx ρ2) ∧ E ρ2)) →
    ∀ ρ, E ρ → (∀ a, L.find? P = some a → forGo g b (L.map f) ρ = some (.rt (R a))) ∧ (L.find? P = none → ∃ ρ', forGo g b (L.map f) ρ = some (.nx ρ') ∧ E ρ')
  | [], _, ρ, e => ⟨fun a h => (nomatch h), fun _ => ⟨ρ, rfl, e⟩⟩
  | a :: L, h, ρ, e => by
    obtain ⟨ρ1, h1, h2, h3⟩ := h a List.mem_cons_self ρ e
    cases hp : P a with
    | true =>
      rw [List.find?_cons_of_pos hp]
      refine ⟨fun c hc => ?_, fun z => (nomatch z)⟩
      cases hc
      show (g (f a) ρ).bind _ = _
      rw [h1, Option.bind_some, h2 hp]
      rfl
    | false =>
      obtain ⟨ρ2, h4, h5⟩ := h3 hp
      rw [List.find?_cons_of_neg (by rw [hp]; exact Bool.false_ne_true)]
      have ih := forGo_find f g b E P R L (fun c hc => h c (List.mem_cons_of_mem _ hc)) ρ2 h5
      have e1 : forGo g b ((a :: L).map f) ρ = forGo g b (L.map f) ρ2 := by
        show (g (f a) ρ).bind _ = _
        rw [h1, Option.bind_some, h4]
        rfl
      rw [e1]
      exact ih
theorem foldl_app {A B : Type} (h : A → List B) : ∀ (L : List A) (init : List B), L.foldl (fun acc a => acc ++ h a) init = init ++ L.flatMap h
  | [], init => by simp
  | a :: L, init => by rw [List.foldl_cons, foldl_app h L, List.flatMap_cons, List.append_assoc]
end DL
namespace CM
open PySem PySem.Spec L2 DL
noncomputable section
def b_law_draws (K : PySem.W.Frag) : Rho → Option Fl :=
  (zSeq (zSetR 1 (kLst kNil))
  (zSeq (zFor (kRange1 (kCons (kData (kCall gMin2 (kCons (kC (.int 63)) (kCons (kData (kScLen K 0)) kNil)))) kNil)) (sName 2) (zSeq (zSet 3 (kData (kCall gAbs (kCons (kScIx K 0 (gVar 2)) kNil))))
  (zIf (kB (kBin gGe (gVar 3) (kBin gPow (kC (.int 10)) (kC (.int 18))))) (zFor (kRange1 (kCons (kC (.int 60)) kNil)) (sName 4) (zIf (kB (kBin gGt (gVar 3) (kC (.int 0)))) (zSeq (zApp 1 (kBin gMod (kData (kCall gInt (kCons (gVar 3) kNil))) (kC (.int 65536))))
  (zSet 3 (kBin gDiv (gVar 3) (kC (.int 65536))))) zNext)) (zSeq (zSet 5 (kBin gMod (kData (kCall gInt (kCons (kBin gAdd (kBin gMul (gVar 3) (kC (.int 48271))) (kBin gMul (kBin gAdd (gVar 2) (kC (.int 1))) (kC (.int 69621)))) kNil))) (kC (.int 2147483647))))
  (zSeq (zSet 5 (kBin gMod (kData (kCall gInt (kCons (kBin gAdd (kBin gAdd (kBin gMul (gVar 5) (kC (.int 16807))) (kBin gMul (kC (.int 11)) (gVar 2))) (kC (.int 5))) kNil))) (kC (.int 2147483629))))
  (zSeq (zApp 1 (kBin gMod (kData (kCall gInt (kCons (gVar 5) kNil))) (kC (.int 65536))))
  (zApp 1 (kBin gMod (kData (kCall gInt (kCons (kBin gDiv (gVar 5) (kC (.int 65536))) kNil))) (kC (.int 32768))))))))))
  (zRet (kSlot 1))))
def d_law_draws (K : PySem.W.Frag) : List Int → Option Res := dSc K 6 (b_law_draws K)
def b_law_mix : Rho → Option Fl :=
  (zSeq (zSet 3 (kC (.int 0)))
  (zSeq (zIf (kB (kBin gGt (kData (kCall gLen (kQ (gVar 0)))) (kC (.int 0)))) (zSet 3 (kIx (kQ (gVar 0)) (kBin gMod (kData (kCall gInt (kCons (gVar 1) kNil))) (kData (kCall gLen (kQ (gVar 0))))))) zNext)
  (zSeq (zIf (kB (kBin gLt (gVar 1) (kData (kCall gLen (kQ (gVar 0)))))) (zRet (kFr (kBin gMod (kData (kCall gInt (kCons (gVar 3) kNil))) (gVar 2)))) zNext)
  (zRet (kFr (kBin gMod (kData (kCall gInt (kCons (kBin gDiv (kData (kCall gInt (kCons (kBin gAdd (kBin gMul (gVar 3) (kC (.int 7919))) (kBin gMul (gVar 1) (kC (.int 104729)))) kNil))) (kC (.int 3))) kNil))) (gVar 2)))))))
def d_law_mix : List D → Option Res := dFn 3 4 b_law_mix
end
theorem getD_at {A : Type} (xs : List A) (d : A) {i : Nat} (h : i < xs.length) : xs.getD i d = xs[i] := by
  rw [List.getD_eq_getElem?_getD, List.getElem?_eq_getElem h]; rfl
theorem range_get {n j a : Nat} (h : (List.range n)[j]? = some a) : j < n ∧ a = j := by
  have h1 := (List.getElem?_eq_some_iff.mp h).1
  rw [List.length_range] at h1
  rw [List.getElem?_range h1] at h
  cases h
  exact ⟨h1, rfl⟩
def Dr (ds : List Int) : Prop := ds.length ≤ 4000 ∧ ∀ x ∈ ds, 0 ≤ x ∧ x < 65536
theorem fmod_in {a b : Int} (h : 0 < b) : 0 ≤ a.fmod b ∧ a.fmod b < b := ⟨Int.fmod_nonneg_of_pos a h, Int.fmod_lt_of_pos a h⟩
theorem v_mix (ds : List Int) (h : Dr ds) (k many : Int) (hk : 0 ≤ k ∧ k ≤ 1000000) (hm : 0 < many ∧ many ≤ 1000000) : ∃ z, d_law_mix [iL ds, .int k, .int many] = some (.ok (.fr (.int z))) ∧ 0 ≤ z ∧ z < many := by
  by_cases h0 : (0 : Int) < ds.length
  · have hne : ds ≠ [] := fun z => by rw [z] at h0; simp at h0
    have h0n : 0 < ds.length := by omega
    have hq := fmod_in (a := k) h0
    obtain ⟨q, hq2⟩ := Int.eq_ofNat_of_zero_le hq.1
    have hql : q < ds.length := by omega
    have a1 := atI_iL ds q hql
    have hv := h.2 _ (List.getElem_mem hql)
    rw [← getD_at ds 0 hql] at hv
    by_cases h1 : k < ds.length
    · refine ⟨(ds.getD q 0).fmod many, ?_, fmod_in hm.1⟩
      simp -implicitDefEqProofs [-List.getD_eq_getElem?_getD, d_law_mix, b_law_mix, iL, h0n, hne, hq2, a1, h1, show many ≠ 0 by omega]
    · refine ⟨((((ds.getD q 0) * 7919 + k * 104729).fdiv 3)).fmod many, ?_, fmod_in hm.1⟩
      simp -implicitDefEqProofs [-List.getD_eq_getElem?_getD, d_law_mix, b_law_mix, iL, h0n, hne, hq2, a1, h1, show many ≠ 0 by omega, okMul_of (i := ds.getD q 0) (j := 7919) (by omega), okMul_of (i := k) (j := 104729) (by omega)]
  · have e : ds = [] := List.eq_nil_of_length_eq_zero (by omega)
    subst e
    refine ⟨((k * 104729 : Int).fdiv 3).fmod many, ?_, fmod_in hm.1⟩
    simp -implicitDefEqProofs [d_law_mix, b_law_mix, iL, show ¬ k < 0 by omega, show many ≠ 0 by omega, okMul_of (i := (0 : Int)) (j := 7919) (by omega), okMul_of (i := k) (j := 104729) (by omega)]
/-- the value that is mixed -/
noncomputable def mx (ds : List Int) (k many : Int) : Int := by
  classical exact if h : Dr ds ∧ (0 ≤ k ∧ k ≤ 1000000) ∧ (0 < many ∧ many ≤ 1000000) then (v_mix ds h.1 k many h.2.1 h.2.2).choose else 0
theorem mx_spec {ds : List Int} (h : Dr ds) {k many : Int} (hk : 0 ≤ k ∧ k ≤ 1000000) (hm : 0 < many ∧ many ≤ 1000000) : d_law_mix [iL ds, .int k, .int many] = some (.ok (.fr (.int (mx ds k many)))) ∧ 0 ≤ mx ds k many ∧ mx ds k many < many := by
  unfold mx
  rw [dif_pos ⟨h, hk, hm⟩]
  exact (v_mix ds h k many hk hm).choose_spec
def In16 (ds : List Int) : Prop := ∀ x ∈ ds, 0 ≤ x ∧ x < 65536
theorem In16.app {ds : List Int} (h : In16 ds) {x : Int} (hx : 0 ≤ x ∧ x < 65536) : In16 (ds ++ [x]) := fun y hy => by
  rcases List.mem_append.mp hy with hy | hy
  · exact h y hy
  · simp at hy
    rw [hy]
    exact hx
theorem scAt_zero (K : PySem.W.Frag) (ns : List Int) (r : List Sl) : scAt K 0 (Sl.sc K ns :: r) = some ns := by
  simp [scAt]
theorem v_law_draws (K : PySem.W.Frag) (ns : List Int) (hn : ns.length ≤ 63) : ∃ ds, Dr ds ∧ d_law_draws K ns = some (.ok (.ow (ds.map PyData.int))) := by
  have IN : ∀ (k rest : Int) (acc : List Int) (x4 x5 : Sl) (m : Nat), In16 acc → acc.length ≤ 60 * m → m ≤ 63 → ∃ (acc' : List Int) (rest' : Int) (x4' : Sl), forGo (sName 4) (zIf (kB (kBin gGt (gVar 3) (kC (.int 0)))) (zSeq (zApp 1 (kBin gMod (kData (kCall gInt (kCons (gVar 3) kNil))) (kC (.int 65536))))
      (zSet 3 (kBin gDiv (gVar 3) (kC (.int 65536))))) zNext) (rangeD 0 1 60) [.sc K ns, .ow (acc.map PyData.int), .fr (.int k), .fr (.int rest), x4, x5] = some (.nx [.sc K ns, .ow (acc'.map PyData.int), .fr (.int k), .fr (.int rest'), x4', x5]) ∧ In16 acc' ∧ acc'.length ≤ 60 * (m + 1) := fun k rest acc x4 x5 m hacc hl hm => by
    rw [rangeD_zero]
    obtain ⟨ρ', e1, acc', rest', x4', rfl, h1, h2⟩ := forGo_ix (S := Unit) (fun i : Nat => PyData.int (i : Int)) (sName 4) (zIf (kB (kBin gGt (gVar 3) (kC (.int 0)))) (zSeq (zApp 1 (kBin gMod (kData (kCall gInt (kCons (gVar 3) kNil))) (kC (.int 65536))))
      (zSet 3 (kBin gDiv (gVar 3) (kC (.int 65536))))) zNext) (fun i _ ρ => ∃ (acc' : List Int) (rest' : Int) (x4' : Sl), ρ = [.sc K ns, .ow (acc'.map PyData.int), .fr (.int k), .fr (.int rest'), x4', x5] ∧ In16 acc' ∧ acc'.length ≤ 60 * m + i) (fun _ _ => ()) (List.range 60) 0 () [.sc K ns, .ow (acc.map PyData.int), .fr (.int k), .fr (.int rest), x4, x5] ⟨acc, rest, x4, rfl, hacc, by omega⟩ fun j a ha _ ρ ⟨acc, rest, x4, e, h1, h2⟩ => by
      subst e
      obtain ⟨hj, rfl⟩ := range_get ha
      by_cases hr : 0 < rest
      · refine ⟨_, [.sc K ns, .ow ((acc ++ [rest.fmod 65536]).map PyData.int), .fr (.int k), .fr (.int (rest.fdiv 65536)), .fr (.int a), x5], rfl, ?_, _, _, _, rfl, h1.app (fmod_in (by decide)), by rw [List.length_append]; simp; omega⟩
        simp -implicitDefEqProofs [hr, show acc.length < 16777216 by omega]
      · refine ⟨_, [.sc K ns, .ow (acc.map PyData.int), .fr (.int k), .fr (.int rest), .fr (.int a), x5], rfl, ?_, _, _, _, rfl, h1, by omega⟩
        simp -implicitDefEqProofs [hr]
    rw [List.length_range] at h2
    exact ⟨acc', rest', x4', e1, h1, by omega⟩
  obtain ⟨ρ', e1, acc, x2, x3, x4, x5, rfl, h1, h2⟩ := forGo_ix (S := Unit) (fun i : Nat => PyData.int (i : Int)) (sName 2) (zSeq (zSet 3 (kData (kCall gAbs (kCons (kScIx K 0 (gVar 2)) kNil))))
      (zIf (kB (kBin gGe (gVar 3) (kBin gPow (kC (.int 10)) (kC (.int 18))))) (zFor (kRange1 (kCons (kC (.int 60)) kNil)) (sName 4) (zIf (kB (kBin gGt (gVar 3) (kC (.int 0)))) (zSeq (zApp 1 (kBin gMod (kData (kCall gInt (kCons (gVar 3) kNil))) (kC (.int 65536))))
      (zSet 3 (kBin gDiv (gVar 3) (kC (.int 65536))))) zNext)) (zSeq (zSet 5 (kBin gMod (kData (kCall gInt (kCons (kBin gAdd (kBin gMul (gVar 3) (kC (.int 48271))) (kBin gMul (kBin gAdd (gVar 2) (kC (.int 1))) (kC (.int 69621)))) kNil))) (kC (.int 2147483647))))
      (zSeq (zSet 5 (kBin gMod (kData (kCall gInt (kCons (kBin gAdd (kBin gAdd (kBin gMul (gVar 5) (kC (.int 16807))) (kBin gMul (kC (.int 11)) (gVar 2))) (kC (.int 5))) kNil))) (kC (.int 2147483629))))
      (zSeq (zApp 1 (kBin gMod (kData (kCall gInt (kCons (gVar 5) kNil))) (kC (.int 65536))))
      (zApp 1 (kBin gMod (kData (kCall gInt (kCons (kBin gDiv (gVar 5) (kC (.int 65536))) kNil))) (kC (.int 32768))))))))) (fun i _ ρ => ∃ (acc : List Int) (x2 x3 x4 x5 : Sl), ρ = [.sc K ns, .ow (acc.map PyData.int), x2, x3, x4, x5] ∧ In16 acc ∧ acc.length ≤ 60 * i) (fun _ _ => ()) (List.range ns.length) 0 () [.sc K ns, .ow [], .un, .un, .un, .un] ⟨[], _, _, _, _, rfl, fun x hx => (nomatch hx), Nat.le_refl _⟩ fun j a ha _ ρ ⟨acc, x2, x3, x4, x5, e, h1, h2⟩ => by
    subst e
    obtain ⟨hj, rfl⟩ := range_get ha
    have hat := atI_nat ns a hj
    generalize hz : ns[a] = z at hat
    generalize hrest : (if z < 0 then -z else z) = rest
    have sc0 := fun r => scAt_zero K ns r
    by_cases hr : 1000000000000000000 ≤ rest
    · obtain ⟨acc', rest', x4', e2, h3, h4⟩ := IN (a : Int) rest acc x4 x5 a h1 (by omega) (by omega)
      refine ⟨_, [.sc K ns, .ow (acc'.map PyData.int), .fr (.int a), .fr (.int rest'), x4', x5], rfl, ?_, _, _, _, _, _, rfl, h3, by omega⟩
      have s60 := sm_of (j := (60 : Int)) (by omega) (by omega)
      simp -implicitDefEqProofs [-scAt, sc0, hat, hrest, hr, s60, e2]
    · generalize hm1 : (rest * 48271 + ((a : Int) + 1) * 69621).fmod 2147483647 = m1
      have b1 : 0 ≤ m1 ∧ m1 < 2147483647 := by rw [← hm1]; exact fmod_in (by decide)
      generalize hm2 : (m1 * 16807 + 11 * (a : Int) + 5).fmod 2147483629 = m2
      have b2 : 0 ≤ m2 ∧ m2 < 2147483629 := by rw [← hm2]; exact fmod_in (by decide)
      have b3 := fmod_in (a := m2.fdiv 65536) (b := 32768) (by decide)
      refine ⟨_, [.sc K ns, .ow ((acc ++ [m2.fmod 65536] ++ [(m2.fdiv 65536).fmod 32768]).map PyData.int), .fr (.int a), .fr (.int rest), x4, .fr (.int m2)], rfl, ?_, _, _, _, _, _, rfl, (h1.app (fmod_in (by decide))).app ⟨b3.1, by omega⟩, by simp; omega⟩
      simp -implicitDefEqProofs [-scAt, sc0, hat, hrest, hr, hm1, hm2, okMul_of' (i := rest) (j := 48271) (by decide), okMul_of' (i := (a : Int) + 1) (j := 69621) (by decide), okMul_of' (i := m1) (j := 16807) (by decide), okMul_of (i := (11 : Int)) (j := (a : Int)) (by decide), show acc.length < 16777216 by omega, show acc.length + 1 < 16777216 by omega]
  rw [List.length_range] at h2
  refine ⟨acc, ⟨by omega, h1⟩, ?_⟩
  have sc0 := fun r => scAt_zero K ns r
  have hmin : (if (ns.length : Int) < 63 then (ns.length : Int) else 63) = ns.length := by split <;> omega
  have sN := sm_of (j := (ns.length : Int)) (by omega) (by omega)
  simp -implicitDefEqProofs [-scAt, d_law_draws, b_law_draws, sc0, hmin, sN, rangeD_zero, e1]
end CM

set_option Elab.async false
set_option linter.all false
set_option maxRecDepth 100000
set_option maxHeartbeats 2000000
namespace CM
open PySem PySem.Spec L2 DL
/-- f tells values of A as data, k deep, unlike values by unlike data -/
structure Enc {A : Type} [DecidableEq A] (f : A → D) (k : Nat) : Prop where
  lay : ∀ a, (f a).canLay0 = true
  dep : ∀ a, (f a).depth ≤ k
  eqv : ∀ a b, PyData.eqv (f a) (f b) = decide (a = b)
  ns : ∀ a x, f a ≠ .str x
section
variable {A : Type} [DecidableEq A] {f : A → D} {k : Nat}
theorem Enc.int : Enc (fun i : Int => PyData.int i) 0 := ⟨fun _ => rfl, fun _ => Nat.le_refl _, fun a b => by simp [PyData.eqv]; rfl, fun a x h => nomatch h⟩
theorem Enc.nat : Enc (fun i : Nat => PyData.int (i : Int)) 0 := ⟨fun _ => rfl, fun _ => Nat.le_refl _, fun a b => by
  simp only [PyData.eqv]
  by_cases h : a = b
  · subst h; simp
  · rw [decide_eq_false h]
    simp; omega, fun a x h => nomatch h⟩
theorem Enc.mono {k' : Nat} (e : Enc f k) (h : k ≤ k') : Enc f k' := ⟨e.lay, fun a => Nat.le_trans (e.dep a) h, e.eqv, e.ns⟩
theorem Enc.layAll (e : Enc f k) : ∀ xs : List A, PyData.canLayAll0 (xs.map f) = true
  | [] => rfl
  | x :: xs => by rw [List.map_cons, PyData.canLayAll0, e.lay x, e.layAll xs]; rfl
theorem Enc.depAll (e : Enc f k) : ∀ xs : List A, PyData.depthAll (xs.map f) ≤ k
  | [] => Nat.zero_le _
  | x :: xs => by
    have h1 := e.dep x
    have h2 := e.depAll xs
    rw [List.map_cons, PyData.depthAll]
    omega
theorem Enc.eqvAll (e : Enc f k) : ∀ xs ys : List A, PyData.eqvAll (xs.map f) (ys.map f) = decide (xs = ys)
  | [], [] => by simp [PyData.eqvAll]
  | [], y :: ys => by simp [PyData.eqvAll]
  | x :: xs, [] => by simp [PyData.eqvAll]
  | x :: xs, y :: ys => by
    rw [List.map_cons, List.map_cons, PyData.eqvAll, e.eqv, e.eqvAll xs ys]
    by_cases h1 : x = y <;> by_cases h2 : xs = ys <;> simp [h1, h2]
theorem Enc.list (e : Enc f k) : Enc (fun xs : List A => PyData.list (xs.map f)) (k + 1) := ⟨fun xs => by rw [PyData.canLay0]; exact e.layAll xs, fun xs => by rw [PyData.depth]; have := e.depAll xs; omega, fun xs ys => by rw [PyData.eqv]; exact e.eqvAll xs ys, fun a x h => nomatch h⟩
theorem Enc.tuple (e : Enc f k) : Enc (fun xs : List A => PyData.tuple (xs.map f)) (k + 1) := ⟨fun xs => by rw [PyData.canLay0]; exact e.layAll xs, fun xs => by rw [PyData.depth]; have := e.depAll xs; omega, fun xs ys => by rw [PyData.eqv]; exact e.eqvAll xs ys, fun a x h => nomatch h⟩
theorem Enc.pair {B : Type} [DecidableEq B] {g : B → D} {l : Nat} (e : Enc f k) (e2 : Enc g l) : Enc (fun p : A × B => PyData.tuple [f p.1, g p.2]) (max k l + 1) := ⟨fun p => by
    simp only [PyData.canLay0, PyData.canLayAll0, e.lay, e2.lay]; rfl, fun p => by
    have h1 := e.dep p.1
    have h2 := e2.dep p.2
    simp only [PyData.depth, PyData.depthAll]
    omega, fun p q => by
    simp only [PyData.eqv, PyData.eqvAll, e.eqv, e2.eqv]
    obtain ⟨a, b⟩ := p
    obtain ⟨c, d⟩ := q
    by_cases h1 : a = c <;> by_cases h2 : b = d <;> simp [h1, h2], fun a x h => nomatch h⟩
theorem Enc.shaped (e : Enc f k) (h : k ≤ 64) (a : A) : SeqAt.shaped (f a) = true := by
  unfold SeqAt.shaped
  rw [Bool.and_eq_true, decide_eq_true_iff]
  exact ⟨e.lay a, Nat.le_trans (e.dep a) h⟩
theorem Enc.eq (e : Enc f k) (h : k ≤ 64 := by decide) (a b : A) : gEq (f a) (f b) = some (.bool (decide (a = b))) := by
  unfold gEq
  rw [if_pos ⟨e.shaped h a, e.shaped h b⟩, e.eqv]
theorem Enc.ne (e : Enc f k) (h : k ≤ 64 := by decide) (a b : A) : gNe (f a) (f b) = some (.bool (!decide (a = b))) := by
  unfold gNe
  rw [if_pos ⟨e.shaped h a, e.shaped h b⟩, e.eqv]
theorem gEqA_eq {x y : D} (h : ∀ s, x ≠ .str s) : gEqA x y = gEq x y := by
  unfold gEqA
  split
  · exact absurd rfl (h _)
  · rfl
theorem gNeA_ne {x y : D} (h : ∀ s, x ≠ .str s) : gNeA x y = gNe x y := by
  unfold gNeA
  split
  · exact absurd rfl (h _)
  · rfl
theorem Enc.eqA (e : Enc f k) (h : k ≤ 64 := by decide) (a b : A) : gEqA (f a) (f b) = some (.bool (decide (a = b))) := by rw [gEqA_eq (e.ns a), e.eq h]
theorem Enc.neA (e : Enc f k) (h : k ≤ 64 := by decide) (a b : A) : gNeA (f a) (f b) = some (.bool (!decide (a = b))) := by rw [gNeA_ne (e.ns a), e.ne h]
theorem Enc.any (e : Enc f k) (a : A) : ∀ xs : List A, ((xs.map f).any fun z => PyData.eqv z (f a)) = decide (a ∈ xs)
  | [] => by simp
  | x :: xs => by
    rw [List.map_cons, List.any_cons, e.any a xs, e.eqv]
    by_cases h1 : x = a
    · subst h1; simp
    · simp [h1, Ne.symm h1]
theorem Enc.inA (e : Enc f k) (h : k ≤ 63 := by decide) (a : A) (xs : List A) : gInA (f a) (.list (xs.map f)) = some (.bool (decide (a ∈ xs))) := by
  show (if _ then _ else _) = _
  rw [if_pos ⟨e.shaped (by omega) a, e.list.shaped (by omega) xs⟩, e.any]
theorem Enc.inT (e : Enc f k) (h : k ≤ 63 := by decide) (a : A) (xs : List A) : gInA (f a) (.tuple (xs.map f)) = some (.bool (decide (a ∈ xs))) := by
  show (if _ then _ else _) = _
  rw [if_pos ⟨e.shaped (by omega) a, e.tuple.shaped (by omega) xs⟩, e.any]
theorem Enc.notIn (e : Enc f k) (h : k ≤ 63 := by decide) (a : A) (xs : List A) : gNotIn (f a) (.list (xs.map f)) = some (.bool (!decide (a ∈ xs))) := by
  show (if _ then _ else _) = _
  rw [if_pos ⟨e.shaped (by omega) a, e.list.shaped (by omega) xs⟩, e.any]
theorem Enc.inL (e : Enc f k) (h : k ≤ 63 := by decide) (a : A) (xs : List A) : gInL (f a) (xs.map f) = some (.bool (decide (a ∈ xs))) := by
  unfold gInL
  rw [if_pos ⟨e.shaped (by omega) a, e.list.shaped (by omega) xs⟩, e.any]
theorem Enc.notInL (e : Enc f k) (h : k ≤ 63 := by decide) (a : A) (xs : List A) : gNotInL (f a) (xs.map f) = some (.bool (!decide (a ∈ xs))) := by
  unfold gNotInL
  rw [if_pos ⟨e.shaped (by omega) a, e.list.shaped (by omega) xs⟩, e.any]
end
end CM

set_option Elab.async false
set_option linter.all false
set_option maxRecDepth 100000
set_option maxHeartbeats 2000000
namespace K79
open PySem PySem.Spec PyProof.Rows L2 DL CM
abbrev LL : Type := List (List Int)
abbrev iLL (L : LL) : D := .list (L.map iL)
/-! ### sorting -/
theorem insB_map {α β : Type} (f : α → β) (le : β → β → Bool) (x : α) : ∀ l : List α, insB le (f x) (l.map f) = (insB (fun a b => le (f a) (f b)) x l).map f
  | [] => rfl
  | y :: l => by
    show (if le (f x) (f y) = true then _ else _) = (if le (f x) (f y) = true then _ else _ : List α).map f
    by_cases h : le (f x) (f y) = true
    · rw [if_pos h, if_pos h]; rfl
    · rw [if_neg h, if_neg h, List.map_cons, ← insB_map f le x l]
theorem isort_map {α β : Type} (f : α → β) (le : β → β → Bool) : ∀ l : List α, isort le (l.map f) = (isort (fun a b => le (f a) (f b)) l).map f
  | [] => rfl
  | x :: l => by
    show insB le (f x) (isort le (l.map f)) = (insB _ x (isort _ l)).map f
    rw [isort_map f le l, insB_map]
theorem insB_perm {α : Type} (le : α → α → Bool) (x : α) : ∀ l : List α, (insB le x l).Perm (x :: l)
  | [] => .refl _
  | y :: l => by
    show (if le x y = true then _ else _ : List α).Perm _
    by_cases h : le x y = true
    · rw [if_pos h]
    · rw [if_neg h]
      exact ((insB_perm le x l).cons y).trans (.swap x y l)
theorem isort_perm {α : Type} (le : α → α → Bool) : ∀ l : List α, (isort le l).Perm l
  | [] => .refl _
  | x :: l => (insB_perm le x _).trans ((isort_perm le l).cons x)
def le2 (a b : List Int) : Bool := dLe (iL a) (iL b)
theorem le2_eq (a b : List Int) : le2 a b = !decide (b < a) := by
  show (!PySem.W.dataLt (iL b) (iL a)) = _
  rw [PySem.W.dataLt_list]
  exact congrArg _ (PySem.W.dataLt_ints b a)
theorem dLe_tup (a b : List Int) : dLe (tupI a) (tupI b) = le2 a b := by
  rw [le2_eq]
  show (!PySem.W.dataLt (tupI b) (tupI a)) = _
  rw [PySem.W.dataLt_tuple]
  exact congrArg _ (PySem.W.dataLt_ints b a)
def srt (L : LL) : LL := isort le2 L
theorem srt_iL (L : LL) : isort dLe (L.map iL) = (srt L).map iL := isort_map iL dLe L
theorem srt_tup (L : LL) : isort dLe (L.map tupI) = (srt L).map tupI := by
  rw [isort_map tupI dLe L]
  have : (fun a b => dLe (tupI a) (tupI b)) = le2 := by funext a b; exact dLe_tup a b
  rw [this]; rfl
theorem mem_srt {L : LL} {x : List Int} : x ∈ srt L ↔ x ∈ L := (isort_perm le2 L).mem_iff
theorem len_srt (L : LL) : (srt L).length = L.length := (isort_perm le2 L).length_eq
theorem nodup_srt {L : LL} (h : L.Nodup) : (srt L).Nodup := (isort_perm le2 L).nodup_iff.mpr h
theorem srt_sorted (L : LL) : (srt L).Pairwise fun a b => le2 a b = true := by
  have tr : ∀ a b c : List Int, le2 a b = true → le2 b c = true → le2 a c = true := fun a b c => dLe_tot.trans _ _ _
  have to : ∀ a b : List Int, (le2 a b || le2 b a) = true := fun a b => by
    rcases dLe_tot.total (iL a) (iL b) with h | h
    · show (dLe _ _ || _) = true; rw [h]; rfl
    · show (_ || dLe _ _) = true; rw [h]; exact Bool.or_true _
  have := List.pairwise_mergeSort (le := le2) tr to L
  rw [isort_eq tr to] at this
  exact this
theorem le2_anti {a b : List Int} (h1 : le2 a b = true) (h2 : le2 b a = true) : a = b := by
  rw [le2_eq] at h1 h2
  simp only [Bool.not_eq_true', decide_eq_false_iff_not] at h1 h2
  exact List.le_antisymm (List.not_lt.mp h1) (List.not_lt.mp h2)
theorem srt_id {L : LL} (h : L.Pairwise fun a b => le2 a b = true) : srt L = L := by
  induction L with
  | nil => rfl
  | cons x l ih =>
    rw [List.pairwise_cons] at h
    show insB le2 x (srt l) = _
    rw [ih h.2]
    cases l with
    | nil => rfl
    | cons y l => show (if le2 x y = true then _ else _) = _; rw [if_pos (h.1 y List.mem_cons_self)]
theorem iL_depth (a : List Int) : PyData.depth (iL a) ≤ 2 := by
  have h0 : ∀ l : List Int, PyData.depthAll (l.map PyData.int) ≤ 1 := fun l => by
    induction l with
    | nil => simp [PyData.depthAll]
    | cons x l ih => simp [PyData.depthAll, PyData.depth]; omega
  have := h0 a
  simp [PyData.depth]
  omega
theorem sorted_LL {L : LL} (h : L.length ≤ 1000000) : gSortedC (L.map iL) = some (.ow ((srt L).map iL)) := by
  unfold gSortedC
  rw [if_pos, srt_iL]
  simp only [Bool.and_eq_true, decide_eq_true_eq, List.all_eq_true, alikes, sortable1, Bool.or_eq_true]
  refine ⟨⟨⟨fun d hd e he => ?_, .inr fun d hd => ?_⟩, by rw [List.length_map, line_v]; omega⟩, fun d hd => ?_⟩
  · obtain ⟨a, _, rfl⟩ := List.mem_map.mp hd
    obtain ⟨b, _, rfl⟩ := List.mem_map.mp he
    simpa [PySem.W.alike] using alikeAll_ints a b
  · obtain ⟨a, _, rfl⟩ := List.mem_map.mp hd; rfl
  · obtain ⟨a, _, rfl⟩ := List.mem_map.mp hd
    have := iL_depth a
    omega
/-! ### apart, meets -/
def disj (a b : List Int) : Bool := !(a.any fun x => decide (x ∈ b))
theorem disj_iff {a b : List Int} : disj a b = true ↔ ∀ x ∈ a, x ∉ b := by
  simp [disj]
theorem v_apart (a b : List Int) (h : a.length ≤ 1000) : d_apart [iL a, iL b] = some (.ok (.fr (.bool (disj a b)))) := by
  have hc : compGo (sName 2) kYes (kBin gInA (gVar 2) (gVar 1)) [.fr (iL a), .fr (iL b), .un] (a.map PyData.int) = some (a.map fun x => .bool (decide (x ∈ b))) := by
    refine compGo_all _ _ _ _ _ _ fun x hx => ⟨_, rfl, ?_⟩
    show gInA (.int x) (iL b) = _
    exact Enc.int.inA (by decide) x b
  simp -implicitDefEqProofs only [iL] at hc
  simp -implicitDefEqProofs [d_apart, b_apart]
  rw [hc, Option.bind_some, fit_of (by simp; omega)]
  simp -implicitDefEqProofs [disj]
theorem v_meets (a b : List Int) (h : a.length ≤ 1000) : d_law_meets [iL a, iL b] = some (.ok (.fr (.bool (!disj a b)))) := by
  have hc : compGo (sName 2) (kB (kBin gInA (gVar 2) (gVar 1))) (gVar 2) [.fr (iL a), .fr (iL b), .un] (a.map PyData.int) = some ((a.filter fun x => decide (x ∈ b)).map PyData.int) := by
    refine compGo_map _ _ _ _ _ _ _ _ fun x hx => ⟨_, rfl, ?_, fun _ => rfl⟩
    show ((gInA (.int x) (iL b)).bind asB) = _
    rw [Enc.int.inA]
    rfl
  have hl : (a.filter fun x => decide (x ∈ b)).length ≤ a.length := List.length_filter_le _ _
  simp -implicitDefEqProofs only [iL] at hc
  simp -implicitDefEqProofs [d_law_meets, b_law_meets]
  rw [hc, Option.bind_some, fit_of (by rw [List.length_map]; omega)]
  have e : decide (0 < (a.filter fun x => decide (x ∈ b)).length) = !disj a b := by
    unfold disj
    rw [Bool.not_not]
    by_cases q : (a.any fun x => decide (x ∈ b)) = true
    · rw [q, decide_eq_true_iff, List.length_pos_iff_exists_mem]
      obtain ⟨x, hx, hb⟩ := List.any_eq_true.mp q
      exact ⟨x, List.mem_filter.mpr ⟨hx, hb⟩⟩
    · have q' : (a.any fun x => decide (x ∈ b)) = false := by simpa using q
      rw [q', decide_eq_false_iff_not]
      intro z
      obtain ⟨x, hx⟩ := List.length_pos_iff_exists_mem.mp z
      obtain ⟨h1, h2⟩ := List.mem_filter.mp hx
      exact q (List.any_eq_true.mpr ⟨x, h1, h2⟩)
  simp -implicitDefEqProofs
  rw [← e]
  simp
/-! ### all choices -/
def subs : Nat → LL
  | 0 => [[]]
  | k + 1 => subs k ++ (subs k).map (· ++ [(k : Int)])
theorem subs_len : ∀ k, (subs k).length = 2 ^ k
  | 0 => rfl
  | k + 1 => by rw [subs, List.length_append, List.length_map, subs_len k, Nat.pow_succ]; omega
theorem subs_le {k : Nat} (h : k ≤ 10) : (subs k).length ≤ 1024 := by
  rw [subs_len]
  exact Nat.pow_le_pow_right (n := 2) (by decide) h
theorem subs_mem {k : Nat} {t : List Int} (h : t ∈ subs k) : t.length ≤ k ∧ ∀ x ∈ t, 0 ≤ x ∧ x < k := by
  induction k generalizing t with
  | zero => simp [subs] at h; subst h; simp
  | succ k ih =>
    rw [subs, List.mem_append] at h
    rcases h with h | h
    · obtain ⟨a, b⟩ := ih h
      exact ⟨by omega, fun x hx => by have := b x hx; omega⟩
    · obtain ⟨u, hu, rfl⟩ := List.mem_map.mp h
      obtain ⟨a, b⟩ := ih hu
      refine ⟨by simp; omega, fun x hx => ?_⟩
      rcases List.mem_append.mp hx with hx | hx
      · have := b x hx; omega
      · simp at hx; subst hx; omega
theorem v_lists (n : Nat) (hn : n ≤ 10) : d_law_lists [.int (n : Int)] = some (.ok (.ow ((srt (subs n)).map iL))) := by
  have hc : ∀ (k : Nat) (u : Sl), k ≤ 10 → compGo (sName 3) kYes (kBin gAdd (gVar 3) (kData (kLst (kCons (gVar 2) kNil)))) [.fr (.int (n : Int)), .fr (iLL (subs k)), .fr (.int (k : Int)), .un] ((subs k).map iL) = some (((subs k).map (· ++ [(k : Int)])).map iL) := fun k u hk => by
    have := compGo_all iL (sName 3) (kBin gAdd (gVar 3) (kData (kLst (kCons (gVar 2) kNil)))) [.fr (.int (n : Int)), .fr (iLL (subs k)), .fr (.int (k : Int)), .un] (fun t => iL (t ++ [(k : Int)])) (subs k) fun t ht => ⟨_, rfl, by
      have := (subs_mem ht).1
      simp -implicitDefEqProofs [show t.length + 1 ≤ 16777216 by omega]⟩
    rw [this, List.map_map]
    rfl
  obtain ⟨ρ', e1, u2, u3, e2⟩ := forGo_ix (S := Unit) (fun i : Nat => PyData.int (i : Int)) (sName 2) (zSet 1 (kBin gAdd (gVar 1) (kData (kComp [3] (kQ (gVar 1)) (sName 3) kYes (kBin gAdd (gVar 3) (kData (kLst (kCons (gVar 2) kNil))))))))
    (fun i _ ρ => ∃ u2 u3, ρ = [.fr (.int (n : Int)), .fr (iLL (subs i)), u2, u3]) (fun _ _ => ()) (List.range n) 0 () [.fr (.int (n : Int)), .fr (iLL (subs 0)), .un, .un] ⟨_, _, rfl⟩ fun j a ha _ ρ ⟨u2, u3, e⟩ => by
    subst e
    obtain ⟨hj, rfl⟩ := range_get ha
    have h1 := hc a u3 (by omega)
    have h2 := subs_le (k := a) (by omega)
    refine ⟨_, [.fr (.int (n : Int)), .fr (iLL (subs (a + 1))), .fr (.int (a : Int)), u3], rfl, ?_, _, _, by rw [Nat.zero_add]⟩
    simp -implicitDefEqProofs only [iL, iLL] at h1
    simp -implicitDefEqProofs
    rw [show 0 + a = a by omega] at *
    rw [h1, Option.bind_some, fit_of (by simp; omega)]
    simp -implicitDefEqProofs [subs, show (subs a).length + (subs a).length ≤ 16777216 by omega]
  subst e2
  have h2 := subs_le (k := n) hn
  have h3 := sorted_LL (L := subs n) (by omega)
  have sN := sm_of (j := (n : Int)) (by omega) (by omega)
  simp -implicitDefEqProofs only [iL, iLL, List.length_range, Nat.zero_add] at e1 h3
  simp -implicitDefEqProofs [d_law_lists, b_law_lists, sN, rangeD_zero]
  have e0 : (iLL (subs 0)) = .list [.list []] := rfl
  simp -implicitDefEqProofs only [iL, iLL] at e0
  rw [← e0, e1, Option.bind_some]
  simp -implicitDefEqProofs [h3]
theorem v_choices (n : Nat) (hn : n ≤ 10) : d_choices [.int (n : Int)] = some (.ok (.ow ((srt (subs n)).map iL))) := by
  have hc : ∀ (k : Nat) (u : Sl), k ≤ 10 → compGo (sName 3) kYes (kData (kLst (kStar (kQ (gVar 3)) (kCons (gVar 2) kNil)))) [.fr (.int (n : Int)), .fr (iLL (subs k)), .fr (.int (k : Int)), .un] ((subs k).map iL) = some (((subs k).map (· ++ [(k : Int)])).map iL) := fun k u hk => by
    have := compGo_all iL (sName 3) (kData (kLst (kStar (kQ (gVar 3)) (kCons (gVar 2) kNil)))) [.fr (.int (n : Int)), .fr (iLL (subs k)), .fr (.int (k : Int)), .un] (fun t => iL (t ++ [(k : Int)])) (subs k) fun t ht => ⟨_, rfl, by
      have := (subs_mem ht).1
      simp -implicitDefEqProofs [show t.length + 1 ≤ 16777216 by omega]⟩
    rw [this, List.map_map]
    rfl
  obtain ⟨ρ', e1, u2, u3, e2⟩ := forGo_ix (S := Unit) (fun i : Nat => PyData.int (i : Int)) (sName 2) (zSet 1 (kBin gAdd (gVar 1) (kData (kComp [3] (kQ (gVar 1)) (sName 3) kYes (kData (kLst (kStar (kQ (gVar 3)) (kCons (gVar 2) kNil))))))))
    (fun i _ ρ => ∃ u2 u3, ρ = [.fr (.int (n : Int)), .fr (iLL (subs i)), u2, u3]) (fun _ _ => ()) (List.range n) 0 () [.fr (.int (n : Int)), .fr (iLL (subs 0)), .un, .un] ⟨_, _, rfl⟩ fun j a ha _ ρ ⟨u2, u3, e⟩ => by
    subst e
    obtain ⟨hj, rfl⟩ := range_get ha
    have h1 := hc a u3 (by omega)
    have h2 := subs_le (k := a) (by omega)
    refine ⟨_, [.fr (.int (n : Int)), .fr (iLL (subs (a + 1))), .fr (.int (a : Int)), u3], rfl, ?_, _, _, by rw [Nat.zero_add]⟩
    simp -implicitDefEqProofs only [iL, iLL] at h1
    simp -implicitDefEqProofs
    rw [show 0 + a = a by omega] at *
    rw [h1, Option.bind_some, fit_of (by simp; omega)]
    simp -implicitDefEqProofs [subs, show (subs a).length + (subs a).length ≤ 16777216 by omega]
  subst e2
  have h2 := subs_le (k := n) hn
  have h3 := sorted_LL (L := subs n) (by omega)
  have sN := sm_of (j := (n : Int)) (by omega) (by omega)
  simp -implicitDefEqProofs only [iL, iLL, List.length_range, Nat.zero_add] at e1 h3
  simp -implicitDefEqProofs [d_choices, b_choices, sN, rangeD_zero]
  have e0 : (iLL (subs 0)) = .list [.list []] := rfl
  simp -implicitDefEqProofs only [iL, iLL] at e0
  rw [← e0, e1, Option.bind_some]
  simp -implicitDefEqProofs [h3]
end K79

set_option Elab.async false
set_option linter.all false
set_option maxRecDepth 100000
set_option maxHeartbeats 2000000
namespace K79
open PySem PySem.Spec PyProof.Rows L2 DL CM
theorem atI_iLL (S : LL) (i : Int) (h0 : 0 ≤ i) (h1 : i < S.length) : atI (S.map iL) i = some (iL (S.getD i.toNat [])) := by
  obtain ⟨k, rfl⟩ := Int.eq_ofNat_of_zero_le h0
  have hk : k < S.length := by omega
  rw [atI_map_nat _ _ _ hk]
  simp [List.getD_eq_getElem?_getD, List.getElem?_eq_getElem hk]
theorem disj_comm (a b : List Int) : disj a b = disj b a := by
  have h : disj a b = true ↔ disj b a = true := by
    rw [disj_iff, disj_iff]
    exact ⟨fun h x hx hy => h x hy hx, fun h x hx hy => h x hy hx⟩
  cases h1 : disj a b <;> cases h2 : disj b a <;> simp_all
abbrev at_ (S : LL) (i : Int) : List Int := S.getD i.toNat []
def PkB (S : LL) (one : List Int) : Bool := decide (one.Pairwise fun i j => disj (at_ S i) (at_ S j) = true)
theorem PkB_snoc (S : LL) (one : List Int) (k : Int) : PkB S (one ++ [k]) = (PkB S one && one.all fun j => disj (at_ S j) (at_ S k)) := by
  unfold PkB
  rw [Bool.eq_iff_iff]
  simp only [List.pairwise_append, List.pairwise_singleton, true_and, Bool.and_eq_true, decide_eq_true_eq, List.all_eq_true, List.mem_singleton, forall_eq]
structure FS (n : Nat) (S : LL) : Prop where
  n7 : n ≤ 7
  m : S.length ≤ 10
  e : ∀ s ∈ S, s.length ≤ 10 ∧ ∀ x ∈ s, 0 ≤ x ∧ x < n
theorem FS.at {n : Nat} {S : LL} (h : FS n S) (i : Int) : (at_ S i).length ≤ 10 := by
  show (S.getD _ _).length ≤ 10
  rw [List.getD_eq_getElem?_getD]
  cases e : S[i.toNat]? with
  | none => simp
  | some s => exact (h.e s (List.mem_of_getElem? e)).1
def packsL (S : LL) : LL := (subs S.length).filter (PkB S)
theorem v_packings_of {n : Nat} {S : LL} (h : FS n S) : d_packings_of [iLL S] = some (.ok (.ow ((srt (packsL S)).map iL))) := by
  have hm := h.m
  have hc : ∀ (k : Nat) (u : Sl), k < S.length → compGo (sName 4) (kB (kData (kCall gAll (kRL (kComp [5] (kQ (gVar 4)) (sName 5) kYes (kData (kCallD d_apart (kCons (kIx (kQ (gVar 0)) (gVar 5)) (kCons (gVar 3) kNil))))))))) (kData (kLst (kStar (kQ (gVar 4)) (kCons (gVar 2) kNil)))) [.fr (iLL S), .fr (iLL ((subs k).filter (PkB S))), .fr (.int (k : Int)), .fr (iL (at_ S k)), .un, u] (((subs k).filter (PkB S)).map iL)
      = some (((((subs k).filter (PkB S)).filter fun one => one.all fun j => disj (at_ S j) (at_ S k)).map (· ++ [(k : Int)])).map iL) := fun k u hk => by
    have := compGo_map iL (sName 4) (kB (kData (kCall gAll (kRL (kComp [5] (kQ (gVar 4)) (sName 5) kYes (kData (kCallD d_apart (kCons (kIx (kQ (gVar 0)) (gVar 5)) (kCons (gVar 3) kNil))))))))) (kData (kLst (kStar (kQ (gVar 4)) (kCons (gVar 2) kNil)))) [.fr (iLL S), .fr (iLL ((subs k).filter (PkB S))), .fr (.int (k : Int)), .fr (iL (at_ S k)), .un, u] (fun one => one.all fun j => disj (at_ S j) (at_ S k)) (fun t => iL (t ++ [(k : Int)])) ((subs k).filter (PkB S)) fun t ht => ⟨_, rfl, by
      obtain ⟨b1, b2⟩ := subs_mem ((List.mem_filter.mp ht).1)
      have hi : compGo (sName 5) kYes (kData (kCallD d_apart (kCons (kIx (kQ (gVar 0)) (gVar 5)) (kCons (gVar 3) kNil)))) [.fr (iLL S), .fr (iLL ((subs k).filter (PkB S))), .fr (.int (k : Int)), .fr (iL (at_ S k)), .fr (iL t), .un] (t.map PyData.int) = some (t.map fun j => .bool (disj (at_ S j) (at_ S k))) := by
        refine compGo_all _ _ _ _ _ _ fun j hj => ⟨_, rfl, ?_⟩
        have hb := b2 j hj
        have ha := atI_iLL S j hb.1 (by omega)
        have hv := v_apart (at_ S j) (at_ S k) (by have := h.at j; omega)
        simp -implicitDefEqProofs only [iL, iLL, at_] at ha hv
        simp -implicitDefEqProofs [-List.getD_eq_getElem?_getD, ha, hv]
        try rfl
      simp -implicitDefEqProofs only [iL, iLL] at hi
      simp -implicitDefEqProofs [-List.getD_eq_getElem?_getD]
      rw [hi, Option.bind_some, fit_of (by simp; omega)]
      simp -implicitDefEqProofs [-List.getD_eq_getElem?_getD], fun _ => by
      obtain ⟨b1, b2⟩ := subs_mem ((List.mem_filter.mp ht).1)
      simp -implicitDefEqProofs [show t.length + 1 ≤ 16777216 by omega]⟩
    rw [this, List.map_map]
    rfl
  have hstep : ∀ k, (subs (k + 1)).filter (PkB S) = (subs k).filter (PkB S) ++ (((subs k).filter (PkB S)).filter fun one => one.all fun j => disj (at_ S j) (at_ S k)).map (· ++ [(k : Int)]) := fun k => by
    rw [subs, List.filter_append, List.filter_map, List.filter_filter]
    congr 3
    funext one
    show PkB S (one ++ [(k : Int)]) = _
    rw [PkB_snoc, Bool.and_comm]
  obtain ⟨ρ', e1, u2, u3, u4, u5, e2⟩ := forGo_ix (S := Unit) (fun p : List Int × Nat => PyData.tuple [.int (p.2 : Int), iL p.1]) (sTup 2 (sCons (sName 2) (sCons (sName 3) sNil))) (zSet 1 (kBin gAdd (gVar 1) (kData (kComp [4] (kQ (gVar 1)) (sName 4) (kB (kData (kCall gAll (kRL (kComp [5] (kQ (gVar 4)) (sName 5) kYes (kData (kCallD d_apart (kCons (kIx (kQ (gVar 0)) (gVar 5)) (kCons (gVar 3) kNil))))))))) (kData (kLst (kStar (kQ (gVar 4)) (kCons (gVar 2) kNil))))))))
    (fun i _ ρ => ∃ u2 u3 u4 u5, ρ = [.fr (iLL S), .fr (iLL ((subs i).filter (PkB S))), u2, u3, u4, u5]) (fun _ _ => ()) S.zipIdx 0 () [.fr (iLL S), .fr (iLL ((subs 0).filter (PkB S))), .un, .un, .un, .un] ⟨_, _, _, _, rfl⟩ fun j p hp _ ρ ⟨u2, u3, u4, u5, e⟩ => by
    subst e
    have hp' : p = (at_ S j, j) ∧ j < S.length := by
      rw [List.getElem?_zipIdx] at hp
      cases q : S[j]? with
      | none => rw [q] at hp; cases hp
      | some s =>
        rw [q] at hp
        cases hp
        exact ⟨by simp [at_, List.getD_eq_getElem?_getD, q], (List.getElem?_eq_some_iff.mp q).1⟩
    obtain ⟨rfl, hj⟩ := hp'
    have h1 := hc j u5 hj
    have h2 := subs_le (k := j) (by omega)
    have h3 := List.length_filter_le (PkB S) (subs j)
    have h4 := List.length_filter_le (fun one => one.all fun i => disj (at_ S i) (at_ S j)) ((subs j).filter (PkB S))
    refine ⟨_, [.fr (iLL S), .fr (iLL ((subs (j + 1)).filter (PkB S))), .fr (.int (j : Int)), .fr (iL (at_ S j)), u4, u5], rfl, ?_, _, _, _, _, by rw [Nat.zero_add]⟩
    rw [hstep j]
    rw [show 0 + j = j by omega] at *
    simp -implicitDefEqProofs only [iL, iLL] at h1 ⊢
    simp -implicitDefEqProofs only [zSet, kBin, kData, kComp, kQ, gVar, Option.bind_some, List.getElem?_cons_zero, List.getElem?_cons_succ, asQ, wipeE_nil, wipeE_cons, List.set_cons_zero, List.set_cons_succ]
    rw [h1, Option.bind_some, fit_of (by rw [List.length_map, List.length_map]; omega)]
    have h5 : ((subs j).filter (PkB S)).length + (((subs j).filter (PkB S)).filter fun one => one.all fun i => disj (at_ S i) (at_ S j)).length ≤ 16777216 := by omega
    simp -implicitDefEqProofs only [Option.bind_some, data_fr, gAdd, List.length_map, line_v, h5, if_true, List.map_append, Rv.data]
  subst e2
  have h2 := subs_le (k := S.length) hm
  have h3 := List.length_filter_le (PkB S) (subs S.length)
  have h4 := sorted_LL (L := packsL S) (by unfold packsL; omega)
  have he := enumD_map iL S 0
  rw [List.length_zipIdx, Nat.zero_add] at e1
  unfold packsL at h4 ⊢
  try simp -implicitDefEqProofs only [iL, iLL] at e1
  try simp -implicitDefEqProofs only [iL, iLL] at h4
  try simp -implicitDefEqProofs only [iL, iLL] at he
  simp -implicitDefEqProofs [d_packings_of, b_packings_of, he]
  have e0 : PyData.list (((subs 0).filter (PkB S)).map iL) = .list [.list []] := rfl
  try simp -implicitDefEqProofs only [iL] at e0
  rw [← e0, e1, Option.bind_some]
  simp -implicitDefEqProofs [h4]
theorem v_is_packing {n : Nat} {S : LL} (h : FS n S) (t : List Int) (ht : t ∈ subs S.length) : d_law_is_packing [iLL S, iL t] = some (.ok (.fr (.bool (PkB S t)))) := by
  obtain ⟨b1, b2⟩ := subs_mem ht
  have hm := h.m
  have inner : ∀ (a : Nat) (u3 : Sl), a < t.length → (∀ ρ, (∃ u3, ρ = [Sl.fr (iLL S), .fr (iL t), .fr (.int (a : Int)), u3]) →
      (∀ b, (List.range a).find? (fun b => !disj (at_ S (t.getD a 0)) (at_ S (t.getD b 0))) = some b → forGo (sName 3) (zIf (kB (kData (kCallD d_law_meets (kCons (kIx (kQ (gVar 0)) (kIx (kQ (gVar 1)) (gVar 2))) (kCons (kIx (kQ (gVar 0)) (kIx (kQ (gVar 1)) (gVar 3))) kNil))))) (zRet (kFr (kC (.bool false)))) zNext) ((List.range a).map fun i : Nat => .int (i : Int)) ρ = some (.rt (.fr (.bool false)))) ∧
      ((List.range a).find? (fun b => !disj (at_ S (t.getD a 0)) (at_ S (t.getD b 0))) = none → ∃ ρ', forGo (sName 3) (zIf (kB (kData (kCallD d_law_meets (kCons (kIx (kQ (gVar 0)) (kIx (kQ (gVar 1)) (gVar 2))) (kCons (kIx (kQ (gVar 0)) (kIx (kQ (gVar 1)) (gVar 3))) kNil))))) (zRet (kFr (kC (.bool false)))) zNext) ((List.range a).map fun i : Nat => .int (i : Int)) ρ = some (.nx ρ') ∧ ∃ u3, ρ' = [Sl.fr (iLL S), .fr (iL t), .fr (.int (a : Int)), u3])) := fun a u3 ha => by
    refine forGo_find (fun i : Nat => PyData.int (i : Int)) _ _ (fun ρ => ∃ u3, ρ = [Sl.fr (iLL S), .fr (iL t), .fr (.int (a : Int)), u3]) (fun b => !disj (at_ S (t.getD a 0)) (at_ S (t.getD b 0))) (fun _ => .fr (.bool false)) (List.range a) fun b hb ρ ⟨u3, e⟩ => ?_
    subst e
    rw [List.mem_range] at hb
    have a1 := atI_iL t a ha
    have a2 := atI_iL t b (by omega)
    have c1 := b2 (t.getD a 0) (by rw [getD_at t 0 ha]; exact List.getElem_mem _)
    have c2 := b2 (t.getD b 0) (by rw [getD_at t 0 (by omega : b < t.length)]; exact List.getElem_mem _)
    have d1 := atI_iLL S _ c1.1 c1.2
    have d2 := atI_iLL S _ c2.1 c2.2
    have hv := v_meets (at_ S (t.getD a 0)) (at_ S (t.getD b 0)) (by have := h.at (t.getD a 0); omega)
    simp -implicitDefEqProofs only [iL, iLL, at_] at d1 d2 hv
    refine ⟨_, rfl, fun hp => ?_, fun hp => ⟨_, ?_, .fr (.int (b : Int)), rfl⟩⟩
    · simp -implicitDefEqProofs only [at_] at hp
      simp -implicitDefEqProofs [-List.getD_eq_getElem?_getD, a1, a2, d1, d2, hv, hp]
    · simp -implicitDefEqProofs only [at_] at hp
      simp -implicitDefEqProofs [-List.getD_eq_getElem?_getD, a1, a2, d1, d2, hv, hp]
  have outer := forGo_find (fun i : Nat => PyData.int (i : Int)) (sName 2) (zFor (kRange1 (kCons (gVar 2) kNil)) (sName 3) (zIf (kB (kData (kCallD d_law_meets (kCons (kIx (kQ (gVar 0)) (kIx (kQ (gVar 1)) (gVar 2))) (kCons (kIx (kQ (gVar 0)) (kIx (kQ (gVar 1)) (gVar 3))) kNil))))) (zRet (kFr (kC (.bool false)))) zNext)) (fun ρ => ∃ u2 u3, ρ = [Sl.fr (iLL S), .fr (iL t), u2, u3]) (fun a => (List.range a).any fun b => !disj (at_ S (t.getD a 0)) (at_ S (t.getD b 0))) (fun _ => .fr (.bool false)) (List.range t.length) fun a ha ρ ⟨u2, u3, e⟩ => by
    subst e
    rw [List.mem_range] at ha
    obtain ⟨i1, i2⟩ := inner a u3 ha [Sl.fr (iLL S), .fr (iL t), .fr (.int (a : Int)), u3] ⟨_, rfl⟩
    have sA := sm_of (j := (a : Int)) (by omega) (by omega)
    refine ⟨_, rfl, fun hp => ?_, fun hp => ?_⟩
    · cases q : (List.range a).find? (fun b => !disj (at_ S (t.getD a 0)) (at_ S (t.getD b 0))) with
      | none =>
        rw [List.find?_eq_none] at q
        obtain ⟨b, hb, hb2⟩ := List.any_eq_true.mp hp
        exact absurd hb2 (q b hb)
      | some b =>
        have := i1 b q
        show (kRange1 (kCons (gVar 2) kNil) [Sl.fr (iLL S), .fr (iL t), .fr (.int (a : Int)), u3]).bind _ = _
        simp -implicitDefEqProofs [sA, rangeD_zero]
        simpa using this
    · cases q : (List.range a).find? (fun b => !disj (at_ S (t.getD a 0)) (at_ S (t.getD b 0))) with
      | none =>
        obtain ⟨ρ', e1, u3', e2⟩ := i2 q
        refine ⟨ρ', ?_, _, u3', e2⟩
        show (kRange1 (kCons (gVar 2) kNil) [Sl.fr (iLL S), .fr (iL t), .fr (.int (a : Int)), u3]).bind _ = _
        simp -implicitDefEqProofs [sA, rangeD_zero]
        simpa using e1
      | some b =>
        have h1 := List.find?_some q
        have h2 := List.mem_of_find?_eq_some q
        have : ((List.range a).any fun b => !disj (at_ S (t.getD a 0)) (at_ S (t.getD b 0))) = true := List.any_eq_true.mpr ⟨b, h2, h1⟩
        rw [this] at hp; cases hp
  obtain ⟨o1, o2⟩ := outer [Sl.fr (iLL S), .fr (iL t), .un, .un] ⟨_, _, rfl⟩
  have sT := sm_of (j := (t.length : Int)) (by omega) (by omega)
  have key : PkB S t = !((List.range t.length).any fun a => (List.range a).any fun b => !disj (at_ S (t.getD a 0)) (at_ S (t.getD b 0))) := by
    unfold PkB
    rw [Bool.eq_iff_iff]
    simp only [decide_eq_true_eq, List.pairwise_iff_getElem, Bool.not_eq_true', List.any_eq_false, List.mem_range, Bool.not_eq_true', List.any_eq_true, not_exists, not_and, Bool.not_eq_false]
    constructor
    · intro hh a ha b hb
      have := hh b a (by omega) ha hb
      rw [getD_at t 0 ha, getD_at t 0 (by omega : b < t.length), disj_comm]
      simpa using this
    · intro hh i j hi hj hij
      have := hh j hj i hij
      rw [getD_at t 0 hj, getD_at t 0 hi, disj_comm] at this
      simpa using this
  rw [key]
  cases q : (List.range t.length).find? (fun a => (List.range a).any fun b => !disj (at_ S (t.getD a 0)) (at_ S (t.getD b 0))) with
  | none =>
    obtain ⟨ρ', e1, e2⟩ := o2 q
    have hq : ((List.range t.length).any fun a => (List.range a).any fun b => !disj (at_ S (t.getD a 0)) (at_ S (t.getD b 0))) = false := by
      rw [List.find?_eq_none] at q
      rw [List.any_eq_false]
      exact q
    rw [hq]
    simp -implicitDefEqProofs only [iL, iLL] at e1
    simp -implicitDefEqProofs [d_law_is_packing, b_law_is_packing, sT, rangeD_zero]
    rw [e1]
    simp -implicitDefEqProofs
  | some a =>
    have e1 := o1 a q
    have hq : ((List.range t.length).any fun a => (List.range a).any fun b => !disj (at_ S (t.getD a 0)) (at_ S (t.getD b 0))) = true := List.any_eq_true.mpr ⟨a, List.mem_of_find?_eq_some q, List.find?_some (p := fun a => (List.range a).any fun b => !disj (at_ S (t.getD a 0)) (at_ S (t.getD b 0))) q⟩
    rw [hq]
    simp -implicitDefEqProofs only [iL, iLL] at e1
    simp -implicitDefEqProofs [d_law_is_packing, b_law_is_packing, sT, rangeD_zero]
    rw [e1]
    simp -implicitDefEqProofs
end K79

set_option Elab.async false
set_option linter.all false
set_option maxRecDepth 100000
set_option maxHeartbeats 2000000
namespace K79
open PySem PySem.Spec PyProof.Rows L2 DL CM
theorem v_law_packings {n : Nat} {S : LL} (h : FS n S) : d_law_packings [iLL S] = some (.ok (.ow (((srt (subs S.length)).filter (PkB S)).map iL))) := by
  have hm := h.m
  have hl := v_lists S.length hm
  have hc : compGo (sName 1) (kB (kData (kCallD d_law_is_packing (kCons (gVar 0) (kCons (gVar 1) kNil))))) (gVar 1) [.fr (iLL S), .un] ((srt (subs S.length)).map iL) = some (((srt (subs S.length)).filter (PkB S)).map iL) := by
    refine compGo_map _ _ _ _ _ _ _ _ fun t ht => ⟨_, rfl, ?_, fun _ => rfl⟩
    have hv := v_is_packing h t (mem_srt.mp ht)
    simp -implicitDefEqProofs only [iL, iLL] at hv
    simp -implicitDefEqProofs [hv]
  have h2 := subs_le hm
  have h3 := List.length_filter_le (PkB S) (srt (subs S.length))
  rw [len_srt] at h3
  try simp -implicitDefEqProofs only [iL, iLL] at hl
  try simp -implicitDefEqProofs only [iL, iLL] at hc
  simp -implicitDefEqProofs [d_law_packings, b_law_packings, hl]
  rw [hc, Option.bind_some, fit_of (by rw [List.length_map]; omega)]
  simp -implicitDefEqProofs
/-! ### covers -/
def CvB (S : LL) (t : List Int) : Bool := S.all fun s => !disj s t
theorem v_covers_of {n : Nat} {S : LL} (h : FS n S) : d_covers_of [.int (n : Int), iLL S] = some (.ok (.ow (((srt (subs n)).filter (CvB S)).map iL))) := by
  have hm := h.m
  have hn := h.n7
  have hl := v_choices n (by omega)
  have hc : compGo (sName 2) (kNot (kB (kData (kCall gAny (kRL (kComp [3] (kQ (gVar 1)) (sName 3) kYes (kData (kCallD d_apart (kCons (gVar 3) (kCons (gVar 2) kNil)))))))))) (gVar 2) [.fr (.int (n : Int)), .fr (iLL S), .un, .un] ((srt (subs n)).map iL) = some (((srt (subs n)).filter (CvB S)).map iL) := by
    refine compGo_map _ _ _ _ _ _ _ _ fun t ht => ⟨_, rfl, ?_, fun _ => rfl⟩
    have hi : compGo (sName 3) kYes (kData (kCallD d_apart (kCons (gVar 3) (kCons (gVar 2) kNil)))) [.fr (.int (n : Int)), .fr (iLL S), .fr (iL t), .un] (S.map iL) = some (S.map fun s => .bool (disj s t)) := by
      refine compGo_all _ _ _ _ _ _ fun s hs => ⟨_, rfl, ?_⟩
      have hv := v_apart s t (by have := (h.e s hs).1; omega)
      simp -implicitDefEqProofs only [iL] at hv
      simp -implicitDefEqProofs [hv]
    try simp -implicitDefEqProofs only [iL, iLL] at hi
    simp -implicitDefEqProofs
    rw [hi, Option.bind_some, fit_of (by simp; omega)]
    simp -implicitDefEqProofs [CvB]
    rw [Bool.eq_iff_iff]
    simp
  have h2 := subs_le (k := n) (by omega)
  have h3 := List.length_filter_le (CvB S) (srt (subs n))
  rw [len_srt] at h3
  try simp -implicitDefEqProofs only [iL, iLL] at hl
  try simp -implicitDefEqProofs only [iL, iLL] at hc
  simp -implicitDefEqProofs [d_covers_of, b_covers_of, hl]
  rw [hc, Option.bind_some, fit_of (by rw [List.length_map]; omega)]
  simp -implicitDefEqProofs
theorem v_law_covers {n : Nat} {S : LL} (h : FS n S) : d_law_covers [.int (n : Int), iLL S] = some (.ok (.ow (((srt (subs n)).filter (CvB S)).map iL))) := by
  have hm := h.m
  have hn := h.n7
  have hl := v_lists n (by omega)
  have hc : compGo (sName 2) (kB (kBin gEqA (kData (kCall gLen (kQ (kData (kComp [3] (kQ (gVar 1)) (sName 3) (kNot (kB (kData (kCallD d_law_meets (kCons (gVar 3) (kCons (gVar 2) kNil)))))) (gVar 3)))))) (kC (.int 0)))) (gVar 2) [.fr (.int (n : Int)), .fr (iLL S), .un, .un] ((srt (subs n)).map iL) = some (((srt (subs n)).filter (CvB S)).map iL) := by
    refine compGo_map _ _ _ _ _ _ _ _ fun t ht => ⟨_, rfl, ?_, fun _ => rfl⟩
    have hi : compGo (sName 3) (kNot (kB (kData (kCallD d_law_meets (kCons (gVar 3) (kCons (gVar 2) kNil)))))) (gVar 3) [.fr (.int (n : Int)), .fr (iLL S), .fr (iL t), .un] (S.map iL) = some ((S.filter fun s => disj s t).map iL) := by
      refine compGo_map _ _ _ _ _ _ _ _ fun s hs => ⟨_, rfl, ?_, fun _ => rfl⟩
      have hv := v_meets s t (by have := (h.e s hs).1; omega)
      simp -implicitDefEqProofs only [iL] at hv
      simp -implicitDefEqProofs [hv]
    have h4 := List.length_filter_le (fun s => disj s t) S
    try simp -implicitDefEqProofs only [iL, iLL] at hi
    have e : gEqA (.int ((S.filter fun s => disj s t).length : Int)) (.int 0) = some (.bool (decide (((S.filter fun s => disj s t).length : Int) = 0))) := Enc.int.eqA (by decide) _ _
    simp -implicitDefEqProofs [-gEqA]
    rw [hi, Option.bind_some, fit_of (by rw [List.length_map]; omega)]
    simp -implicitDefEqProofs [-gEqA, e, CvB]
    rw [Bool.eq_iff_iff]
    simp
  have h2 := subs_le (k := n) (by omega)
  have h3 := List.length_filter_le (CvB S) (srt (subs n))
  rw [len_srt] at h3
  try simp -implicitDefEqProofs only [iL, iLL] at hl
  try simp -implicitDefEqProofs only [iL, iLL] at hc
  simp -implicitDefEqProofs [d_law_covers, b_law_covers, hl]
  rw [hc, Option.bind_some, fit_of (by rw [List.length_map]; omega)]
  simp -implicitDefEqProofs
/-! ### most, least -/
theorem foldl_max : ∀ (xs : List Int) (a : Int), (∀ x ∈ a :: xs, x ≤ xs.foldl max a) ∧ xs.foldl max a ∈ a :: xs
  | [], a => by simp
  | x :: xs, a => by
    obtain ⟨h1, h2⟩ := foldl_max xs (max a x)
    rw [List.foldl_cons]
    refine ⟨fun y hy => ?_, ?_⟩
    · have h3 := h1 (max a x) List.mem_cons_self
      rcases List.mem_cons.mp hy with rfl | hy
      · omega
      · rcases List.mem_cons.mp hy with rfl | hy
        · omega
        · exact h1 y (List.mem_cons_of_mem _ hy)
    · rcases List.mem_cons.mp h2 with h | h
      · rw [h]; rcases Int.le_total a x with q | q
        · rw [Int.max_eq_right q]; simp
        · rw [Int.max_eq_left q]; simp
      · exact List.mem_cons_of_mem _ (List.mem_cons_of_mem _ h)
theorem foldl_min : ∀ (xs : List Int) (a : Int), (∀ x ∈ a :: xs, xs.foldl min a ≤ x) ∧ xs.foldl min a ∈ a :: xs
  | [], a => by simp
  | x :: xs, a => by
    obtain ⟨h1, h2⟩ := foldl_min xs (min a x)
    rw [List.foldl_cons]
    refine ⟨fun y hy => ?_, ?_⟩
    · have h3 := h1 (min a x) List.mem_cons_self
      rcases List.mem_cons.mp hy with rfl | hy
      · omega
      · rcases List.mem_cons.mp hy with rfl | hy
        · omega
        · exact h1 y (List.mem_cons_of_mem _ hy)
    · rcases List.mem_cons.mp h2 with h | h
      · rw [h]; rcases Int.le_total a x with q | q
        · rw [Int.min_eq_left q]; simp
        · rw [Int.min_eq_right q]; simp
      · exact List.mem_cons_of_mem _ (List.mem_cons_of_mem _ h)
def MaxLen (L : LL) (m : Int) : Prop := (∃ t ∈ L, (t.length : Int) = m) ∧ ∀ t ∈ L, (t.length : Int) ≤ m
def MinLen (L : LL) (m : Int) : Prop := (∃ t ∈ L, (t.length : Int) = m) ∧ ∀ t ∈ L, m ≤ (t.length : Int)
theorem MaxLen.eq {L M : LL} {a b : Int} (h : MaxLen L a) (g : MaxLen M b) (e : ∀ t, t ∈ L ↔ t ∈ M) : a = b := by
  obtain ⟨⟨t, h1, h2⟩, h3⟩ := h
  obtain ⟨⟨u, g1, g2⟩, g3⟩ := g
  have := g3 t ((e t).mp h1)
  have := h3 u ((e u).mpr g1)
  omega
theorem MinLen.eq {L M : LL} {a b : Int} (h : MinLen L a) (g : MinLen M b) (e : ∀ t, t ∈ L ↔ t ∈ M) : a = b := by
  obtain ⟨⟨t, h1, h2⟩, h3⟩ := h
  obtain ⟨⟨u, g1, g2⟩, g3⟩ := g
  have := g3 t ((e t).mp h1)
  have := h3 u ((e u).mpr g1)
  omega
theorem v_max {L : LL} (h : L ≠ []) : ∃ m, gMax (L.map fun t => .int (t.length : Int)) = some (.fr (.int m)) ∧ MaxLen L m := by
  cases L with
  | nil => exact absurd rfl h
  | cons t L =>
    obtain ⟨h1, h2⟩ := foldl_max (L.map fun t => (t.length : Int)) (t.length : Int)
    refine ⟨(L.map fun t => (t.length : Int)).foldl max (t.length : Int), ?_, ?_, ?_⟩
    rotate_left
    · have : (L.map fun t => (t.length : Int)).foldl max (t.length : Int) ∈ (t :: L).map fun t => (t.length : Int) := h2
      obtain ⟨u, hu, e⟩ := List.mem_map.mp this
      exact ⟨u, hu, e⟩
    · intro u hu
      exact h1 _ (show (u.length : Int) ∈ (t :: L).map fun t => (t.length : Int) from List.mem_map.mpr ⟨u, hu, rfl⟩)
    · unfold gMax
      rw [intsOf_fn]
      rfl
theorem v_min {L : LL} (h : L ≠ []) : ∃ m, gMin (L.map fun t => .int (t.length : Int)) = some (.fr (.int m)) ∧ MinLen L m := by
  cases L with
  | nil => exact absurd rfl h
  | cons t L =>
    obtain ⟨h1, h2⟩ := foldl_min (L.map fun t => (t.length : Int)) (t.length : Int)
    refine ⟨(L.map fun t => (t.length : Int)).foldl min (t.length : Int), ?_, ?_, ?_⟩
    rotate_left
    · have : (L.map fun t => (t.length : Int)).foldl min (t.length : Int) ∈ (t :: L).map fun t => (t.length : Int) := h2
      obtain ⟨u, hu, e⟩ := List.mem_map.mp this
      exact ⟨u, hu, e⟩
    · intro u hu
      exact h1 _ (show (u.length : Int) ∈ (t :: L).map fun t => (t.length : Int) from List.mem_map.mpr ⟨u, hu, rfl⟩)
    · unfold gMin
      rw [intsOf_fn]
      rfl
end K79

set_option Elab.async false
set_option linter.all false
set_option maxRecDepth 100000
set_option maxHeartbeats 2000000
namespace K79
open PySem PySem.Spec PyProof.Rows L2 DL CM
def rng (n : Nat) : List Int := (List.range n).map fun i : Nat => (i : Int)
theorem rng_succ (n : Nat) : rng (n + 1) = rng n ++ [(n : Int)] := by
  unfold rng
  rw [List.range_succ, List.map_append]
  rfl
theorem mem_rng {n : Nat} {x : Int} : x ∈ rng n ↔ 0 ≤ x ∧ x < n := by
  unfold rng
  rw [List.mem_map]
  constructor
  · rintro ⟨i, hi, rfl⟩
    rw [List.mem_range] at hi
    omega
  · rintro ⟨h0, h1⟩
    obtain ⟨k, rfl⟩ := Int.eq_ofNat_of_zero_le h0
    exact ⟨k, List.mem_range.mpr (by omega), rfl⟩
theorem rng_sub (n : Nat) (p : Int → Bool) : (rng n).filter p ∈ subs n := by
  induction n with
  | zero => simp [rng, subs]
  | succ n ih =>
    rw [rng_succ, List.filter_append, subs, List.mem_append]
    cases h : p n with
    | true => exact .inr (List.mem_map.mpr ⟨_, ih, by simp [h]⟩)
    | false => exact .inl (by simpa [h] using ih)
theorem nil_subs : ∀ n, ([] : List Int) ∈ subs n
  | 0 => by simp [subs]
  | n + 1 => by rw [subs, List.mem_append]; exact .inl (nil_subs n)
def coversL (n : Nat) (S : LL) : LL := (subs n).filter (CvB S)
theorem cv_iff {S : LL} {t : List Int} : CvB S t = true ↔ ∀ s ∈ S, ∃ x ∈ s, x ∈ t := by
  unfold CvB
  rw [List.all_eq_true]
  constructor
  · intro h s hs
    have := h s hs
    simp only [disj, Bool.not_not, List.any_eq_true, decide_eq_true_eq] at this
    exact this
  · intro h s hs
    simp only [disj, Bool.not_not, List.any_eq_true, decide_eq_true_eq]
    exact h s hs
theorem packs_ne (S : LL) : packsL S ≠ [] := fun z => by
  have : ([] : List Int) ∈ packsL S := List.mem_filter.mpr ⟨nil_subs _, by simp [PkB]⟩
  rw [z] at this
  cases this
theorem covers_ne {n : Nat} {S : LL} (h : FS n S) (h0 : [] ∉ S) : coversL n S ≠ [] := fun z => by
  have : (rng n).filter (fun _ => true) ∈ coversL n S := List.mem_filter.mpr ⟨rng_sub n _, cv_iff.mpr fun s hs => by
    cases s with
    | nil => exact absurd hs h0
    | cons x s => exact ⟨x, List.mem_cons_self, List.mem_filter.mpr ⟨mem_rng.mpr ((h.e _ hs).2 x List.mem_cons_self), rfl⟩⟩⟩
  rw [z] at this
  cases this
/-- packs, as the document says it -/
def PKP (n : Nat) (S : LL) : Prop := S = [] ∨ [] ∈ S ∨ ∃ m, MaxLen (packsL S) m ∧ MinLen (coversL n S) m
theorem mem_fs {L : LL} {p : List Int → Bool} {t : List Int} : t ∈ (srt L).filter p ↔ t ∈ L.filter p := by
  rw [List.mem_filter, List.mem_filter, mem_srt]
theorem ne_of_mem_iff {L M : LL} (e : ∀ t, t ∈ L ↔ t ∈ M) (h : M ≠ []) : L ≠ [] := fun z => by
  cases M with
  | nil => exact h rfl
  | cons x M => have := (e x).mpr List.mem_cons_self; rw [z] at this; cases this
theorem v_packed {n : Nat} {S : LL} (h : FS n S) : ∃ b : Bool, d_are_packed [.int (n : Int), iLL S] = some (.ok (.fr (.bool b))) ∧ d_law_packs [.int (n : Int), iLL S] = some (.ok (.fr (.bool b))) ∧ (b = true ↔ PKP n S) := by
  have hm := h.m
  have hn := h.n7
  have q1 : gEqA (.int (S.length : Int)) (.int 0) = some (.bool (decide ((S.length : Int) = 0))) := Enc.int.eqA (by decide) _ _
  have q2 : gInA (.list []) (iLL S) = some (.bool (decide ([] ∈ S))) := by
    have := Enc.int.list.inA (by decide) [] S
    rw [show PyData.list (([] : List Int).map fun i => PyData.int i) = .list [] from rfl] at this
    rw [show iLL S = PyData.list (S.map fun xs => PyData.list (xs.map fun i => PyData.int i)) from rfl, this]
    congr
  have q3 : gEqA (iLL S) (.list []) = some (.bool (decide (S = []))) := by
    have := Enc.int.list.list.eqA (by decide) S []
    rw [show iLL S = PyData.list (S.map fun xs => PyData.list (xs.map fun i => PyData.int i)) from rfl]
    rw [show PyData.list (([] : LL).map fun xs => PyData.list (xs.map fun i => PyData.int i)) = .list [] from rfl] at this
    rw [this]
    try congr
  by_cases hS : S = []
  · subst hS
    refine ⟨true, ?_, ?_, iff_of_true rfl (.inl rfl)⟩
    · simp -implicitDefEqProofs [d_are_packed, b_are_packed]
    · rw [decide_eq_true rfl] at q3
      simp -implicitDefEqProofs [-gEqA, d_law_packs, b_law_packs, q3]
  have hS' : ¬ (S.length : Int) = 0 := fun z => hS (List.eq_nil_of_length_eq_zero (by omega))
  by_cases h0 : [] ∈ S
  · refine ⟨true, ?_, ?_, iff_of_true rfl (.inr (.inl h0))⟩
    · rw [decide_eq_true h0] at q2
      simp -implicitDefEqProofs [-gEqA, -gInA, d_are_packed, b_are_packed, q1, q2, hS]
    · rw [decide_eq_true h0] at q2
      simp -implicitDefEqProofs [-gEqA, -gInA, d_law_packs, b_law_packs, q3, q2, hS]
  have p1 := v_packings_of h
  have p2 := v_law_packings h
  have c1 := v_covers_of h
  have c2 := v_law_covers h
  have e1 : ∀ t, t ∈ srt (packsL S) ↔ t ∈ packsL S := fun t => mem_srt
  have e2 : ∀ t, t ∈ (srt (subs S.length)).filter (PkB S) ↔ t ∈ packsL S := fun t => mem_fs
  have e3 : ∀ t, t ∈ (srt (subs n)).filter (CvB S) ↔ t ∈ coversL n S := fun t => mem_fs
  obtain ⟨a1, g1, m1⟩ := v_max (ne_of_mem_iff e1 (packs_ne S))
  obtain ⟨a2, g2, m2⟩ := v_max (ne_of_mem_iff e2 (packs_ne S))
  obtain ⟨b1, g3, m3⟩ := v_min (ne_of_mem_iff e3 (covers_ne h h0))
  have ea : a1 = a2 := m1.eq m2 fun t => (e1 t).trans (e2 t).symm
  subst ea
  have l1 : (srt (packsL S)).length ≤ 1024 := by
    rw [len_srt]
    exact Nat.le_trans (List.length_filter_le _ _) (subs_le hm)
  have l2 : ((srt (subs S.length)).filter (PkB S)).length ≤ 1024 := by
    refine Nat.le_trans (List.length_filter_le _ _) ?_
    rw [len_srt]
    exact subs_le hm
  have l3 : ((srt (subs n)).filter (CvB S)).length ≤ 1024 := by
    refine Nat.le_trans (List.length_filter_le _ _) ?_
    rw [len_srt]
    exact subs_le (by omega)
  have lens : ∀ (L : LL) (ρ : Rho) (i : Nat), compGo (sName i) kYes (kData (kCall gLen (kQ (gVar i)))) ρ (L.map iL) = some (L.map fun t => .int (t.length : Int)) ∨ ¬ i < ρ.length := fun L ρ i => by
    by_cases hi : i < ρ.length
    · refine .inl (compGo_all _ _ _ _ _ _ fun t ht => ⟨_, rfl, ?_⟩)
      simp -implicitDefEqProofs [hi]
    · exact .inr hi
  have q4 : gEqA (.int a1) (.int b1) = some (.bool (decide (a1 = b1))) := Enc.int.eqA (by decide) _ _
  refine ⟨decide (a1 = b1), ?_, ?_, ?_⟩
  · have k1 := (lens (srt (packsL S)) [.fr (.int (n : Int)), .fr (iLL S), .un, .un] 3).resolve_right (by simp)
    have k2 := (lens ((srt (subs n)).filter (CvB S)) [.fr (.int (n : Int)), .fr (iLL S), .fr (.int a1), .un] 3).resolve_right (by simp)
    rw [decide_eq_false h0] at q2
    simp -implicitDefEqProofs [-gEqA, -gInA, d_are_packed, b_are_packed, q1, q2, hS, p1]
    rw [k1, Option.bind_some, fit_of (by rw [List.length_map]; omega)]
    simp -implicitDefEqProofs [-gEqA, -gInA, g1, c1]
    rw [k2, Option.bind_some, fit_of (by rw [List.length_map]; omega)]
    simp -implicitDefEqProofs [-gEqA, -gInA, g3, q4]
  · have k1 := (lens ((srt (subs S.length)).filter (PkB S)) [.fr (.int (n : Int)), .fr (iLL S), .un] 2).resolve_right (by simp)
    have k2 := (lens ((srt (subs n)).filter (CvB S)) [.fr (.int (n : Int)), .fr (iLL S), .un] 2).resolve_right (by simp)
    rw [decide_eq_false h0] at q2
    rw [decide_eq_false hS] at q3
    simp -implicitDefEqProofs [-gEqA, -gInA, d_law_packs, b_law_packs, q2, q3, p2]
    rw [k1, Option.bind_some, fit_of (by rw [List.length_map]; omega)]
    simp -implicitDefEqProofs [-gEqA, -gInA, g2, c2]
    rw [k2, Option.bind_some, fit_of (by rw [List.length_map]; omega)]
    simp -implicitDefEqProofs [-gEqA, -gInA, g3, q4]
  · rw [decide_eq_true_iff]
    constructor
    · rintro rfl
      refine .inr (.inr ⟨a1, ⟨?_, fun t ht => m1.2 t ((e1 t).mpr ht)⟩, ⟨?_, fun t ht => m3.2 t ((e3 t).mpr ht)⟩⟩)
      · obtain ⟨t, ht, e⟩ := m1.1
        exact ⟨t, (e1 t).mp ht, e⟩
      · obtain ⟨t, ht, e⟩ := m3.1
        exact ⟨t, (e3 t).mp ht, e⟩
    · rintro (z | z | ⟨m, x1, x2⟩)
      · exact absurd z hS
      · exact absurd z h0
      · rw [m1.eq x1 e1, m3.eq x2 e3]
open Classical in
noncomputable def PKB (n : Nat) (S : LL) : Bool := decide (PKP n S)
open Classical in
theorem PKB_iff {n : Nat} {S : LL} : PKB n S = true ↔ PKP n S := by unfold PKB; exact decide_eq_true_iff
theorem v_are_packed {n : Nat} {S : LL} (h : FS n S) : d_are_packed [.int (n : Int), iLL S] = some (.ok (.fr (.bool (PKB n S)))) := by
  obtain ⟨b, h1, h2, h3⟩ := v_packed h
  have : b = PKB n S := by rw [Bool.eq_iff_iff, h3, PKB_iff]
  rw [h1, this]
theorem v_law_packs {n : Nat} {S : LL} (h : FS n S) : d_law_packs [.int (n : Int), iLL S] = some (.ok (.fr (.bool (PKB n S)))) := by
  obtain ⟨b, h1, h2, h3⟩ := v_packed h
  have : b = PKB n S := by rw [Bool.eq_iff_iff, h3, PKB_iff]
  rw [h2, this]
end K79

set_option Elab.async false
set_option linter.all false
set_option maxRecDepth 100000
set_option maxHeartbeats 2000000
namespace K79
open PySem PySem.Spec PyProof.Rows L2 DL CM
def addN (L : LL) (x : List Int) : LL := if x ∈ L then L else L ++ [x]
def cut (one given : List Int) : List Int := one.filter fun x => !decide (x ∈ given)
def rawM (S : LL) (out given : List Int) : LL := S.foldl (fun L s => if disj s out = true then addN L (cut s given) else L) []
def mnr (S : LL) (out given : List Int) : LL := srt (rawM S out given)
theorem addN_len (L : LL) (x : List Int) : (addN L x).length ≤ L.length + 1 := by
  unfold addN; split <;> simp
theorem mem_addN {L : LL} {x y : List Int} : y ∈ addN L x ↔ y ∈ L ∨ y = x := by
  unfold addN; split
  · rename_i h
    constructor
    · exact .inl
    · rintro (h1 | rfl)
      · exact h1
      · exact h
  · simp
theorem nodup_addN {L : LL} {x : List Int} (h : L.Nodup) : (addN L x).Nodup := by
  unfold addN; split
  · exact h
  · rename_i hx
    rw [List.nodup_append]
    exact ⟨h, by simp, fun a ha b hb => by simp at hb; subst hb; exact fun e => hx (e ▸ ha)⟩
theorem rawM_spec {S : LL} {out given : List Int} : ∀ {L : LL}, L.Nodup → let R := S.foldl (fun L s => if disj s out = true then addN L (cut s given) else L) L
    R.Nodup ∧ R.length ≤ L.length + S.length ∧ ∀ x, x ∈ R ↔ x ∈ L ∨ ∃ s ∈ S, disj s out = true ∧ x = cut s given := by
  induction S with
  | nil => intro L h; simp [h]
  | cons s S ih =>
    intro L h
    rw [List.foldl_cons]
    by_cases hd : disj s out = true
    · rw [if_pos hd]
      obtain ⟨h1, h2, h3⟩ := ih (nodup_addN (x := cut s given) h)
      have := addN_len L (cut s given)
      refine ⟨h1, by simp at h2 ⊢; omega, fun x => ?_⟩
      rw [h3, mem_addN]
      constructor
      · rintro ((h4 | rfl) | ⟨t, ht, e⟩)
        · exact .inl h4
        · exact .inr ⟨s, List.mem_cons_self, hd, rfl⟩
        · exact .inr ⟨t, List.mem_cons_of_mem _ ht, e⟩
      · rintro (h4 | ⟨t, ht, e1, e2⟩)
        · exact .inl (.inl h4)
        · rcases List.mem_cons.mp ht with rfl | ht
          · exact .inl (.inr e2)
          · exact .inr ⟨t, ht, e1, e2⟩
    · rw [if_neg hd]
      obtain ⟨h1, h2, h3⟩ := ih h
      refine ⟨h1, by simp at h2 ⊢; omega, fun x => ?_⟩
      rw [h3]
      constructor
      · rintro (h4 | ⟨t, ht, e⟩)
        · exact .inl h4
        · exact .inr ⟨t, List.mem_cons_of_mem _ ht, e⟩
      · rintro (h4 | ⟨t, ht, e1, e2⟩)
        · exact .inl h4
        · rcases List.mem_cons.mp ht with rfl | ht
          · exact absurd e1 hd
          · exact .inr ⟨t, ht, e1, e2⟩
theorem mem_mnr {S : LL} {out given x : List Int} : x ∈ mnr S out given ↔ ∃ s ∈ S, disj s out = true ∧ x = cut s given := by
  have := (rawM_spec (S := S) (out := out) (given := given) (L := []) List.nodup_nil).2.2 x
  rw [mnr, mem_srt]
  unfold rawM
  rw [this]
  simp
theorem mnr_len (S : LL) (out given : List Int) : (mnr S out given).length ≤ S.length := by
  have := (rawM_spec (S := S) (out := out) (given := given) (L := []) List.nodup_nil).2.1
  rw [mnr, len_srt]
  simpa [rawM] using this
theorem mnr_nodup (S : LL) (out given : List Int) : (mnr S out given).Nodup :=
  nodup_srt (rawM_spec (S := S) (out := out) (given := given) (L := []) List.nodup_nil).1
theorem FS.mnr {n : Nat} {S : LL} (h : FS n S) (out given : List Int) : FS n (mnr S out given) :=
  ⟨h.n7, Nat.le_trans (mnr_len _ _ _) h.m, fun x hx => by
    obtain ⟨s, hs, _, rfl⟩ := mem_mnr.mp hx
    obtain ⟨a, b⟩ := h.e s hs
    exact ⟨Nat.le_trans (List.length_filter_le _ _) a, fun y hy => b y (List.mem_filter.mp hy).1⟩⟩
theorem notIn_int (x : Int) (b : List Int) : gNotIn (.int x) (.list (b.map PyData.int)) = some (.bool (!decide (x ∈ b))) := Enc.int.notIn (by decide) x b
theorem v_cut (one given : List Int) (σ : Rho) (i : Nat) : True := trivial
theorem putT_key (kvs : List (List Int × D)) (x : List Int) (d : D) : (putT kvs x d).map (·.1) = addN (kvs.map (·.1)) x := by
  unfold putT addN
  have e : (kvs.any fun kv => decide (kv.1 = x)) = decide (x ∈ kvs.map (·.1)) := by
    rw [Bool.eq_iff_iff]
    simp only [List.any_eq_true, decide_eq_true_eq, List.mem_map]
  rw [e]
  by_cases h : x ∈ kvs.map (·.1)
  · rw [decide_eq_true h, if_pos rfl, if_pos h, List.map_map]
    refine List.map_congr_left fun kv _ => ?_
    show (if kv.1 = x then (kv.1, d) else kv).1 = kv.1
    split <;> rfl
  · rw [decide_eq_false h, if_neg Bool.false_ne_true, if_neg h, List.map_append]
    rfl
theorem v_minor_of {n : Nat} {S : LL} (h : FS n S) (out given : List Int) : d_minor_of [iLL S, iL out, iL given] = some (.ok (.ow ((mnr S out given).map iL))) := by
  have hm := h.m
  have hcut : ∀ (s : List Int) (kvs : List (List Int × D)) (u : Sl), compGo (sName 5) (kB (kBin gNotIn (gVar 5) (gVar 2))) (gVar 5) [.fr (iLL S), .fr (iL out), .fr (iL given), .dt kvs, .fr (iL s), .un] (s.map PyData.int) = some ((cut s given).map PyData.int) := fun s kvs u => by
    refine compGo_map _ _ _ _ _ _ _ _ fun x hx => ⟨_, rfl, ?_, fun _ => rfl⟩
    show ((gNotIn (.int x) (iL given)).bind asB) = _
    rw [show iL given = PyData.list (given.map PyData.int) from rfl, notIn_int]
    rfl
  obtain ⟨ρ', e1, kvs, u4, u5, e2, e3⟩ := forGo_ix (S := LL) iL (sName 4) (zIf (kB (kData (kCallD d_apart (kCons (gVar 4) (kCons (gVar 1) kNil))))) (zTput 3 (kC (.bool true)) (kData (kCall gTuple (kRL (kComp [5] (kQ (gVar 4)) (sName 5) (kB (kBin gNotIn (gVar 5) (gVar 2))) (gVar 5)))))) zNext)
    (fun i L ρ => ∃ kvs u4 u5, ρ = [.fr (iLL S), .fr (iL out), .fr (iL given), .dt kvs, u4, u5] ∧ kvs.map (·.1) = L ∧ L.length ≤ i) (fun L s => if disj s out = true then addN L (cut s given) else L) S 0 [] [.fr (iLL S), .fr (iL out), .fr (iL given), .dt [], .un, .un] ⟨[], _, _, rfl, rfl, Nat.le_refl _⟩ fun j s hs L ρ ⟨kvs, u4, u5, e, ek, el⟩ => by
    subst e
    have hj := (List.getElem?_eq_some_iff.mp hs).1
    have hs' := h.e s (List.mem_of_getElem? hs)
    have ha := v_apart s out (by omega)
    by_cases hd : disj s out = true
    · have hc := hcut s kvs u5
      have hl := List.length_filter_le (fun x => !decide (x ∈ given)) s
      have hkl : kvs.length < 16777216 := by
        have := congrArg List.length ek
        rw [List.length_map] at this
        omega
      refine ⟨_, [.fr (iLL S), .fr (iL out), .fr (iL given), .dt (putT kvs (cut s given) (.bool true)), .fr (iL s), u5], rfl, ?_, _, _, _, rfl, ?_, ?_⟩
      · rw [hd] at ha
        simp -implicitDefEqProofs [-gNotIn, ha]
        rw [hc, Option.bind_some, fit_of (by rw [List.length_map]; unfold cut; omega)]
        simp -implicitDefEqProofs [ik_map, hkl]
      · rw [if_pos hd, putT_key, ek]
      · rw [if_pos hd]
        have := addN_len L (cut s given)
        omega
    · have hd' : disj s out = false := by simpa using hd
      refine ⟨_, [.fr (iLL S), .fr (iL out), .fr (iL given), .dt kvs, .fr (iL s), u5], rfl, ?_, _, _, _, rfl, ?_, ?_⟩
      · rw [hd'] at ha
        simp -implicitDefEqProofs [-gNotIn, ha]
      · rw [if_neg hd, ek]
      · rw [if_neg hd]; omega
  subst e2
  have e4 : kvs.map (fun kv => tupI kv.1) = (rawM S out given).map tupI := by
    have : kvs.map (fun kv => tupI kv.1) = (kvs.map (·.1)).map tupI := by rw [List.map_map]; rfl
    rw [this, e3.1]
    rfl
  have e5 := srt_tup (rawM S out given)
  have hc2 : compGo (sName 4) kYes (kData (kCall gList (kQ (gVar 4)))) [.fr (iLL S), .fr (iL out), .fr (iL given), .dt kvs, .un, u5] ((srt (rawM S out given)).map tupI) = some ((srt (rawM S out given)).map iL) := by
    refine compGo_all _ _ _ _ _ _ fun s hs => ⟨_, rfl, ?_⟩
    simp -implicitDefEqProofs
  have hl := mnr_len S out given
  unfold mnr at hl ⊢
  simp -implicitDefEqProofs [-gNotIn, d_minor_of, b_minor_of]
  rw [e1, Option.bind_some]
  simp -implicitDefEqProofs
  rw [e4, e5, hc2, Option.bind_some, fit_of (by rw [List.length_map]; omega)]
  simp -implicitDefEqProofs
theorem v_law_minor {n : Nat} {S : LL} (h : FS n S) (out given : List Int) : d_law_minor [iLL S, iL out, iL given] = some (.ok (.ow ((mnr S out given).map iL))) := by
  have hm := h.m
  have hcut : ∀ (s : List Int) (L : LL) (u5 : Sl), compGo (sName 6) (kB (kBin gNotIn (gVar 6) (gVar 2))) (gVar 6) [.fr (iLL S), .fr (iL out), .fr (iL given), .ow (L.map iL), .fr (iL s), u5, .un] (s.map PyData.int) = some ((cut s given).map PyData.int) := fun s L u5 => by
    refine compGo_map _ _ _ _ _ _ _ _ fun x hx => ⟨_, rfl, ?_, fun _ => rfl⟩
    show ((gNotIn (.int x) (iL given)).bind asB) = _
    rw [show iL given = PyData.list (given.map PyData.int) from rfl, notIn_int]
    rfl
  obtain ⟨ρ', e1, u4, u5, u6, e2, e3⟩ := forGo_ix (S := LL) iL (sName 4) (zIf (kNot (kB (kData (kCallD d_law_meets (kCons (gVar 4) (kCons (gVar 1) kNil)))))) (zSeq (zSet 5 (kData (kComp [6] (kQ (gVar 4)) (sName 6) (kB (kBin gNotIn (gVar 6) (gVar 2))) (gVar 6))))
      (zIf (kB (kBinL gNotInL (gVar 5) (gLst 3))) (zApp 3 (gVar 5)) zNext)) zNext)
    (fun i L ρ => ∃ u4 u5 u6, ρ = [.fr (iLL S), .fr (iL out), .fr (iL given), .ow (L.map iL), u4, u5, u6] ∧ L.length ≤ i) (fun L s => if disj s out = true then addN L (cut s given) else L) S 0 [] [.fr (iLL S), .fr (iL out), .fr (iL given), .ow [], .un, .un, .un] ⟨_, _, _, rfl, Nat.le_refl _⟩ fun j s hs L ρ ⟨u4, u5, u6, e, el⟩ => by
    subst e
    have hj := (List.getElem?_eq_some_iff.mp hs).1
    have hs' := h.e s (List.mem_of_getElem? hs)
    have ha := v_meets s out (by omega)
    by_cases hd : disj s out = true
    · have hc := hcut s L u5
      have hl := List.length_filter_le (fun x => !decide (x ∈ given)) s
      have hn : gNotInL (iL (cut s given)) (L.map iL) = some (.bool (!decide (cut s given ∈ L))) := by
        have := Enc.int.list.notInL (by decide) (cut s given) L
        rw [show iL (cut s given) = PyData.list ((cut s given).map fun i => PyData.int i) from rfl]
        rw [this]
        try congr
      rw [hd] at ha
      by_cases hi : cut s given ∈ L
      · rw [decide_eq_true hi] at hn
        refine ⟨_, [.fr (iLL S), .fr (iL out), .fr (iL given), .ow (L.map iL), .fr (iL s), .fr (iL (cut s given)), u6], rfl, ?_, _, _, _, by rw [if_pos hd, addN, if_pos hi], by rw [if_pos hd, addN, if_pos hi]; omega⟩
        simp -implicitDefEqProofs [-gNotIn, -gNotInL, ha]
        rw [hc, Option.bind_some, fit_of (by rw [List.length_map]; unfold cut; omega)]
        simp -implicitDefEqProofs [-gNotInL, hn]
      · rw [decide_eq_false hi] at hn
        refine ⟨_, [.fr (iLL S), .fr (iL out), .fr (iL given), .ow ((L ++ [cut s given]).map iL), .fr (iL s), .fr (iL (cut s given)), u6], rfl, ?_, _, _, _, by rw [if_pos hd, addN, if_neg hi], by rw [if_pos hd, addN, if_neg hi]; simp; omega⟩
        simp -implicitDefEqProofs [-gNotIn, -gNotInL, ha]
        rw [hc, Option.bind_some, fit_of (by rw [List.length_map]; unfold cut; omega)]
        simp -implicitDefEqProofs [-gNotInL, hn, show L.length < 16777216 by omega]
    · have hd' : disj s out = false := by simpa using hd
      rw [hd'] at ha
      refine ⟨_, [.fr (iLL S), .fr (iL out), .fr (iL given), .ow (L.map iL), .fr (iL s), u5, u6], rfl, ?_, _, _, _, by rw [if_neg hd], by rw [if_neg hd]; omega⟩
      simp -implicitDefEqProofs [-gNotIn, ha]
  subst e2
  have hl : (rawM S out given).length ≤ S.length := by
    have := mnr_len S out given
    rwa [mnr, len_srt] at this
  have hs := sorted_LL (L := rawM S out given) (by omega)
  simp -implicitDefEqProofs [-gNotIn, -gNotInL, d_law_minor, b_law_minor]
  rw [e1, Option.bind_some]
  unfold rawM at hs
  simp -implicitDefEqProofs [hs, mnr, rawM]
end K79

set_option Elab.async false
set_option linter.all false
set_option maxRecDepth 100000
set_option maxHeartbeats 2000000
namespace K79
open PySem PySem.Spec PyProof.Rows L2 DL CM
theorem cut_tail1 (xs : List D) : cutD xs (some 1) none = xs.drop 1 := by
  unfold DL.cutD
  have e1 : HT.sIx xs.length 0 (some 1) = min 1 xs.length := by
    unfold HT.sIx
    simp
    try omega
  have e2 : HT.sIx xs.length xs.length none = xs.length := by
    unfold HT.sIx
    simp
  rw [e1, e2]
  cases xs with
  | nil => simp
  | cons x xs =>
    have : min 1 (x :: xs).length = 1 := by simp
    rw [this]
    simp
abbrev fm (n : Nat) (S : LL) : D := .tuple [.int (n : Int), iLL S]
def LsOk (n : Nat) (t : List Int) : Prop := t.Pairwise (· < ·) ∧ ∀ x ∈ t, 0 ≤ x ∧ x < n
structure Fam (n : Nat) (S : LL) : Prop where
  n1 : 1 ≤ n
  n7 : n ≤ 7
  m1 : 1 ≤ S.length
  m : S.length ≤ 10
  e : ∀ s ∈ S, s ≠ [] ∧ s.length ≤ 10 ∧ LsOk n s
  st : S.Pairwise fun a b => le2 b a = false
theorem Fam.fs {n : Nat} {S : LL} (h : Fam n S) : FS n S := ⟨h.n7, h.m, fun s hs => ⟨(h.e s hs).2.1, (h.e s hs).2.2.2⟩⟩
theorem v_is_ascending {n : Nat} {s : List Int} (h : LsOk n s) (hl : s.length ≤ 10) : d_is_ascending [.int (n : Int), iL s] = some (.ok (.fr (.bool true))) := by
  have h1 : compGo (sName 2) kYes (kChain gLe gLt (kC (.int 0)) (gVar 2) (gVar 0)) [.fr (.int (n : Int)), .fr (iL s), .un, .un, .un] (s.map PyData.int) = some (s.map fun _ => .bool true) := by
    refine compGo_all _ _ _ _ _ _ fun x hx => ⟨_, rfl, ?_⟩
    obtain ⟨a, b⟩ := h.2 x hx
    simp -implicitDefEqProofs [a, b]
  have h2 : compGo (sTup 2 (sCons (sName 3) (sCons (sName 4) sNil))) kYes (kBin gLt (gVar 3) (gVar 4)) [.fr (.int (n : Int)), .fr (iL s), .un, .un, .un] ((s.zip (s.drop 1)).map fun p => .tuple [.int p.1, .int p.2]) = some ((s.zip (s.drop 1)).map fun _ => .bool true) := by
    refine compGo_all _ _ _ _ _ _ fun p hp => ⟨_, rfl, ?_⟩
    have : p.1 < p.2 := by
      obtain ⟨i, hi⟩ := List.mem_iff_getElem?.mp hp
      rw [List.getElem?_zip_eq_some] at hi
      obtain ⟨e1, e2⟩ := hi
      rw [List.getElem?_drop] at e2
      obtain ⟨l1, e1⟩ := List.getElem?_eq_some_iff.mp e1
      obtain ⟨l2, e2⟩ := List.getElem?_eq_some_iff.mp e2
      have := (List.pairwise_iff_getElem.mp h.1) i (1 + i) l1 l2 (by omega)
      rw [e1, e2] at this
      exact this
    simp -implicitDefEqProofs [this]
  have hz := zipD_map PyData.int PyData.int s (s.drop 1)
  have hlz : (s.zip (s.drop 1)).length ≤ 10 := by
    rw [List.length_zip]; omega
  have hg : ∀ L : List (Int × Int), gAll (L.map fun _ => PyData.bool true) = some (.fr (.bool true)) := fun L => by
    have := gAll_m (fun _ : Int × Int => true) L
    rw [this]; simp
  have hg2 : ∀ L : List Int, gAll (L.map fun _ => PyData.bool true) = some (.fr (.bool true)) := fun L => by
    have := gAll_m (fun _ : Int => true) L
    rw [this]; simp
  try simp -implicitDefEqProofs only [iL] at h1
  try simp -implicitDefEqProofs only [iL] at h2
  simp -implicitDefEqProofs [d_is_ascending, b_is_ascending]
  rw [h1, Option.bind_some, fit_of (by rw [List.length_map]; omega)]
  simp -implicitDefEqProofs [hg2, cut_tail1]
  rw [← List.drop_one, ← List.map_drop, hz, h2, Option.bind_some, fit_of (by rw [List.length_map]; omega)]
  simp -implicitDefEqProofs [hg]
theorem ge_le2 (a b : List Int) : gGeD (iL a) (iL b) = some (.bool (le2 b a)) := by
  unfold gGeD
  rw [if_pos ⟨by simpa [PySem.W.alike] using alikeAll_ints a b, rfl, by have := iL_depth a; omega⟩]
  rfl
theorem v_check_family {n : Nat} {S : LL} (h : Fam n S) : d_check_family [fm n S] = some (.ok (.fr .none)) := by
  have hm := h.m
  have hm1 := h.m1
  have hn := h.n7
  have hn1 := h.n1
  obtain ⟨ρ', e1, e2⟩ := forGo_same (sTup 2 (sCons (sName 3) (sCons (sName 4) sNil))) (zIf (kOr (kB (kBin gEqA (kData (kCall gLen (kQ (gVar 4)))) (kC (.int 0)))) (kOr (kNot (kB (kData (kCallD d_is_ascending (kCons (gVar 1) (kCons (gVar 4) kNil)))))) (kAnd (kB (kBin gGt (gVar 3) (kC (.int 0)))) (kB (kBin gGeD (kIx (kQ (gVar 2)) (kBin gSub (gVar 3) (kC (.int 1)))) (gVar 4)))))) zNone zNext) (fun ρ => ∃ u v, ρ = [.fr (fm n S), .fr (.int (n : Int)), .fr (iLL S), u, v]) (enumD 0 (S.map iL)) [.fr (fm n S), .fr (.int (n : Int)), .fr (iLL S), .un, .un] ⟨_, _, rfl⟩ fun a ha ρ ⟨u, v, e⟩ => by
    subst e
    rw [enumD_map] at ha
    obtain ⟨p, hp, rfl⟩ := List.mem_map.mp ha
    obtain ⟨l1, l2⟩ := zipIdx_lt hp
    obtain ⟨s, k⟩ := p
    simp only at l1 l2
    obtain ⟨b1, b2, b3⟩ := h.e s (List.mem_of_getElem? l2)
    have hv := v_is_ascending b3 b2
    have hz : gEqA (.int (s.length : Int)) (.int 0) = some (.bool false) := by
      rw [Enc.int.eqA (by decide)]
      congr
      simp
      exact b1
    refine ⟨_, [.fr (fm n S), .fr (.int (n : Int)), .fr (iLL S), .fr (.int (k : Int)), .fr (iL s)], rfl, ?_, _, _, rfl⟩
    by_cases hk : 0 < k
    · have hix := atI_iLL S ((k : Int) - 1) (by omega) (by omega)
      have hle : le2 s (at_ S ((k : Int) - 1)) = false := by
        have := (List.pairwise_iff_getElem.mp h.st) (k - 1) k (by omega) l1 (by omega)
        have e1 : at_ S ((k : Int) - 1) = S[k - 1] := by
          show S.getD _ _ = _
          have : ((k : Int) - 1).toNat = k - 1 := by omega
          rw [this, getD_at S [] (by omega : k - 1 < S.length)]
        have e2 : S[k] = s := by rw [List.getElem?_eq_getElem l1] at l2; exact Option.some.inj l2
        rw [e1, ← e2]
        exact this
      have hg : gGeD (iL (S.getD ((k : Int) - 1).toNat [])) (iL s) = some (.bool false) := by
        rw [ge_le2, hle]
      generalize S.getD ((k : Int) - 1).toNat [] = z at hix hg
      simp -implicitDefEqProofs [-gEqA, -List.getD_eq_getElem?_getD, hz, hv, hk, hix, hg]
    · simp -implicitDefEqProofs [-gEqA, -List.getD_eq_getElem?_getD, hz, hv, hk]
  obtain ⟨u, v, rfl⟩ := e2
  simp -implicitDefEqProofs [-gEqA, d_check_family, b_check_family, show (1 : Int) ≤ n by omega, show (n : Int) ≤ 7 by omega, show (1 : Int) ≤ S.length by omega, show (S.length : Int) ≤ 10 by omega]
  try simp -implicitDefEqProofs [-gEqA, hm1, hm, hn1, hn]
  rw [e1]
  simp -implicitDefEqProofs
theorem v_packs {n : Nat} {S : LL} (h : Fam n S) : d_packs [fm n S] = some (.ok (.fr (.bool (PKB n S)))) := by
  have h1 := v_check_family h
  have h2 := v_are_packed h.fs
  simp -implicitDefEqProofs [d_packs, b_packs, h1, h2]
end K79

set_option Elab.async false
set_option linter.all false
set_option maxRecDepth 100000
set_option maxHeartbeats 2000000
namespace K79
open PySem PySem.Spec PyProof.Rows L2 DL CM
abbrev clB : Rho → Option Fl := zIf (kOr (kNot (kB (kChain gLe gLt (kC (.int 0)) (gVar 5) (kIx (kQ (gVar 0)) (kC (.int 0)))))) (kAnd (kB (kBin gGt (gVar 4) (kC (.int 0)))) (kB (kBin gGe (kIx (kQ (gVar 3)) (kBin gSub (gVar 4) (kC (.int 1)))) (gVar 5))))) (zRaise "NotASet" (gVar 4)) zNext
/-- a list that is right passes -/
theorem cl_pass {n : Nat} {S : LL} {a b t : List Int} (h : LsOk n t) (u v : Sl) : ∃ u' v', forGo (sTup 2 (sCons (sName 4) (sCons (sName 5) sNil))) clB (enumD 0 (t.map PyData.int)) [.fr (fm n S), .fr (iL a), .fr (iL b), .fr (iL t), u, v] = some (.nx [.fr (fm n S), .fr (iL a), .fr (iL b), .fr (iL t), u', v']) := by
  obtain ⟨ρ', e1, e2⟩ := forGo_same (sTup 2 (sCons (sName 4) (sCons (sName 5) sNil))) clB (fun ρ => ∃ u v, ρ = [.fr (fm n S), .fr (iL a), .fr (iL b), .fr (iL t), u, v]) (enumD 0 (t.map PyData.int)) [.fr (fm n S), .fr (iL a), .fr (iL b), .fr (iL t), u, v] ⟨_, _, rfl⟩ fun x hx ρ ⟨u, v, e⟩ => by
    subst e
    rw [enumD_map] at hx
    obtain ⟨p, hp, rfl⟩ := List.mem_map.mp hx
    obtain ⟨l1, l2⟩ := zipIdx_lt hp
    obtain ⟨y, k⟩ := p
    simp only at l1 l2
    obtain ⟨c1, c2⟩ := h.2 y (List.mem_of_getElem? l2)
    refine ⟨_, [.fr (fm n S), .fr (iL a), .fr (iL b), .fr (iL t), .fr (.int (k : Int)), .fr (.int y)], rfl, ?_, _, _, rfl⟩
    by_cases hk : 0 < k
    · have hix : atI (t.map PyData.int) ((k : Int) - 1) = some (.int (t.getD (k - 1) 0)) := by
        have := atI_iL t (k - 1) (by omega)
        rwa [show ((k - 1 : Nat) : Int) = (k : Int) - 1 by omega] at this
      have hlt : t.getD (k - 1) 0 < y := by
        have := (List.pairwise_iff_getElem.mp h.1) (k - 1) k (by omega) l1 (by omega)
        have e2 : t[k] = y := by rw [List.getElem?_eq_getElem l1] at l2; exact Option.some.inj l2
        rw [getD_at t 0 (by omega : k - 1 < t.length), ← e2]
        exact this
      generalize t.getD (k - 1) 0 = z at hix hlt
      simp -implicitDefEqProofs [c1, c2, hk, hix, hlt]
    · simp -implicitDefEqProofs [c1, c2, hk]
  obtain ⟨u', v', rfl⟩ := e2
  exact ⟨u', v', e1⟩
theorem v_check_ok {n : Nat} {S : LL} (h : Fam n S) {a b : List Int} (ha : LsOk n a) (hb : LsOk n b) : d_check_lists [fm n S, iL a, iL b] = match a.find? fun x => decide (x ∈ b) with
    | some x => some (.ex "Overlap" x)
    | none => some (.ok (.fr .none)) := by
  have h1 := v_check_family h
  obtain ⟨u1, v1, e1⟩ := cl_pass (S := S) (a := a) (b := b) ha .un .un
  obtain ⟨u2, v2, e2⟩ := cl_pass (S := S) (a := a) (b := b) hb u1 v1
  have E : ∀ (L : List Int) (u3 u4 u5 : Sl), (∀ x, L.find? (fun x => decide (x ∈ b)) = some x → forGo (sName 5) (zIf (kB (kBin gInA (gVar 5) (gVar 2))) (zRaise "Overlap" (gVar 5)) zNext) (L.map PyData.int) [.fr (fm n S), .fr (iL a), .fr (iL b), u3, u4, u5] = some (.ex "Overlap" x)) ∧
      (L.find? (fun x => decide (x ∈ b)) = none → ∃ u5', forGo (sName 5) (zIf (kB (kBin gInA (gVar 5) (gVar 2))) (zRaise "Overlap" (gVar 5)) zNext) (L.map PyData.int) [.fr (fm n S), .fr (iL a), .fr (iL b), u3, u4, u5] = some (.nx [.fr (fm n S), .fr (iL a), .fr (iL b), u3, u4, u5'])) := by
    intro L
    induction L with
    | nil => intro u3 u4 u5; exact ⟨fun x hx => (nomatch hx), fun _ => ⟨u5, rfl⟩⟩
    | cons y L ih =>
      intro u3 u4 u5
      have hi : gInA (.int y) (iL b) = some (.bool (decide (y ∈ b))) := Enc.int.inA (by decide) y b
      by_cases hy : y ∈ b
      · rw [decide_eq_true hy] at hi
        have hf : (y :: L).find? (fun x => decide (x ∈ b)) = some y := List.find?_cons_of_pos (decide_eq_true hy)
        rw [hf]
        refine ⟨fun x hx => ?_, fun z => nomatch z⟩
        cases hx
        show (sName 5 (.int y) _).bind _ = _
        simp -implicitDefEqProofs [-gInA, hi]
      · rw [decide_eq_false hy] at hi
        have hf : (y :: L).find? (fun x => decide (x ∈ b)) = L.find? fun x => decide (x ∈ b) := List.find?_cons_of_neg (by simpa using hy)
        have hs : forGo (sName 5) (zIf (kB (kBin gInA (gVar 5) (gVar 2))) (zRaise "Overlap" (gVar 5)) zNext) ((y :: L).map PyData.int) [.fr (fm n S), .fr (iL a), .fr (iL b), u3, u4, u5] = forGo (sName 5) (zIf (kB (kBin gInA (gVar 5) (gVar 2))) (zRaise "Overlap" (gVar 5)) zNext) (L.map PyData.int) [.fr (fm n S), .fr (iL a), .fr (iL b), u3, u4, .fr (.int y)] := by
          show (sName 5 (.int y) _).bind _ = _
          simp -implicitDefEqProofs [-gInA, hi]
        rw [hf, hs]
        exact ih u3 u4 (.fr (.int y))
  obtain ⟨E1, E2⟩ := E a (.fr (iL b)) u2 v2
  have pre : zSeq (zDrop (kCallD d_check_family (kCons (gVar 0) kNil))) (zSeq (zFor (kQ (kTup (kCons (gVar 1) (kCons (gVar 2) kNil)))) (sName 3) (zFor (kEnum (kL (gVar 3))) (sTup 2 (sCons (sName 4) (sCons (sName 5) sNil))) clB)) (zFor (kQ (gVar 1)) (sName 5) (zIf (kB (kBin gInA (gVar 5) (gVar 2))) (zRaise "Overlap" (gVar 5)) zNext))) [.fr (fm n S), .fr (iL a), .fr (iL b), .un, .un, .un]
      = forGo (sName 5) (zIf (kB (kBin gInA (gVar 5) (gVar 2))) (zRaise "Overlap" (gVar 5)) zNext) (a.map PyData.int) [.fr (fm n S), .fr (iL a), .fr (iL b), .fr (iL b), u2, v2] := by
    have L1 : forGo (sName 3) (zFor (kEnum (kL (gVar 3))) (sTup 2 (sCons (sName 4) (sCons (sName 5) sNil))) clB) [iL a, iL b] [.fr (fm n S), .fr (iL a), .fr (iL b), .un, .un, .un] = some (.nx [.fr (fm n S), .fr (iL a), .fr (iL b), .fr (iL b), u2, v2]) := by
      show (forGo (sTup 2 (sCons (sName 4) (sCons (sName 5) sNil))) clB (enumD 0 (a.map PyData.int)) [.fr (fm n S), .fr (iL a), .fr (iL b), .fr (iL a), .un, .un]).bind _ = _
      rw [e1, Option.bind_some]
      show (forGo (sTup 2 (sCons (sName 4) (sCons (sName 5) sNil))) clB (enumD 0 (b.map PyData.int)) [.fr (fm n S), .fr (iL a), .fr (iL b), .fr (iL b), u1, v1]).bind _ = _
      rw [e2, Option.bind_some]
      rfl
    show ((zDrop (kCallD d_check_family (kCons (gVar 0) kNil))) _).bind _ = _
    have d1 : zDrop (kCallD d_check_family (kCons (gVar 0) kNil)) [.fr (fm n S), .fr (iL a), .fr (iL b), .un, .un, .un] = some (.nx [.fr (fm n S), .fr (iL a), .fr (iL b), .un, .un, .un]) := by
      simp -implicitDefEqProofs [h1]
    rw [d1, Option.bind_some]
    show ((forGo (sName 3) (zFor (kEnum (kL (gVar 3))) (sTup 2 (sCons (sName 4) (sCons (sName 5) sNil))) clB) [iL a, iL b] [.fr (fm n S), .fr (iL a), .fr (iL b), .un, .un, .un])).bind _ = _
    rw [L1, Option.bind_some]
    rfl
  show (b_check_lists [.fr (fm n S), .fr (iL a), .fr (iL b), .un, .un, .un]).bind flRes = _
  have pre' : b_check_lists [.fr (fm n S), .fr (iL a), .fr (iL b), .un, .un, .un] = _ := pre
  rw [pre']
  cases hf : a.find? fun x => decide (x ∈ b) with
  | none =>
    obtain ⟨u5, e⟩ := E2 hf
    rw [e]; rfl
  | some x => rw [E1 x hf]; rfl
theorem v_check_set0 {n : Nat} {S : LL} (h : Fam n S) : d_check_lists [fm n S, iL [(n : Int)], iL []] = some (.ex "NotASet" 0) := by
  have h1 := v_check_family h
  have e1 : forGo (sTup 2 (sCons (sName 4) (sCons (sName 5) sNil))) clB [.tuple [.int 0, .int (n : Int)]] [.fr (fm n S), .fr (iL [(n : Int)]), .fr (iL []), .fr (iL [(n : Int)]), .un, .un] = some (.ex "NotASet" 0) := by
    show (clB [.fr (fm n S), .fr (iL [(n : Int)]), .fr (iL []), .fr (iL [(n : Int)]), .fr (.int 0), .fr (.int (n : Int))]).bind _ = _
    have : clB [.fr (fm n S), .fr (iL [(n : Int)]), .fr (iL []), .fr (iL [(n : Int)]), .fr (.int 0), .fr (.int (n : Int))] = some (.ex "NotASet" 0) := by
      simp -implicitDefEqProofs
    rw [this]; rfl
  show (b_check_lists [.fr (fm n S), .fr (iL [(n : Int)]), .fr (iL []), .un, .un, .un]).bind flRes = _
  have d1 : zDrop (kCallD d_check_family (kCons (gVar 0) kNil)) [.fr (fm n S), .fr (iL [(n : Int)]), .fr (iL []), .un, .un, .un] = some (.nx [.fr (fm n S), .fr (iL [(n : Int)]), .fr (iL []), .un, .un, .un]) := by
    simp -implicitDefEqProofs [h1]
  have : b_check_lists [.fr (fm n S), .fr (iL [(n : Int)]), .fr (iL []), .un, .un, .un] = some (.ex "NotASet" 0) := by
    show ((zDrop (kCallD d_check_family (kCons (gVar 0) kNil))) _).bind _ = _
    rw [d1, Option.bind_some]
    show ((forGo (sTup 2 (sCons (sName 4) (sCons (sName 5) sNil))) clB [.tuple [.int 0, .int (n : Int)]] [.fr (fm n S), .fr (iL [(n : Int)]), .fr (iL []), .fr (iL [(n : Int)]), .un, .un]).bind _).bind _ = _
    rw [e1]; rfl
  rw [this]; rfl
theorem v_check_set1 {n : Nat} {S : LL} (h : Fam n S) : d_check_lists [fm n S, iL [], iL [0, 0]] = some (.ex "NotASet" 1) := by
  have h1 := v_check_family h
  have hn := h.n1
  have c0 : clB [.fr (fm n S), .fr (iL []), .fr (iL [0, 0]), .fr (iL [0, 0]), .fr (.int 0), .fr (.int 0)] = some (.nx [.fr (fm n S), .fr (iL []), .fr (iL [0, 0]), .fr (iL [0, 0]), .fr (.int 0), .fr (.int 0)]) := by
    simp -implicitDefEqProofs [show 0 < n by omega]
  have c1 : clB [.fr (fm n S), .fr (iL []), .fr (iL [0, 0]), .fr (iL [0, 0]), .fr (.int 1), .fr (.int 0)] = some (.ex "NotASet" 1) := by
    simp -implicitDefEqProofs [show 0 < n by omega]
  have e1 : forGo (sTup 2 (sCons (sName 4) (sCons (sName 5) sNil))) clB [.tuple [.int 0, .int 0], .tuple [.int 1, .int 0]] [.fr (fm n S), .fr (iL []), .fr (iL [0, 0]), .fr (iL [0, 0]), .un, .un] = some (.ex "NotASet" 1) := by
    show (clB [.fr (fm n S), .fr (iL []), .fr (iL [0, 0]), .fr (iL [0, 0]), .fr (.int 0), .fr (.int 0)]).bind _ = _
    rw [c0, Option.bind_some]
    show (clB [.fr (fm n S), .fr (iL []), .fr (iL [0, 0]), .fr (iL [0, 0]), .fr (.int 1), .fr (.int 0)]).bind _ = _
    rw [c1]; rfl
  have d1 : zDrop (kCallD d_check_family (kCons (gVar 0) kNil)) [.fr (fm n S), .fr (iL []), .fr (iL [0, 0]), .un, .un, .un] = some (.nx [.fr (fm n S), .fr (iL []), .fr (iL [0, 0]), .un, .un, .un]) := by
    simp -implicitDefEqProofs [h1]
  have : b_check_lists [.fr (fm n S), .fr (iL []), .fr (iL [0, 0]), .un, .un, .un] = some (.ex "NotASet" 1) := by
    show ((zDrop (kCallD d_check_family (kCons (gVar 0) kNil))) _).bind _ = _
    rw [d1, Option.bind_some]
    show ((forGo (sTup 2 (sCons (sName 4) (sCons (sName 5) sNil))) clB [.tuple [.int 0, .int 0], .tuple [.int 1, .int 0]] [.fr (fm n S), .fr (iL []), .fr (iL [0, 0]), .fr (iL [0, 0]), .un, .un]).bind _).bind _ = _
    rw [e1]; rfl
  show (b_check_lists [.fr (fm n S), .fr (iL []), .fr (iL [0, 0]), .un, .un, .un]).bind flRes = _
  rw [this]; rfl
theorem v_minor_ok {n : Nat} {S : LL} (h : Fam n S) {a b : List Int} (ha : LsOk n a) (hb : LsOk n b) (hd : ∀ x ∈ a, x ∉ b) : d_minor [fm n S, iL a, iL b] = some (.ok (.ow ((mnr S a b).map iL))) := by
  have h1 := v_check_ok h ha hb
  have hf : a.find? (fun x => decide (x ∈ b)) = none := List.find?_eq_none.mpr fun x hx => by simpa using hd x hx
  rw [hf] at h1
  have h2 := v_minor_of h.fs a b
  simp -implicitDefEqProofs [d_minor, b_minor, h1, h2]
theorem v_minor_ex {n : Nat} {S : LL} {a b : List Int} {c : Str} {i : Int} (h1 : d_check_lists [fm n S, iL a, iL b] = some (.ex c i)) : d_minor [fm n S, iL a, iL b] = some (.ex c i) := by
  simp -implicitDefEqProofs [d_minor, b_minor, h1]
theorem v_word {n : Nat} {S : LL} {a b : List Int} {c : Str} {i : Int} {z : Int → D} (h1 : d_check_lists [fm n S, iL a, iL b] = some (.ex c i)) (hz : ([("NotASet", hStr "set"), ("Overlap", hStr "both"), ("TooMany", hStr "many")] : List (Str × (Int → D))).lookup c = some z) : d_law_word [.int 0, fm n S, iL a, iL b] = some (.ok (.fr (z i))) := by
  have h2 := v_minor_ex h1
  have q : gEqA (.int 0) (.int 0) = some (.bool true) := by rw [Enc.int.eqA (by decide)]; rfl
  have e : (zTry (zIf (kB (kBin gEqA (gVar 0) (kC (.int 0)))) (zCallX d_minor (kCons (gVar 1) (kCons (gVar 2) (kCons (gVar 3) kNil)))) (zCallX d_bad_minor (kCons (gVar 1) kNil))) ([("NotASet", hStr "set"), ("Overlap", hStr "both"), ("TooMany", hStr "many")] : List (Str × (Int → D)))) [.fr (.int 0), .fr (fm n S), .fr (iL a), .fr (iL b), .un] = some (.rt (.fr (z i))) := by
    unfold zTry
    rw [if_pos (by rfl)]
    have : (zIf (kB (kBin gEqA (gVar 0) (kC (.int 0)))) (zCallX d_minor (kCons (gVar 1) (kCons (gVar 2) (kCons (gVar 3) kNil)))) (zCallX d_bad_minor (kCons (gVar 1) kNil))) [.fr (.int 0), .fr (fm n S), .fr (iL a), .fr (iL b), .un] = some (.ex c i) := by
      simp -implicitDefEqProofs [-gEqA, q, h2]
    rw [this, Option.bind_some]
    show (List.lookup c _).bind _ = _
    rw [hz]; rfl
  show (b_law_word [.fr (.int 0), .fr (fm n S), .fr (iL a), .fr (iL b), .un]).bind flRes = _
  have : b_law_word [.fr (.int 0), .fr (fm n S), .fr (iL a), .fr (iL b), .un] = some (.rt (.fr (z i))) := by
    show (zTry _ _ _).bind _ = _
    rw [e]; rfl
  rw [this]; rfl
end K79

set_option Elab.async false
set_option linter.all false
set_option maxRecDepth 100000
set_option maxHeartbeats 2000000
namespace K79
open PySem PySem.Spec PyProof.Rows L2 DL CM
noncomputable def badB (n : Nat) (S : LL) (o g : List Int) : Bool := disj o g && !PKB n (mnr S o g)
def chs (n : Nat) : LL := srt (subs n)
theorem mem_chs {n : Nat} {t : List Int} : t ∈ chs n ↔ t ∈ subs n := mem_srt
/-- the first pair that is bad -/
noncomputable def bmin (n : Nat) (S : LL) : Option (List Int × List Int) := ((chs n).find? fun o => (chs n).any (badB n S o)).bind fun o => ((chs n).find? (badB n S o)).map fun g => (o, g)
def pD : Option (List Int × List Int) → D
  | none => .none
  | some p => .tuple [iL p.1, iL p.2]
theorem find_any {α : Type} {L : List α} {p : α → Bool} : L.any p = true → ∃ x, L.find? p = some x := fun h => by
  cases e : L.find? p with
  | some x => exact ⟨x, rfl⟩
  | none =>
    rw [List.find?_eq_none] at e
    obtain ⟨x, hx, hp⟩ := List.any_eq_true.mp h
    exact absurd hp (e x hx)
theorem find_none {α : Type} {L : List α} {p : α → Bool} : L.any p = false → L.find? p = none := fun h => by
  rw [List.find?_eq_none]
  rw [List.any_eq_false] at h
  exact h
abbrev bmI : Rho → Option Fl := zIf (kAnd (kB (kData (kCallD d_apart (kCons (gVar 3) (kCons (gVar 4) kNil))))) (kNot (kB (kData (kCallD d_are_packed (kCons (gVar 1) (kCons (kData (kCallD d_minor_of (kCons (gVar 2) (kCons (gVar 3) (kCons (gVar 4) kNil))))) kNil))))))) (zRet (kFr (kTup (kCons (gVar 3) (kCons (gVar 4) kNil))))) zNext
abbrev bmO : Rho → Option Fl := zFor (kQ (kData (kCallD d_choices (kCons (gVar 1) kNil)))) (sName 4) bmI
theorem bm_inner {n : Nat} {S : LL} (h : FS n S) (o : List Int) (ho : o.length ≤ 10) (u4 : Sl) :
    (∀ g, (chs n).find? (badB n S o) = some g → bmO [.fr (fm n S), .fr (.int (n : Int)), .fr (iLL S), .fr (iL o), u4] = some (.rt (.fr (.tuple [iL o, iL g])))) ∧
    ((chs n).find? (badB n S o) = none → ∃ u, bmO [.fr (fm n S), .fr (.int (n : Int)), .fr (iLL S), .fr (iL o), u4] = some (.nx [.fr (fm n S), .fr (.int (n : Int)), .fr (iLL S), .fr (iL o), u])) := by
  have hn := h.n7
  have hc := v_choices n (by omega)
  have key := forGo_find iL (sName 4) bmI (fun ρ => ∃ u, ρ = [Sl.fr (fm n S), .fr (.int (n : Int)), .fr (iLL S), .fr (iL o), u]) (badB n S o) (fun g => .fr (.tuple [iL o, iL g])) (chs n) fun g hg ρ ⟨u, e⟩ => by
    subst e
    have h1 := v_apart o g (by omega)
    have h2 := v_minor_of h o g
    have h3 := v_are_packed (h.mnr o g)
    refine ⟨[Sl.fr (fm n S), .fr (.int (n : Int)), .fr (iLL S), .fr (iL o), .fr (iL g)], rfl, fun hp => ?_, fun hp => ⟨[Sl.fr (fm n S), .fr (.int (n : Int)), .fr (iLL S), .fr (iL o), .fr (iL g)], ?_, _, rfl⟩⟩
    · unfold badB at hp
      rw [Bool.and_eq_true] at hp
      obtain ⟨p1, p2⟩ := hp
      rw [p1] at h1
      have p3 : PKB n (mnr S o g) = false := by simpa using p2
      rw [p3] at h3
      simp -implicitDefEqProofs [h1, h2, h3]
    · unfold badB at hp
      cases p1 : disj o g with
      | false =>
        rw [p1] at h1
        simp -implicitDefEqProofs [h1]
      | true =>
        rw [p1] at h1 hp
        have p3 : PKB n (mnr S o g) = true := by simpa using hp
        rw [p3] at h3
        simp -implicitDefEqProofs [h1, h2, h3]
  obtain ⟨k1, k2⟩ := key [Sl.fr (fm n S), .fr (.int (n : Int)), .fr (iLL S), .fr (iL o), u4] ⟨_, rfl⟩
  have e : bmO [.fr (fm n S), .fr (.int (n : Int)), .fr (iLL S), .fr (iL o), u4] = forGo (sName 4) bmI ((chs n).map iL) [.fr (fm n S), .fr (.int (n : Int)), .fr (iLL S), .fr (iL o), u4] := by
    show ((kQ (kData (kCallD d_choices (kCons (gVar 1) kNil)))) _).bind _ = _
    have : kQ (kData (kCallD d_choices (kCons (gVar 1) kNil))) [.fr (fm n S), .fr (.int (n : Int)), .fr (iLL S), .fr (iL o), u4] = some ((chs n).map iL) := by
      simp -implicitDefEqProofs [hc, chs]
    rw [this]; rfl
  refine ⟨fun g hg => by rw [e]; exact k1 g hg, fun hg => ?_⟩
  obtain ⟨ρ', e1, u, rfl⟩ := k2 hg
  exact ⟨u, by rw [e]; exact e1⟩
theorem v_bad_minor {n : Nat} {S : LL} (h : Fam n S) (h5 : n ≤ 5) : d_bad_minor [fm n S] = some (.ok (.fr (pD (bmin n S)))) := by
  have h1 := v_check_family h
  have hc := v_choices n (by omega)
  have key := forGo_find iL (sName 3) bmO (fun ρ => ∃ u3 u4, ρ = [Sl.fr (fm n S), .fr (.int (n : Int)), .fr (iLL S), u3, u4]) (fun o => (chs n).any (badB n S o)) (fun o => .fr (.tuple [iL o, iL (((chs n).find? (badB n S o)).getD [])])) (chs n) fun o ho ρ ⟨u3, u4, e⟩ => by
    subst e
    have hol := (subs_mem (mem_chs.mp ho)).1
    obtain ⟨i1, i2⟩ := bm_inner h.fs o (by omega) u4
    refine ⟨[Sl.fr (fm n S), .fr (.int (n : Int)), .fr (iLL S), .fr (iL o), u4], rfl, fun hp => ?_, fun hp => ?_⟩
    · obtain ⟨g, hg⟩ := find_any hp
      rw [i1 g hg, hg]; rfl
    · obtain ⟨u, e⟩ := i2 (find_none hp)
      exact ⟨_, e, _, _, rfl⟩
  obtain ⟨k1, k2⟩ := key [Sl.fr (fm n S), .fr (.int (n : Int)), .fr (iLL S), .un, .un] ⟨_, _, rfl⟩
  have d1 : zDrop (kCallD d_check_family (kCons (gVar 0) kNil)) [.fr (fm n S), .un, .un, .un, .un] = some (.nx [.fr (fm n S), .un, .un, .un, .un]) := by
    simp -implicitDefEqProofs [h1]
  have d2 : zAsg (gVar 0) (sTup 2 (sCons (sName 1) (sCons (sName 2) sNil))) [.fr (fm n S), .un, .un, .un, .un] = some (.nx [.fr (fm n S), .fr (.int (n : Int)), .fr (iLL S), .un, .un]) := rfl
  have d3 : (zIf (kB (kBin gGt (gVar 1) (kC (.int 5)))) (zRaise "TooMany" (gVar 1)) zNext) [.fr (fm n S), .fr (.int (n : Int)), .fr (iLL S), .un, .un] = some (.nx [.fr (fm n S), .fr (.int (n : Int)), .fr (iLL S), .un, .un]) := by
    simp -implicitDefEqProofs [show ¬ (5 : Int) < n by omega, show ¬ 5 < n by omega]
  have d4 : zFor (kQ (kData (kCallD d_choices (kCons (gVar 1) kNil)))) (sName 3) bmO [.fr (fm n S), .fr (.int (n : Int)), .fr (iLL S), .un, .un] = forGo (sName 3) bmO ((chs n).map iL) [.fr (fm n S), .fr (.int (n : Int)), .fr (iLL S), .un, .un] := by
    show ((kQ (kData (kCallD d_choices (kCons (gVar 1) kNil)))) _).bind _ = _
    have : kQ (kData (kCallD d_choices (kCons (gVar 1) kNil))) [.fr (fm n S), .fr (.int (n : Int)), .fr (iLL S), .un, .un] = some ((chs n).map iL) := by
      simp -implicitDefEqProofs [hc, chs]
    rw [this]; rfl
  have e : b_bad_minor [.fr (fm n S), .un, .un, .un, .un] = zSeq (zFor (kQ (kData (kCallD d_choices (kCons (gVar 1) kNil)))) (sName 3) bmO) (zRet (kFr (kC .none))) [.fr (fm n S), .fr (.int (n : Int)), .fr (iLL S), .un, .un] := by
    show ((zDrop (kCallD d_check_family (kCons (gVar 0) kNil))) _).bind _ = _
    rw [d1, Option.bind_some]
    show ((zAsg (gVar 0) (sTup 2 (sCons (sName 1) (sCons (sName 2) sNil)))) _).bind _ = _
    rw [d2, Option.bind_some]
    show ((zIf (kB (kBin gGt (gVar 1) (kC (.int 5)))) (zRaise "TooMany" (gVar 1)) zNext) _).bind _ = _
    rw [d3, Option.bind_some]
  show (b_bad_minor [.fr (fm n S), .un, .un, .un, .un]).bind flRes = _
  rw [e]
  show ((zFor (kQ (kData (kCallD d_choices (kCons (gVar 1) kNil)))) (sName 3) bmO _).bind _).bind flRes = _
  rw [d4]
  unfold bmin
  cases hf : (chs n).find? fun o => (chs n).any (badB n S o) with
  | none =>
    obtain ⟨ρ', e1, u3, u4, rfl⟩ := k2 hf
    rw [e1]; rfl
  | some o =>
    rw [k1 o hf]
    obtain ⟨g, hg⟩ := find_any (List.find?_some (p := fun o => (chs n).any (badB n S o)) hf)
    simp only [Option.bind_some, hg, Option.map_some, Option.getD_some]
    rfl
theorem v_bad_many {n : Nat} {S : LL} (h : Fam n S) (h5 : 5 < n) : d_bad_minor [fm n S] = some (.ex "TooMany" n) := by
  have h1 := v_check_family h
  have d1 : zDrop (kCallD d_check_family (kCons (gVar 0) kNil)) [.fr (fm n S), .un, .un, .un, .un] = some (.nx [.fr (fm n S), .un, .un, .un, .un]) := by
    simp -implicitDefEqProofs [h1]
  have d2 : zAsg (gVar 0) (sTup 2 (sCons (sName 1) (sCons (sName 2) sNil))) [.fr (fm n S), .un, .un, .un, .un] = some (.nx [.fr (fm n S), .fr (.int (n : Int)), .fr (iLL S), .un, .un]) := rfl
  have d3 : (zIf (kB (kBin gGt (gVar 1) (kC (.int 5)))) (zRaise "TooMany" (gVar 1)) zNext) [.fr (fm n S), .fr (.int (n : Int)), .fr (iLL S), .un, .un] = some (.ex "TooMany" n) := by
    simp -implicitDefEqProofs [show (5 : Int) < n by omega, show 5 < n by omega]
  have e : b_bad_minor [.fr (fm n S), .un, .un, .un, .un] = some (.ex "TooMany" n) := by
    show ((zDrop (kCallD d_check_family (kCons (gVar 0) kNil))) _).bind _ = _
    rw [d1, Option.bind_some]
    show ((zAsg (gVar 0) (sTup 2 (sCons (sName 1) (sCons (sName 2) sNil)))) _).bind _ = _
    rw [d2, Option.bind_some]
    show ((zIf (kB (kBin gGt (gVar 1) (kC (.int 5)))) (zRaise "TooMany" (gVar 1)) zNext) _).bind _ = _
    rw [d3]; rfl
  show (b_bad_minor [.fr (fm n S), .un, .un, .un, .un]).bind flRes = _
  rw [e]; rfl
theorem v_word1 {n : Nat} {S : LL} (h : Fam n S) (h5 : 5 < n) : d_law_word [.int 1, fm n S, iL [], iL []] = some (.ok (.fr (hStr "many" n))) := by
  have h2 := v_bad_many h h5
  have q : gEqA (.int 1) (.int 0) = some (.bool false) := by rw [Enc.int.eqA (by decide)]; rfl
  have e : (zTry (zIf (kB (kBin gEqA (gVar 0) (kC (.int 0)))) (zCallX d_minor (kCons (gVar 1) (kCons (gVar 2) (kCons (gVar 3) kNil)))) (zCallX d_bad_minor (kCons (gVar 1) kNil))) ([("NotASet", hStr "set"), ("Overlap", hStr "both"), ("TooMany", hStr "many")] : List (Str × (Int → D)))) [.fr (.int 1), .fr (fm n S), .fr (iL []), .fr (iL []), .un] = some (.rt (.fr (hStr "many" n))) := by
    unfold zTry
    rw [if_pos (by rfl)]
    have : (zIf (kB (kBin gEqA (gVar 0) (kC (.int 0)))) (zCallX d_minor (kCons (gVar 1) (kCons (gVar 2) (kCons (gVar 3) kNil)))) (zCallX d_bad_minor (kCons (gVar 1) kNil))) [.fr (.int 1), .fr (fm n S), .fr (iL []), .fr (iL []), .un] = some (.ex "TooMany" n) := by
      simp -implicitDefEqProofs [-gEqA, q, h2]
    rw [this, Option.bind_some]
    have hz : List.lookup ("TooMany" : Str) ([("NotASet", hStr "set"), ("Overlap", hStr "both"), ("TooMany", hStr "many")] : List (Str × (Int → D))) = some (hStr "many") := by kernel_rfl
    show (List.lookup ("TooMany" : Str) _).bind _ = _
    rw [hz]; rfl
  show (b_law_word [.fr (.int 1), .fr (fm n S), .fr (iL []), .fr (iL []), .un]).bind flRes = _
  have : b_law_word [.fr (.int 1), .fr (fm n S), .fr (iL []), .fr (iL []), .un] = some (.rt (.fr (hStr "many" n))) := by
    show (zTry _ _ _).bind _ = _
    rw [e]; rfl
  rw [this]; rfl
theorem bmin_none {n : Nat} {S : LL} : bmin n S = none ↔ ∀ o ∈ subs n, ∀ g ∈ subs n, badB n S o g = false := by
  unfold bmin
  constructor
  · intro h o ho g hg
    cases hf : (chs n).find? fun o => (chs n).any (badB n S o) with
    | none =>
      rw [List.find?_eq_none] at hf
      have h1 := hf o (mem_chs.mpr ho)
      have h2 : (chs n).any (badB n S o) = false := by simpa using h1
      rw [List.any_eq_false] at h2
      simpa using h2 g (mem_chs.mpr hg)
    | some o' =>
      rw [hf, Option.bind_some] at h
      obtain ⟨g', hg'⟩ := find_any (List.find?_some (p := fun o => (chs n).any (badB n S o)) hf)
      rw [hg'] at h; cases h
  · intro h
    have : (chs n).find? (fun o => (chs n).any (badB n S o)) = none := by
      rw [List.find?_eq_none]
      intro o ho hz
      obtain ⟨g, hg, hb⟩ := List.any_eq_true.mp hz
      rw [h o (mem_chs.mp ho) g (mem_chs.mp hg)] at hb
      cases hb
    rw [this]; rfl
theorem bmin_some {n : Nat} {S : LL} {o g : List Int} (h : bmin n S = some (o, g)) : o ∈ subs n ∧ g ∈ subs n ∧ badB n S o g = true := by
  unfold bmin at h
  cases hf : (chs n).find? fun o => (chs n).any (badB n S o) with
  | none => rw [hf] at h; cases h
  | some o' =>
    rw [hf, Option.bind_some] at h
    cases hg : (chs n).find? (badB n S o') with
    | none => rw [hg] at h; cases h
    | some g' =>
      rw [hg] at h
      cases h
      exact ⟨mem_chs.mp (List.mem_of_find?_eq_some hf), mem_chs.mp (List.mem_of_find?_eq_some hg), List.find?_some hg⟩
end K79

set_option Elab.async false
set_option linter.all false
set_option maxRecDepth 100000
set_option maxHeartbeats 2000000
namespace K79
open PySem PySem.Spec PyProof.Rows L2 DL CM
def OneEach (p : Int → Bool) (s : List Int) : Prop := s ≠ [] ∧ s.length ≤ 2 ∧ ∀ x ∈ s, ∀ y ∈ s, p x = p y → x = y
def Cov (D : List Int) (E : LL) : Prop := ∀ s ∈ E, ∃ x ∈ s, x ∈ D
theorem filter_split (p : Int → Bool) : ∀ l : List Int, (l.filter p).length + (l.filter fun x => !p x).length = l.length
  | [] => rfl
  | x :: l => by
    have := filter_split p l
    cases h : p x <;> simp [h] <;> omega
theorem not_disj {s t : List Int} (h : disj s t = false) : ∃ x ∈ s, x ∈ t := by
  simp only [disj, Bool.not_eq_false', List.any_eq_true, decide_eq_true_eq] at h
  exact h
/-- Konig's theorem, with sets of one thing too: a cover as small as can be has as many things as some sets that are apart -/
theorem konig (p : Int → Bool) : ∀ (k : Nat) (E : LL), E.length ≤ k → (∀ s ∈ E, OneEach p s) → ∀ n, (∀ D, Cov D E → n ≤ D.length) → ∃ M : LL, M.Pairwise (fun a b => disj a b = true) ∧ (∀ s ∈ M, s ∈ E) ∧ M.length = n := by
  intro k
  induction k with
  | zero =>
    intro E hk hE n hn
    have : E = [] := List.eq_nil_of_length_eq_zero (by omega)
    subst this
    have := hn [] (fun s hs => nomatch hs)
    exact ⟨[], .nil, (fun s hs => nomatch hs), by simp at this ⊢; omega⟩
  | succ k ih =>
    intro E hk hE n hn
    cases E with
    | nil =>
      have := hn [] (fun s hs => nomatch hs)
      exact ⟨[], .nil, (fun s hs => nomatch hs), by simp at this ⊢; omega⟩
    | cons e R =>
      obtain ⟨e1, e2, e3⟩ := hE e List.mem_cons_self
      have hself : disj e e = false := by
        cases h : disj e e with
        | false => rfl
        | true =>
          rw [disj_iff] at h
          cases e with
          | nil => exact absurd rfl e1
          | cons x r => exact absurd List.mem_cons_self (h x List.mem_cons_self)
      have small : ∀ q : List Int → Bool, q e = false → ((e :: R).filter q).length ≤ k := fun q hq => by
        rw [List.filter_cons_of_neg (by rw [hq]; exact Bool.false_ne_true)]
        have := List.length_filter_le q R
        simp at hk
        omega
      by_cases hc : ∀ D, Cov D ((e :: R).filter fun s => disj s e) → n - 1 ≤ D.length
      · obtain ⟨M, m1, m2, m3⟩ := ih _ (small (fun s => disj s e) hself) (fun s hs => hE s (List.mem_filter.mp hs).1) (n - 1) hc
        cases n with
        | zero => exact ⟨[], .nil, (fun s hs => nomatch hs), rfl⟩
        | succ n =>
          refine ⟨e :: M, ?_, fun s hs => ?_, by rw [List.length_cons, m3]; rfl⟩
          · rw [List.pairwise_cons]
            refine ⟨fun s hs => ?_, m1⟩
            rw [disj_comm]
            exact (List.mem_filter.mp (m2 s hs)).2
          · rcases List.mem_cons.mp hs with rfl | hs
            · exact List.mem_cons_self
            · exact (List.mem_filter.mp (m2 s hs)).1
      · obtain ⟨D', hD⟩ := Classical.not_forall.mp hc
        obtain ⟨d1, d2⟩ := Classical.not_imp.mp hD
        have cov : ∀ F : List Int, (∀ x ∈ e, x ∈ F) → Cov (F ++ D') (e :: R) := fun F hF s hs => by
          cases h : disj s e with
          | true =>
            obtain ⟨x, hx, hx2⟩ := d1 s (List.mem_filter.mpr ⟨hs, h⟩)
            exact ⟨x, hx, List.mem_append_right _ hx2⟩
          | false =>
            obtain ⟨x, hx, hx2⟩ := not_disj h
            exact ⟨x, hx, List.mem_append_left _ (hF x hx2)⟩
        have c0 := cov e fun x hx => hx
        have n0 := hn _ c0
        rw [List.length_append] at n0
        obtain ⟨a, b, rfl⟩ : ∃ a b, e = [a, b] := by
          match e, e2, n0 with
          | [], _, _ => exact absurd rfl e1
          | [a], _, h => simp at h; omega
          | [a, b], _, _ => exact ⟨a, b, rfl⟩
          | _ :: _ :: _ :: _, h, _ => simp at h
        have hab : p a ≠ p b := fun h => by
          have hab := e3 a (by simp) b (by simp) h
          subst hab
          have := hn _ (cov [a] fun x hx => by simpa using hx)
          simp at this
          omega
        generalize hC : [a, b] ++ D' = C at c0 n0
        have lC : C.length ≤ n := by rw [← hC]; simp; omega
        have lC2 : n ≤ C.length := hn C c0
        have inC : a ∈ C ∧ b ∈ C := by rw [← hC]; simp
        have spl := filter_split p C
        generalize hCA : C.filter p = CA at spl
        generalize hCB : (C.filter fun x => !p x) = CB at spl
        have mA : ∀ x, x ∈ CA ↔ x ∈ C ∧ p x = true := fun x => by rw [← hCA, List.mem_filter]
        have mB : ∀ x, x ∈ CB ↔ x ∈ C ∧ p x = false := fun x => by rw [← hCB, List.mem_filter]; simp
        have eA : disj [a, b] CA = false := by
          cases h : disj [a, b] CA with
          | false => rfl
          | true =>
            rw [disj_iff] at h
            have ha := h a (by simp)
            have hb := h b (by simp)
            rw [mA] at ha hb
            have pa : p a = false := by
              cases q : p a with
              | false => rfl
              | true => exact absurd ⟨inC.1, q⟩ ha
            have pb : p b = false := by
              cases q : p b with
              | false => rfl
              | true => exact absurd ⟨inC.2, q⟩ hb
            exact absurd (pa.trans pb.symm) hab
        have eB : disj [a, b] CB = false := by
          cases h : disj [a, b] CB with
          | false => rfl
          | true =>
            rw [disj_iff] at h
            have ha := h a (by simp)
            have hb := h b (by simp)
            rw [mB] at ha hb
            have pa : p a = true := by
              cases q : p a with
              | true => rfl
              | false => exact absurd ⟨inC.1, q⟩ ha
            have pb : p b = true := by
              cases q : p b with
              | true => rfl
              | false => exact absurd ⟨inC.2, q⟩ hb
            exact absurd (pa.trans pb.symm) hab
        have low : ∀ X : List Int, ∀ D, Cov D (([a, b] :: R).filter fun s => disj s X) → n - X.length ≤ D.length := fun X D hD => by
          have : Cov (D ++ X) ([a, b] :: R) := fun s hs => by
            cases h : disj s X with
            | true =>
              obtain ⟨x, hx, hx2⟩ := hD s (List.mem_filter.mpr ⟨hs, h⟩)
              exact ⟨x, hx, List.mem_append_left _ hx2⟩
            | false =>
              obtain ⟨x, hx, hx2⟩ := not_disj h
              exact ⟨x, hx, List.mem_append_right _ hx2⟩
          have := hn _ this
          rw [List.length_append] at this
          omega
        obtain ⟨M1, a1, a2, a3⟩ := ih _ (small (fun s => disj s CB) eB) (fun s hs => hE s (List.mem_filter.mp hs).1) _ (low CB)
        obtain ⟨M2, b1, b2, b3⟩ := ih _ (small (fun s => disj s CA) eA) (fun s hs => hE s (List.mem_filter.mp hs).1) _ (low CA)
        refine ⟨M1 ++ M2, ?_, fun s hs => ?_, by rw [List.length_append, a3, b3]; omega⟩
        · rw [List.pairwise_append]
          refine ⟨a1, b1, fun s hs t ht => ?_⟩
          obtain ⟨s1, s2⟩ := List.mem_filter.mp (a2 s hs)
          obtain ⟨t1, t2⟩ := List.mem_filter.mp (b2 t ht)
          rw [disj_iff] at s2 t2
          rw [disj_iff]
          intro x hx hx2
          obtain ⟨y, hy, hyC⟩ := c0 s s1
          obtain ⟨z, hz, hzC⟩ := c0 t t1
          have py : p y = true := by
            cases h : p y with
            | true => rfl
            | false => exact absurd ((mB y).mpr ⟨hyC, h⟩) (s2 y hy)
          have pz : p z = false := by
            cases h : p z with
            | false => rfl
            | true => exact absurd ((mA z).mpr ⟨hzC, h⟩) (t2 z hz)
          cases px : p x with
          | true =>
            have := (hE s s1).2.2 x hx y hy (by rw [px, py])
            subst this
            exact t2 x hx2 ((mA x).mpr ⟨hyC, px⟩)
          | false =>
            have := (hE t t1).2.2 x hx2 z hz (by rw [px, pz])
            subst this
            exact s2 x hx ((mB x).mpr ⟨hzC, px⟩)
        · rcases List.mem_append.mp hs with hs | hs
          · exact (List.mem_filter.mp (a2 s hs)).1
          · exact (List.mem_filter.mp (b2 s hs)).1
theorem nodup_le {α : Type} [BEq α] [LawfulBEq α] : ∀ {L C : List α}, L.Nodup → (∀ x ∈ L, x ∈ C) → L.length ≤ C.length
  | [], _, _, _ => Nat.zero_le _
  | x :: L, C, h, hs => by
    rw [List.nodup_cons] at h
    have hx := hs x List.mem_cons_self
    have := nodup_le (C := C.erase x) h.2 fun y hy => by
      have hne : y ≠ x := fun e => h.1 (e ▸ hy)
      exact (List.mem_erase_of_ne hne).mpr (hs y (List.mem_cons_of_mem _ hy))
    rw [List.length_erase_of_mem hx] at this
    have := List.length_pos_of_mem hx
    simp
    omega
theorem rng_sorted (n : Nat) : (rng n).Pairwise (· < ·) := by
  unfold rng
  rw [List.pairwise_map]
  exact (List.pairwise_lt_range).imp fun h => by omega
theorem rng_nodup (n : Nat) : (rng n).Nodup := (rng_sorted n).imp fun h => by omega
/-- families whose sets have at most one thing on each side pack -/
theorem bip_pk {n : Nat} {S : LL} (h : FS n S) (hd : S.Nodup) (p : Int → Bool) (hp : ∀ s ∈ S, s ≠ [] → OneEach p s) : PKP n S := by
  by_cases hS : S = []
  · exact .inl hS
  by_cases h0 : [] ∈ S
  · exact .inr (.inl h0)
  have hE : ∀ s ∈ S, OneEach p s := fun s hs => hp s hs fun z => h0 (z ▸ hs)
  obtain ⟨ν, _, m1⟩ := v_max (packs_ne S)
  obtain ⟨τ, _, m2⟩ := v_min (covers_ne h h0)
  have key : ν = τ := by
    apply Int.le_antisymm
    · obtain ⟨P, hP, rfl⟩ := m1.1
      obtain ⟨C, hC, rfl⟩ := m2.1
      obtain ⟨p1, p2⟩ := List.mem_filter.mp hP
      obtain ⟨c1, c2⟩ := List.mem_filter.mp hC
      rw [cv_iff] at c2
      have pick : ∀ i : Int, i ∈ P → ∃ x, x ∈ at_ S i ∧ x ∈ C := fun i hi => by
        have hb := (subs_mem p1).2 i hi
        have : at_ S i ∈ S := by
          show S.getD _ _ ∈ S
          rw [getD_at S [] (by omega : i.toNat < S.length)]
          exact List.getElem_mem _
        obtain ⟨x, hx, hx2⟩ := c2 _ this
        exact ⟨x, hx, hx2⟩
      have pw : P.Pairwise fun i j => disj (at_ S i) (at_ S j) = true := by
        have := p2
        unfold PkB at this
        exact of_decide_eq_true this
      have go : ∀ L : List Int, (∀ i ∈ L, i ∈ P) → L.Pairwise (fun i j => disj (at_ S i) (at_ S j) = true) → ∃ X : List Int, X.length = L.length ∧ X.Nodup ∧ (∀ x ∈ X, x ∈ C) ∧ ∀ x ∈ X, ∃ i ∈ L, x ∈ at_ S i := by
        intro L
        induction L with
        | nil => intro _ _; exact ⟨[], rfl, List.nodup_nil, fun x hx => (nomatch hx), fun x hx => (nomatch hx)⟩
        | cons i L ih =>
          intro hL hpw
          rw [List.pairwise_cons] at hpw
          obtain ⟨X, x1, x2, x3, x4⟩ := ih (fun j hj => hL j (List.mem_cons_of_mem _ hj)) hpw.2
          obtain ⟨y, y1, y2⟩ := pick i (hL i List.mem_cons_self)
          refine ⟨y :: X, by simp [x1], ?_, fun x hx => ?_, fun x hx => ?_⟩
          · rw [List.nodup_cons]
            refine ⟨fun hy => ?_, x2⟩
            obtain ⟨j, hj, hj2⟩ := x4 y hy
            have := hpw.1 j hj
            rw [disj_iff] at this
            exact this y y1 hj2
          · rcases List.mem_cons.mp hx with rfl | hx
            · exact y2
            · exact x3 x hx
          · rcases List.mem_cons.mp hx with rfl | hx
            · exact ⟨i, List.mem_cons_self, y1⟩
            · obtain ⟨j, hj, e⟩ := x4 x hx
              exact ⟨j, List.mem_cons_of_mem _ hj, e⟩
      obtain ⟨X, x1, x2, x3, _⟩ := go P (fun i hi => hi) pw
      have := nodup_le x2 x3
      omega
    · have low : ∀ D, Cov D S → τ.toNat ≤ D.length := fun D hD => by
        have hc : (rng n).filter (fun x => decide (x ∈ D)) ∈ coversL n S := List.mem_filter.mpr ⟨rng_sub n _, cv_iff.mpr fun s hs => by
          obtain ⟨x, hx, hx2⟩ := hD s hs
          exact ⟨x, hx, List.mem_filter.mpr ⟨mem_rng.mpr ((h.e s hs).2 x hx), decide_eq_true hx2⟩⟩⟩
        have h1 := m2.2 _ hc
        have h2 := nodup_le (L := (rng n).filter fun x => decide (x ∈ D)) (C := D) ((rng_nodup n).filter _) fun x hx => of_decide_eq_true (List.mem_filter.mp hx).2
        omega
      obtain ⟨M, a1, a2, a3⟩ := konig p S.length S (Nat.le_refl _) hE τ.toNat low
      have ne : ∀ s ∈ S, disj s s = true → False := fun s hs hd => by
        rw [disj_iff] at hd
        cases s with
        | nil => exact h0 hs
        | cons x r => exact hd x List.mem_cons_self List.mem_cons_self
      have mnd : M.Nodup := by
        have : M.Pairwise fun a b => disj a b = true ∧ a ∈ M := by
          rw [List.pairwise_iff_getElem] at a1 ⊢
          exact fun i j hi hj hij => ⟨a1 i j hi hj hij, List.getElem_mem _⟩
        exact this.imp fun hab e => by
          subst e
          exact ne _ (a2 _ hab.2) hab.1
      have symm : ∀ a ∈ M, ∀ b ∈ M, a ≠ b → disj a b = true := fun a ha b hb hab => by
        obtain ⟨i, hi, rfl⟩ := List.getElem_of_mem ha
        obtain ⟨j, hj, rfl⟩ := List.getElem_of_mem hb
        rcases Nat.lt_trichotomy i j with hij | rfl | hij
        · exact (List.pairwise_iff_getElem.mp a1) i j hi hj hij
        · exact absurd rfl hab
        · rw [disj_comm]; exact (List.pairwise_iff_getElem.mp a1) j i hj hi hij
      let I := (rng S.length).filter fun i => decide (at_ S i ∈ M)
      have hI : I ∈ packsL S := by
        refine List.mem_filter.mpr ⟨rng_sub _ _, ?_⟩
        unfold PkB
        rw [decide_eq_true_iff]
        have s1 : I.Pairwise (· < ·) := (rng_sorted _).filter _
        rw [List.pairwise_iff_getElem] at s1 ⊢
        intro i j hi hj hij
        have lt := s1 i j hi hj hij
        obtain ⟨i1, i2⟩ := List.mem_filter.mp (List.getElem_mem hi)
        obtain ⟨j1, j2⟩ := List.mem_filter.mp (List.getElem_mem hj)
        rw [mem_rng] at i1 j1
        refine symm _ (of_decide_eq_true i2) _ (of_decide_eq_true j2) fun e => ?_
        have e : S.getD (I[i]).toNat [] = S.getD (I[j]).toNat [] := e
        rw [getD_at S [] (by omega : (I[i]).toNat < S.length), getD_at S [] (by omega : (I[j]).toNat < S.length)] at e
        have := (List.nodup_iff_pairwise_ne.mp hd)
        have hne := (List.pairwise_iff_getElem.mp this) (I[i]).toNat (I[j]).toNat (by omega) (by omega) (by omega)
        exact hne e
      have hlen : M.length ≤ I.length := by
        have := nodup_le (L := M) (C := I.map (at_ S)) mnd fun s hs => by
          obtain ⟨i, hi, rfl⟩ := List.getElem_of_mem (a2 s hs)
          have e : at_ S (i : Int) = S[i] := by
            show S.getD _ _ = _
            rw [getD_at S [] (by omega : (i : Int).toNat < S.length)]
            rfl
          exact List.mem_map.mpr ⟨(i : Int), List.mem_filter.mpr ⟨mem_rng.mpr ⟨by omega, by omega⟩, decide_eq_true (by rw [e]; exact hs)⟩, e⟩
        simpa using this
      have := m1.2 I hI
      omega
  exact .inr (.inr ⟨ν, m1, key ▸ m2⟩)
end K79

set_option Elab.async false
set_option linter.all false
set_option maxRecDepth 100000
set_option maxHeartbeats 2000000
namespace K79
open PySem PySem.Spec PyProof.Rows L2 DL CM
def kvD (kv : List (Int × Int)) : List (Int × D) := kv.map fun p => (p.1, .int p.2)
@[simp] theorem kvD_len (kv : List (Int × Int)) : (kvD kv).length = kv.length := by simp [kvD]
theorem kvD_cons (p : Int × Int) (kv : List (Int × Int)) : kvD (p :: kv) = (p.1, .int p.2) :: kvD kv := rfl
def col (kv : List (Int × Int)) (v : Int) : Option Int := (kv.find? fun p => decide (p.1 = v)).map (·.2)
theorem col_cons (p : Int × Int) (kv : List (Int × Int)) (v : Int) : col (p :: kv) v = if p.1 = v then some p.2 else col kv v := by
  unfold col
  by_cases h : p.1 = v
  · rw [List.find?_cons_of_pos (p := fun p : Int × Int => decide (p.1 = v)) (decide_eq_true h), if_pos h]; rfl
  · rw [List.find?_cons_of_neg (p := fun p : Int × Int => decide (p.1 = v)) (by simpa using h), if_neg h]
theorem col_get (v : Int) : ∀ kv : List (Int × Int), getD2 (kvD kv) v = (col kv v).map PyData.int
  | [] => rfl
  | p :: kv => by
    rw [col_cons]
    show (if p.1 = v then _ else getD2 (kvD kv) v) = _
    by_cases h : p.1 = v
    · rw [if_pos h, if_pos h]; rfl
    · rw [if_neg h, if_neg h, col_get v kv]
theorem col_has (v : Int) : ∀ kv : List (Int × Int), ((kvD kv).any fun p => decide (p.1 = v)) = (col kv v).isSome
  | [] => rfl
  | p :: kv => by
    rw [col_cons, kvD_cons, List.any_cons, col_has v kv]
    by_cases h : p.1 = v
    · rw [if_pos h]; simp [h]
    · rw [if_neg h]; simp [h]
theorem col_snoc (v c x : Int) : ∀ kv : List (Int × Int), col (kv ++ [(v, c)]) x = if (col kv x).isSome = true then col kv x else if v = x then some c else none
  | [] => by
    rw [List.nil_append, col_cons]
    rfl
  | p :: kv => by
    rw [List.cons_append, col_cons, col_cons, col_snoc v c x kv]
    by_cases h : p.1 = x
    · rw [if_pos h, if_pos h]; rfl
    · rw [if_neg h, if_neg h]
theorem col_put {kv : List (Int × Int)} {v : Int} (c : Int) (h : col kv v = none) : putD (kvD kv) v (.int c) = kvD (kv ++ [(v, c)]) := by
  unfold putD
  rw [col_has, h, if_neg (by simp)]
  unfold kvD
  rw [List.map_append]
  rfl
theorem col_keys {kv : List (Int × Int)} {v : Int} : (col kv v).isSome = true ↔ v ∈ kv.map (·.1) := by
  rw [← col_has]
  unfold kvD
  simp only [List.any_map, List.any_eq_true, Function.comp, decide_eq_true_eq, List.mem_map]
def EdS (n : Nat) (S : LL) : Prop := ∀ s ∈ S, ∃ a b : Int, s = [a, b] ∧ 0 ≤ a ∧ a < b ∧ b < n
def Proper (S : LL) (p : Int → Bool) : Prop := ∀ a b, [a, b] ∈ S → p a ≠ p b
def cl01 (b : Bool) : Int := if b = true then 1 else 0
structure Rn (n : Nat) (S : LL) (kv0 kv : List (Int × Int)) (W : List Int) : Prop where
  ext : ∀ v c, col kv0 v = some c → col kv v = some c
  dom : ∀ v, (col kv v).isSome = true ↔ (col kv0 v).isSome = true ∨ v ∈ W
  dis : ∀ v ∈ W, col kv0 v = none
  nd : W.Nodup
  rn : ∀ v ∈ W, 0 ≤ v ∧ v < n
  c01 : ∀ v c, col kv v = some c → c = 0 ∨ c = 1
  prp : ∀ p, Proper S p → ∃ f : Bool, ∀ v ∈ W, col kv v = some (cl01 (p v != f))
  knd : (kv.map (·.1)).Nodup
  krn : ∀ v, (col kv v).isSome = true → 0 ≤ v ∧ v < n
theorem Rn.len {n : Nat} {S : LL} {kv0 kv : List (Int × Int)} {W : List Int} (r : Rn n S kv0 kv W) : W.length ≤ n ∧ kv.length ≤ n := by
  have h1 := nodup_le (C := rng n) r.nd fun v hv => mem_rng.mpr (r.rn v hv)
  have h2 := nodup_le (C := rng n) r.knd fun v hv => mem_rng.mpr (r.krn v (col_keys.mpr hv))
  have h3 : (rng n).length = n := by unfold rng; simp
  rw [List.length_map] at h2
  omega
abbrev iF : Rho → Option Fl := zIf (kB (kBin gInA (kIx (gLst 5) (gVar 6)) (kTup (kCons (gVar 7) (kCons (gVar 8) kNil))))) (zSeq (zSet 9 (kBin gSub (kBin gAdd (gVar 7) (gVar 8)) (kIx (gLst 5) (gVar 6))))
  (zIf (kB (kDin true 3 (gVar 9))) (zSeq (zDput 3 (kBin gSub (kC (.int 1)) (kDget 3 (kIx (gLst 5) (gVar 6)))) (gVar 9))
  (zApp 5 (gVar 9))) zNext)) zNext
abbrev st (n : Nat) (S : LL) (kv : List (Int × Int)) (u4 : Sl) (W : List Int) (a : Nat) (u7 u8 u9 : Sl) : Rho := [.fr (fm n S), .fr (.int (n : Int)), .fr (iLL S), .dk (kvD kv), u4, .ow (W.map PyData.int), .fr (.int (a : Int)), u7, u8, u9, .un, .un]
theorem in_step {n : Nat} {S : LL} (hn : n ≤ 7) {kv0 kv : List (Int × Int)} {W : List Int} (r : Rn n S kv0 kv W) {i : Nat} (hi : i < W.length) {a b : Int} (hab : a < b) (ha : 0 ≤ a) (hb : b < n) (hs : [a, b] ∈ S) (u4 u9 : Sl) :
    ∃ kv' W' u9', iF (st n S kv u4 W i (.fr (.int a)) (.fr (.int b)) u9) = some (.nx (st n S kv' u4 W' i (.fr (.int a)) (.fr (.int b)) u9')) ∧ Rn n S kv0 kv' W' ∧ W <+: W' ∧ (∀ v c, col kv v = some c → col kv' v = some c) ∧
      (W[i] ∈ [a, b] → (col kv' a).isSome = true ∧ (col kv' b).isSome = true) := by
  obtain ⟨l1, l2⟩ := r.len
  have hix : atI (W.map PyData.int) (i : Int) = some (.int W[i]) := by
    rw [atI_map_nat _ _ _ hi]
  generalize hw : W[i] = w at hix
  have hwW : w ∈ W := by rw [← hw]; exact List.getElem_mem _
  have hin : gInA (.int w) (.tuple [.int a, .int b]) = some (.bool (decide (w ∈ [a, b]))) := Enc.int.inT (by decide) w [a, b]
  by_cases hm : w ∈ [a, b]
  · rw [decide_eq_true hm] at hin
    have hwc : (col kv w).isSome = true := (r.dom w).mpr (.inr hwW)
    obtain ⟨c, hc⟩ := Option.isSome_iff_exists.mp hwc
    have hor : (w = a ∧ a + b - w = b) ∨ (w = b ∧ a + b - w = a) := by
      simp at hm
      rcases hm with rfl | rfl
      · exact .inl ⟨rfl, by omega⟩
      · exact .inr ⟨rfl, by omega⟩
    generalize ho : a + b - w = o at hor
    have horn : 0 ≤ o ∧ o < n := by rcases hor with ⟨_, e⟩ | ⟨_, e⟩ <;> omega
    cases hoc : (col kv o).isSome with
    | true =>
      refine ⟨kv, W, .fr (.int o), ?_, r, List.prefix_refl _, fun v c h => h, fun _ => ?_⟩
      · have hh := col_has o kv
        rw [hoc] at hh
        simp -implicitDefEqProofs [-gInA, hix, hin, ho, hh]
      · rcases hor with ⟨rfl, rfl⟩ | ⟨rfl, rfl⟩
        · exact ⟨hwc, hoc⟩
        · exact ⟨hoc, hwc⟩
    | false =>
      have hon : col kv o = none := by simpa using hoc
      have hoW : o ∉ W := fun z => by
        have := (r.dom o).mpr (.inr z)
        rw [hoc] at this; cases this
      have ho0 : col kv0 o = none := by
        cases q : col kv0 o with
        | none => rfl
        | some z => have := r.ext o z q; rw [hon] at this; cases this
      have sn := fun x => col_snoc o (1 - c) x kv
      have keep : ∀ v d, col kv v = some d → col (kv ++ [(o, 1 - c)]) v = some d := fun v d h => by
        rw [sn, h]; rfl
      have new : col (kv ++ [(o, 1 - c)]) o = some (1 - c) := by
        rw [sn, hon]; simp
      have domn : ∀ v, (col (kv ++ [(o, 1 - c)]) v).isSome = true ↔ (col kv v).isSome = true ∨ v = o := fun v => by
        rw [sn]
        cases q : (col kv v).isSome with
        | true => simp [q]
        | false =>
          by_cases e : o = v
          · subst e; simp
          · simp [e, Ne.symm e]
      refine ⟨kv ++ [(o, 1 - c)], W ++ [o], .fr (.int o), ?_, ⟨fun v d h => keep v d (r.ext v d h), fun v => ?_, fun v hv => ?_, ?_, fun v hv => ?_, fun v d h => ?_, fun p hp => ?_, ?_, fun v hv => ?_⟩, List.prefix_append _ _, keep, fun _ => ?_⟩
      · have hh := col_has o kv
        rw [hoc] at hh
        have hg := col_get w kv
        rw [hc] at hg
        have hp := col_put (1 - c) hon
        simp -implicitDefEqProofs [-gInA, hix, hin, ho, hh, hg, hp, show kv.length < 16777216 by omega, show W.length < 16777216 by omega]
      · rw [domn, r.dom, List.mem_append]
        simp [or_assoc]
      · rcases List.mem_append.mp hv with hv | hv
        · exact r.dis v hv
        · simp at hv; subst hv; exact ho0
      · rw [List.nodup_append]
        exact ⟨r.nd, by simp, fun x hx y hy => by simp at hy; subst hy; exact fun e => hoW (e ▸ hx)⟩
      · rcases List.mem_append.mp hv with hv | hv
        · exact r.rn v hv
        · simp at hv; subst hv; exact horn
      · rw [sn] at h
        split at h
        · exact r.c01 v d h
        · split at h
          · cases h
            rcases r.c01 w c hc with rfl | rfl
            · exact .inr rfl
            · exact .inl rfl
          · cases h
      · obtain ⟨f, hf⟩ := r.prp p hp
        refine ⟨f, fun v hv => ?_⟩
        rcases List.mem_append.mp hv with hv | hv
        · exact keep v _ (hf v hv)
        · simp at hv
          subst hv
          rw [new]
          have e1 := hf w hwW
          rw [hc] at e1
          have e1 := Option.some.inj e1
          have hne : p w ≠ p v := by
            have := hp a b hs
            rcases hor with ⟨rfl, rfl⟩ | ⟨rfl, rfl⟩
            · exact this
            · exact fun z => this z.symm
          rw [e1]
          congr 1
          revert hne
          cases p w <;> cases p v <;> cases f <;> simp [cl01]
      · rw [List.map_append, List.nodup_append]
        refine ⟨r.knd, by simp, fun x hx y hy => ?_⟩
        simp at hy
        subst hy
        intro e
        subst e
        have := col_keys.mpr hx
        rw [hoc] at this; cases this
      · rcases (domn v).mp hv with h | rfl
        · exact r.krn v h
        · exact horn
      · have c1 : (col (kv ++ [(o, 1 - c)]) w).isSome = true := by rw [keep w c hc]; rfl
        have c2 : (col (kv ++ [(o, 1 - c)]) o).isSome = true := by rw [new]; rfl
        rcases hor with ⟨rfl, rfl⟩ | ⟨rfl, rfl⟩
        · exact ⟨c1, c2⟩
        · exact ⟨c2, c1⟩
  · rw [decide_eq_false hm] at hin
    refine ⟨kv, W, u9, ?_, r, List.prefix_refl _, fun v c h => h, fun z => absurd z hm⟩
    simp -implicitDefEqProofs [-gInA, hix, hin]
end K79

set_option Elab.async false
set_option linter.all false
set_option maxRecDepth 100000
set_option maxHeartbeats 2000000
namespace K79
open PySem PySem.Spec PyProof.Rows L2 DL CM
theorem pre_get {W W' : List Int} (h : W <+: W') {i : Nat} (hi : i < W.length) : ∃ hi' : i < W'.length, W'[i] = W[i] := by
  obtain ⟨t, rfl⟩ := h
  exact ⟨by rw [List.length_append]; omega, List.getElem_append_left hi⟩
abbrev tgt : D → Rho → Option Rho := sLst 2 (sCons (sName 7) (sCons (sName 8) sNil))
theorem in_loop {n : Nat} {S : LL} (hn : n ≤ 7) (hE : EdS n S) {kv0 kv : List (Int × Int)} {W : List Int} (r : Rn n S kv0 kv W) {i : Nat} (hi : i < W.length) (u4 u7 u8 u9 : Sl) :
    ∃ kv' W' u7' u8' u9', forGo tgt iF (S.map iL) (st n S kv u4 W i u7 u8 u9) = some (.nx (st n S kv' u4 W' i u7' u8' u9')) ∧ Rn n S kv0 kv' W' ∧ W <+: W' ∧ (∀ v c, col kv v = some c → col kv' v = some c) ∧ ∀ s ∈ S, W[i] ∈ s → ∀ x ∈ s, (col kv' x).isSome = true := by
  obtain ⟨ρ', e1, kv', W', u7', u8', u9', rfl, r', p', x', d'⟩ := forGo_ix (S := Unit) iL tgt iF (fun j _ ρ => ∃ kv' W' u7 u8 u9, ρ = st n S kv' u4 W' i u7 u8 u9 ∧ Rn n S kv0 kv' W' ∧ W <+: W' ∧ (∀ v c, col kv v = some c → col kv' v = some c) ∧ ∀ s ∈ S.take j, W[i] ∈ s → ∀ x ∈ s, (col kv' x).isSome = true) (fun _ _ => ()) S 0 () (st n S kv u4 W i u7 u8 u9) ⟨kv, W, u7, u8, u9, rfl, r, List.prefix_refl _, fun v c h => h, fun s hs => by simp at hs⟩ fun j s hs _ ρ ⟨kv1, W1, u7, u8, u9, e, r1, p1, x1, d1⟩ => by
    subst e
    rw [Nat.zero_add] at d1 ⊢
    have hsS := List.mem_of_getElem? hs
    obtain ⟨a, b, rfl, c1, c2, c3⟩ := hE s hsS
    obtain ⟨hi1, eW⟩ := pre_get p1 hi
    obtain ⟨kv2, W2, u9', f1, f2, f3, f4, f5⟩ := in_step hn r1 hi1 c2 c1 c3 hsS u4 u9
    refine ⟨st n S kv1 u4 W1 i (.fr (.int a)) (.fr (.int b)) u9, _, rfl, f1, kv2, W2, _, _, _, rfl, f2, p1.trans f3, fun v c h => f4 v c (x1 v c h), fun t ht hw x hx => ?_⟩
    rw [List.take_succ, hs] at ht
    rcases List.mem_append.mp ht with ht | ht
    · obtain ⟨c, hc⟩ := Option.isSome_iff_exists.mp (d1 t ht hw x hx)
      rw [f4 x c hc]; rfl
    · simp at ht
      subst ht
      obtain ⟨g1, g2⟩ := f5 (by rw [eW]; exact hw)
      simp at hx
      rcases hx with rfl | rfl
      · exact g1
      · exact g2
  refine ⟨kv', W', u7', u8', u9', e1, r', p', x', fun s hs => d' s ?_⟩
  rw [Nat.zero_add, List.take_length]
  exact hs
abbrev wT : Rho → Option Bool := kB (kBin gLt (gVar 6) (kData (kCall gLen (gLst 5))))
abbrev wB : Rho → Option Fl := zSeq (zFor (kQ (gVar 2)) tgt iF) (zSet 6 (kBin gAdd (gVar 6) (kC (.int 1))))
theorem wh {n : Nat} {S : LL} (hn : n ≤ 7) (hE : EdS n S) {kv0 : List (Int × Int)} (u4 : Sl) : ∀ (f : Nat) (kv : List (Int × Int)) (W : List Int) (i : Nat) (u7 u8 u9 : Sl), Rn n S kv0 kv W → i ≤ W.length →
    (∀ j (hj : j < W.length), j < i → ∀ s ∈ S, W[j] ∈ s → ∀ x ∈ s, (col kv x).isSome = true) → 8 ≤ f + i → ∃ kv' W' u6' u7' u8' u9', whileGo wT wB f (st n S kv u4 W i u7 u8 u9) = some (.nx (st n S kv' u4 W' u6' u7' u8' u9')) ∧ Rn n S kv0 kv' W' ∧ W <+: W' ∧ (∀ v c, col kv v = some c → col kv' v = some c) ∧ ∀ w ∈ W', ∀ s ∈ S, w ∈ s → ∀ x ∈ s, (col kv' x).isSome = true := by
  intro f
  induction f with
  | zero =>
    intro kv W i u7 u8 u9 r hi hd hf
    have := r.len.1
    omega
  | succ f ih =>
    intro kv W i u7 u8 u9 r hi hd hf
    have hlen := r.len.1
    by_cases hlt : i < W.length
    · have ht : wT (st n S kv u4 W i u7 u8 u9) = some true := by
        simp -implicitDefEqProofs [hlt]
      obtain ⟨kv1, W1, a7, a8, a9, e1, r1, p1, x1, d1⟩ := in_loop hn hE r hlt u4 u7 u8 u9
      have hb : wB (st n S kv u4 W i u7 u8 u9) = some (.nx (st n S kv1 u4 W1 (i + 1) a7 a8 a9)) := by
        show ((forGo tgt iF (S.map iL) (st n S kv u4 W i u7 u8 u9)).bind _) = _
        rw [e1, Option.bind_some]
        rfl
      obtain ⟨hi1, eW⟩ := pre_get p1 hlt
      obtain ⟨kv', W', b6, b7, b8, b9, g1, g2, g3, gx, g4⟩ := ih kv1 W1 (i + 1) a7 a8 a9 r1 hi1 (fun j hj hji s hs hw x hx => by
        by_cases hjl : j < i
        · obtain ⟨hj1, ej⟩ := pre_get p1 (show j < W.length by omega)
          rw [ej] at hw
          obtain ⟨c, hc⟩ := Option.isSome_iff_exists.mp (hd j (by omega) hjl s hs hw x hx)
          rw [x1 x c hc]; rfl
        · have : j = i := by omega
          subst this
          rw [eW] at hw
          exact d1 s hs hw x hx) (by omega)
      refine ⟨kv', W', b6, b7, b8, b9, ?_, g2, p1.trans g3, fun v c h => gx v c (x1 v c h), g4⟩
      show ((wT _).bind _) = _
      rw [ht, Option.bind_some, if_pos rfl, hb, Option.bind_some]
      exact g1
    · have hie : i = W.length := by omega
      have ht : wT (st n S kv u4 W i u7 u8 u9) = some false := by
        simp -implicitDefEqProofs [hlt]
      refine ⟨kv, W, i, u7, u8, u9, ?_, r, List.prefix_refl _, fun v c h => h, fun w hw s hs hws x hx => ?_⟩
      · show ((wT _).bind _) = _
        rw [ht, Option.bind_some, if_neg Bool.false_ne_true]
      · obtain ⟨j, hj, rfl⟩ := List.getElem_of_mem hw
        exact hd j hj (by omega) s hs hws x hx
structure Bd (n : Nat) (S : LL) (kv : List (Int × Int)) (i : Nat) : Prop where
  c01 : ∀ v c, col kv v = some c → c = 0 ∨ c = 1
  clo : ∀ a b, [a, b] ∈ S → ((col kv a).isSome = true ↔ (col kv b).isSome = true)
  prp : ∀ p, Proper S p → ∀ a b ca cb, [a, b] ∈ S → col kv a = some ca → col kv b = some cb → ca ≠ cb
  done : ∀ v : Int, 0 ≤ v → v < i → (col kv v).isSome = true
  zero : 0 < i → col kv 0 = some 0
  knd : (kv.map (·.1)).Nodup
  krn : ∀ v, (col kv v).isSome = true → 0 ≤ v ∧ v < n
  emp : i = 0 → kv = []
abbrev oB : Rho → Option Fl := zIf (kB (kDin true 3 (gVar 4))) (zSeq (zDput 3 (kC (.int 0)) (gVar 4))
  (zSeq (zSetR 5 (kLst (kCons (gVar 4) kNil)))
  (zSeq (zSet 6 (kC (.int 0)))
  (zWhile wN wT wB)))) zNext
abbrev so (n : Nat) (S : LL) (kv : List (Int × Int)) (u4 u5 u6 u7 u8 u9 : Sl) : Rho := [.fr (fm n S), .fr (.int (n : Int)), .fr (iLL S), .dk (kvD kv), u4, u5, u6, u7, u8, u9, .un, .un]
theorem out_step {n : Nat} {S : LL} (hn : n ≤ 7) (hE : EdS n S) {kv : List (Int × Int)} {i : Nat} (hi : i < n) (B : Bd n S kv i) (u5 u6 u7 u8 u9 : Sl) :
    ∃ kv' u5' u6' u7' u8' u9', oB (so n S kv (.fr (.int (i : Int))) u5 u6 u7 u8 u9) = some (.nx (so n S kv' (.fr (.int (i : Int))) u5' u6' u7' u8' u9')) ∧ Bd n S kv' (i + 1) := by
  have hh := col_has (i : Int) kv
  cases hc : (col kv (i : Int)).isSome with
  | true =>
    rw [hc] at hh
    refine ⟨kv, u5, u6, u7, u8, u9, ?_, ⟨B.c01, B.clo, B.prp, fun v h0 h1 => ?_, fun _ => ?_, B.knd, B.krn, fun z => (nomatch z)⟩⟩
    · simp -implicitDefEqProofs [hh]
    · by_cases e : v < i
      · exact B.done v h0 e
      · have : v = i := by omega
        subst this
        exact hc
    · by_cases e : 0 < i
      · exact B.zero e
      · exfalso
        have := B.emp (by omega)
        subst this
        cases hc
  | false =>
    rw [hc] at hh
    have hno : col kv (i : Int) = none := by simpa using hc
    have sn := fun x => col_snoc (i : Int) 0 x kv
    have keep : ∀ v d, col kv v = some d → col (kv ++ [((i : Int), 0)]) v = some d := fun v d h => by
      rw [sn, h]; rfl
    have new : col (kv ++ [((i : Int), 0)]) i = some 0 := by
      rw [sn, hno]; simp
    have domn : ∀ v, (col (kv ++ [((i : Int), 0)]) v).isSome = true ↔ (col kv v).isSome = true ∨ v = i := fun v => by
      rw [sn]
      cases q : (col kv v).isSome with
      | true => simp [q]
      | false =>
        by_cases e : (i : Int) = v
        · subst e; simp
        · simp [e, Ne.symm e]
    have R0 : Rn n S kv (kv ++ [((i : Int), 0)]) [(i : Int)] := by
      refine ⟨keep, fun v => by rw [domn]; simp, fun v hv => ?_, by simp, fun v hv => ?_, fun v c h => ?_, fun p hp => ⟨p i, fun v hv => ?_⟩, ?_, fun v hv => ?_⟩
      · simp at hv; subst hv; exact hno
      · simp at hv; subst hv; omega
      · rw [sn] at h
        split at h
        · exact B.c01 v c h
        · split at h <;> cases h
          exact .inl rfl
      · simp at hv; subst hv
        rw [new]
        cases p i <;> rfl
      · rw [List.map_append, List.nodup_append]
        refine ⟨B.knd, by simp, fun x hx y hy => ?_⟩
        simp at hy
        subst hy
        intro e
        subst e
        have := col_keys.mpr hx
        rw [hc] at this; cases this
      · rcases (domn v).mp hv with h | rfl
        · exact B.krn v h
        · omega
    obtain ⟨kv', W', b6, b7, b8, b9, g1, g2, g3, gx, g4⟩ := wh hn hE (.fr (.int (i : Int))) wN _ _ 0 u7 u8 u9 R0 (Nat.zero_le _) (fun j _ h => absurd h (Nat.not_lt_zero j)) (by unfold wN; omega)
    have hp := col_put 0 hno
    have l2 := R0.len.2
    rw [List.length_append] at l2
    refine ⟨kv', .ow (W'.map PyData.int), .fr (.int (b6 : Int)), b7, b8, b9, ?_, ?_⟩
    · have e1 : zDput 3 (kC (.int 0)) (gVar 4) (so n S kv (.fr (.int (i : Int))) u5 u6 u7 u8 u9) = some (.nx (so n S (kv ++ [((i : Int), 0)]) (.fr (.int (i : Int))) u5 u6 u7 u8 u9)) := by
        simp -implicitDefEqProofs [hp, show kv.length < 16777216 by omega]
      have e2 : zSetR 5 (kLst (kCons (gVar 4) kNil)) (so n S (kv ++ [((i : Int), 0)]) (.fr (.int (i : Int))) u5 u6 u7 u8 u9) = some (.nx (so n S (kv ++ [((i : Int), 0)]) (.fr (.int (i : Int))) (.ow [.int (i : Int)]) u6 u7 u8 u9)) := by
        simp -implicitDefEqProofs
      have e0 : kB (kDin true 3 (gVar 4)) (so n S kv (.fr (.int (i : Int))) u5 u6 u7 u8 u9) = some true := by
        simp -implicitDefEqProofs [hh]
      show ((kB (kDin true 3 (gVar 4)) _).bind _) = _
      rw [e0, Option.bind_some, if_pos rfl]
      show ((zDput 3 (kC (.int 0)) (gVar 4) _).bind _) = _
      rw [e1, Option.bind_some]
      show ((zSetR 5 (kLst (kCons (gVar 4) kNil)) _).bind _) = _
      rw [e2, Option.bind_some]
      exact g1
    · have hiW : (i : Int) ∈ W' := by
        obtain ⟨t, ht⟩ := g3
        rw [← ht]; simp
      have closed : ∀ a b, [a, b] ∈ S → a ∈ W' ∨ b ∈ W' → a ∈ W' ∧ b ∈ W' := fun a b hs h => by
        have hab : (col kv' a).isSome = true ∧ (col kv' b).isSome = true := by
          rcases h with h | h
          · exact ⟨g4 a h _ hs (by simp) a (by simp), g4 a h _ hs (by simp) b (by simp)⟩
          · exact ⟨g4 b h _ hs (by simp) a (by simp), g4 b h _ hs (by simp) b (by simp)⟩
        have both0 : ¬ ((col kv a).isSome = true ∧ (col kv b).isSome = true) := fun z => by
          rcases h with h | h
          · have := g2.dis a h; rw [this] at z; exact absurd z.1 (by simp)
          · have := g2.dis b h; rw [this] at z; exact absurd z.2 (by simp)
        have hclo := B.clo a b hs
        constructor
        · rcases (g2.dom a).mp hab.1 with q | q
          · exact absurd ⟨q, hclo.mp q⟩ both0
          · exact q
        · rcases (g2.dom b).mp hab.2 with q | q
          · exact absurd ⟨hclo.mpr q, q⟩ both0
          · exact q
      refine ⟨g2.c01, fun a b hs => ?_, fun p hpp a b ca cb hs ha hb => ?_, fun v h0 h1 => ?_, fun _ => ?_, g2.knd, g2.krn, fun z => (nomatch z)⟩
      · rw [g2.dom, g2.dom]
        constructor
        · rintro (h | h)
          · exact .inl ((B.clo a b hs).mp h)
          · exact .inr (closed a b hs (.inl h)).2
        · rintro (h | h)
          · exact .inl ((B.clo a b hs).mpr h)
          · exact .inr (closed a b hs (.inr h)).1
      · by_cases hW : a ∈ W' ∨ b ∈ W'
        · obtain ⟨w1, w2⟩ := closed a b hs hW
          obtain ⟨f, hf⟩ := g2.prp p hpp
          have h1 := hf a w1
          have h2 := hf b w2
          rw [ha] at h1
          rw [hb] at h2
          have h1 := Option.some.inj h1
          have h2 := Option.some.inj h2
          have h3 := hpp a b hs
          rw [h1, h2]
          revert h3
          cases p a <;> cases p b <;> cases f <;> simp [cl01]
        · have na : a ∉ W' := fun z => hW (.inl z)
          have nb : b ∉ W' := fun z => hW (.inr z)
          have ka : (col kv a).isSome = true := ((g2.dom a).mp (by rw [ha]; rfl)).resolve_right na
          have kb : (col kv b).isSome = true := ((g2.dom b).mp (by rw [hb]; rfl)).resolve_right nb
          obtain ⟨c, hc1⟩ := Option.isSome_iff_exists.mp ka
          obtain ⟨d, hd1⟩ := Option.isSome_iff_exists.mp kb
          have e1 := g2.ext a c hc1
          have e2 := g2.ext b d hd1
          rw [ha] at e1
          rw [hb] at e2
          cases e1
          cases e2
          exact B.prp p hpp a b _ _ hs hc1 hd1
      · by_cases e : v < i
        · exact (g2.dom v).mpr (.inl (B.done v h0 e))
        · have : v = i := by omega
          subst this
          exact (g2.dom _).mpr (.inr hiW)
      · by_cases e : 0 < i
        · exact g2.ext 0 0 (B.zero e)
        · have hi0 : i = 0 := by omega
          subst hi0
          exact gx 0 0 new
end K79

set_option Elab.async false
set_option linter.all false
set_option maxRecDepth 100000
set_option maxHeartbeats 2000000
namespace K79
open PySem PySem.Spec PyProof.Rows L2 DL CM
def isSideB (S : LL) (t : List Int) : Bool := S.all fun s => decide (s.length = 2) && decide ((s.filter fun x => decide (x ∈ t)).length = 1)
def sD : Option (List Int) → D
  | none => .none
  | some t => iL t
structure SideR (n : Nat) (S : LL) (r : Option (List Int)) : Prop where
  no : r = none → ∀ t ∈ subs n, isSideB S t = false
  yes : ∀ t, r = some t → t ∈ subs n ∧ isSideB S t = true ∧ (0 : Int) ∈ t
theorem side_pair {a b : Int} {t : List Int} : ((([a, b] : List Int).filter fun x => decide (x ∈ t)).length = 1) ↔ (decide (a ∈ t) ≠ decide (b ∈ t)) := by
  by_cases ha : a ∈ t <;> by_cases hb : b ∈ t <;> simp [ha, hb, List.filter]
theorem side_proper {n : Nat} {S : LL} (hE : EdS n S) {t : List Int} : isSideB S t = true ↔ Proper S fun v => decide (v ∈ t) := by
  unfold isSideB Proper
  rw [List.all_eq_true]
  constructor
  · intro h a b hs
    have := h _ hs
    rw [Bool.and_eq_true, decide_eq_true_iff, decide_eq_true_iff] at this
    exact side_pair.mp this.2
  · intro h s hs
    obtain ⟨a, b, rfl, _⟩ := hE s hs
    rw [Bool.and_eq_true, decide_eq_true_iff, decide_eq_true_iff]
    exact ⟨rfl, side_pair.mpr (h a b hs)⟩
theorem v_sides {n : Nat} {S : LL} (h : Fam n S) : ∃ r v, d_sides [fm n S] = some (.ok v) ∧ v.data = sD r ∧ SideR n S r := by
  have h1 := v_check_family h
  have hn := h.n7
  have hm := h.m
  have d1 : zDrop (kCallD d_check_family (kCons (gVar 0) kNil)) [.fr (fm n S), .un, .un, .un, .un, .un, .un, .un, .un, .un, .un, .un] = some (.nx [.fr (fm n S), .un, .un, .un, .un, .un, .un, .un, .un, .un, .un, .un]) := by
    simp -implicitDefEqProofs [h1]
  have d2 : zAsg (gVar 0) (sTup 2 (sCons (sName 1) (sCons (sName 2) sNil))) [.fr (fm n S), .un, .un, .un, .un, .un, .un, .un, .un, .un, .un, .un] = some (.nx [.fr (fm n S), .fr (.int (n : Int)), .fr (iLL S), .un, .un, .un, .un, .un, .un, .un, .un, .un]) := rfl
  have hc1 : compGo (sName 10) kYes (kBin gEqA (kData (kCall gLen (kQ (gVar 10)))) (kC (.int 2))) [.fr (fm n S), .fr (.int (n : Int)), .fr (iLL S), .un, .un, .un, .un, .un, .un, .un, .un, .un] (S.map iL) = some (S.map fun s => .bool (decide (s.length = 2))) := by
    refine compGo_all _ _ _ _ _ _ fun s hs => ⟨_, rfl, ?_⟩
    have q : gEqA (.int (s.length : Int)) (.int 2) = some (.bool (decide ((s.length : Int) = 2))) := Enc.int.eqA (by decide) _ _
    have e : decide ((s.length : Int) = 2) = decide (s.length = 2) := by rw [decide_eq_decide]; omega
    rw [e] at q
    simp -implicitDefEqProofs [-gEqA, q]
  have t1 : kNot (kB (kData (kCall gAll (kRL (kComp [10] (kQ (gVar 2)) (sName 10) kYes (kBin gEqA (kData (kCall gLen (kQ (gVar 10)))) (kC (.int 2)))))))) [.fr (fm n S), .fr (.int (n : Int)), .fr (iLL S), .un, .un, .un, .un, .un, .un, .un, .un, .un] = some (!(S.all fun s => decide (s.length = 2))) := by
    have ga : gAll (S.map fun s => PyData.bool (decide (s.length = 2))) = some (.fr (.bool (S.all fun s => decide (s.length = 2)))) := gAll_m _ _
    simp -implicitDefEqProofs [-gEqA]
    rw [hc1, Option.bind_some, fit_of (by rw [List.length_map]; omega)]
    simp -implicitDefEqProofs only [Option.bind_some, Rv.list, ga, Rv.data, asB]
    try simp
  have pre : ∀ X : Option Fl, (zSeq (zIf (kNot (kB (kData (kCall gAll (kRL (kComp [10] (kQ (gVar 2)) (sName 10) kYes (kBin gEqA (kData (kCall gLen (kQ (gVar 10)))) (kC (.int 2))))))))) (zRet (kFr (kC .none))) zNext)
    (zSeq (zDnew 3)
    (zSeq (zFor (kRange1 (kCons (gVar 1) kNil)) (sName 4) oB)
    (zSeq (zIf (kB (kData (kCall gAny (kRL (kComp [7, 8] (kQ (gVar 2)) (sLst 2 (sCons (sName 7) (sCons (sName 8) sNil))) kYes (kBin gEqA (kDget 3 (gVar 7)) (kDget 3 (gVar 8)))))))) (zRet (kFr (kC .none))) zNext)
    (zRet (kComp [11] (kRange1 (kCons (gVar 1) kNil)) (sName 11) (kB (kBin gEqA (kDget 3 (gVar 11)) (kC (.int 0)))) (gVar 11))))))) [.fr (fm n S), .fr (.int (n : Int)), .fr (iLL S), .un, .un, .un, .un, .un, .un, .un, .un, .un] = X → b_sides [.fr (fm n S), .un, .un, .un, .un, .un, .un, .un, .un, .un, .un, .un] = X := fun X hX => by
    show ((zDrop (kCallD d_check_family (kCons (gVar 0) kNil)) _).bind _) = _
    rw [d1, Option.bind_some]
    show ((zAsg (gVar 0) (sTup 2 (sCons (sName 1) (sCons (sName 2) sNil))) _).bind _) = _
    rw [d2, Option.bind_some]
    exact hX
  have fin_ : ∀ (r : Option (List Int)) (v : Rv), b_sides [.fr (fm n S), .un, .un, .un, .un, .un, .un, .un, .un, .un, .un, .un] = some (.rt v) → v.data = sD r → SideR n S r → ∃ r v, d_sides [fm n S] = some (.ok v) ∧ v.data = sD r ∧ SideR n S r := fun r v e1 e2 e3 =>
    ⟨r, v, by
      show (b_sides [.fr (fm n S), .un, .un, .un, .un, .un, .un, .un, .un, .un, .un, .un]).bind flRes = _
      rw [e1]; rfl, e2, e3⟩
  cases hall : S.all fun s => decide (s.length = 2) with
  | false =>
    rw [hall] at t1
    refine fin_ none (.fr .none) (pre _ ?_) rfl ⟨fun _ t _ => ?_, fun t e => (nomatch e)⟩
    · show ((zIf _ _ _ _).bind _) = _
      have : (zIf (kNot (kB (kData (kCall gAll (kRL (kComp [10] (kQ (gVar 2)) (sName 10) kYes (kBin gEqA (kData (kCall gLen (kQ (gVar 10)))) (kC (.int 2))))))))) (zRet (kFr (kC .none))) zNext) [.fr (fm n S), .fr (.int (n : Int)), .fr (iLL S), .un, .un, .un, .un, .un, .un, .un, .un, .un] = some (.rt (.fr .none)) := by
        show ((kNot _ _).bind _) = _
        rw [t1]; rfl
      rw [this]; rfl
    · rw [List.all_eq_false] at hall
      obtain ⟨s, hs, hl⟩ := hall
      unfold isSideB
      rw [List.all_eq_false]
      exact ⟨s, hs, by simp at hl ⊢; intro z; exact absurd z hl⟩
  | true =>
    rw [hall] at t1
    have hE : EdS n S := fun s hs => by
      have hl := List.all_eq_true.mp hall s hs
      rw [decide_eq_true_iff] at hl
      obtain ⟨_, _, hp, hr⟩ := h.e s hs
      match s, hl, hp, hr with
      | [a, b], _, hp, hr =>
        have h1 := hr a (by simp)
        have h2 := hr b (by simp)
        simp at hp
        exact ⟨a, b, rfl, h1.1, hp, h2.2⟩
    obtain ⟨ρ', e1, kv, u4, u5, u6, u7, u8, u9, rfl, B⟩ := forGo_ix (S := Unit) (fun i : Nat => PyData.int (i : Int)) (sName 4) oB (fun i _ ρ => ∃ kv u4 u5 u6 u7 u8 u9, ρ = so n S kv u4 u5 u6 u7 u8 u9 ∧ Bd n S kv i) (fun _ _ => ()) (List.range n) 0 () (so n S [] .un .un .un .un .un .un) ⟨[], _, _, _, _, _, _, rfl, ⟨fun v c hc => (nomatch hc), fun a b _ => Iff.rfl, fun p _ a b ca cb _ hc => (nomatch hc), fun v h0 h1 => by omega, fun z => absurd z (Nat.lt_irrefl 0), by simp, fun v hv => (nomatch hv), fun _ => rfl⟩⟩ fun j a ha _ ρ ⟨kv, u4, u5, u6, u7, u8, u9, e, B⟩ => by
      subst e
      obtain ⟨hj, rfl⟩ := range_get ha
      rw [Nat.zero_add] at B ⊢
      obtain ⟨kv', b5, b6, b7, b8, b9, g1, g2⟩ := out_step hn hE hj B u5 u6 u7 u8 u9
      exact ⟨so n S kv (.fr (.int (a : Int))) u5 u6 u7 u8 u9, _, rfl, g1, kv', _, _, _, _, _, _, rfl, g2⟩
    rw [List.length_range, Nat.zero_add] at B
    have colr : ∀ v : Int, 0 ≤ v → v < n → ∃ c, col kv v = some c ∧ (c = 0 ∨ c = 1) := fun v a b => by
      obtain ⟨c, hc⟩ := Option.isSome_iff_exists.mp (B.done v a b)
      exact ⟨c, hc, B.c01 v c hc⟩
    have sN := sm_of (j := (n : Int)) (by omega) (by omega)
    have hfor : zFor (kRange1 (kCons (gVar 1) kNil)) (sName 4) oB (so n S [] .un .un .un .un .un .un) = some (.nx (so n S kv u4 u5 u6 u7 u8 u9)) := by
      have : kRange1 (kCons (gVar 1) kNil) (so n S [] .un .un .un .un .un .un) = some ((List.range n).map fun i : Nat => .int (i : Int)) := by
        simp -implicitDefEqProofs [sN, rangeD_zero]
      show ((kRange1 (kCons (gVar 1) kNil) _).bind _) = _
      rw [this, Option.bind_some]
      exact e1
    have hc2 : compGo (sLst 2 (sCons (sName 7) (sCons (sName 8) sNil))) kYes (kBin gEqA (kDget 3 (gVar 7)) (kDget 3 (gVar 8))) (so n S kv u4 u5 u6 .un .un u9) (S.map iL) = some (S.map fun s => .bool (decide (col kv (s.getD 0 0) = col kv (s.getD 1 0)))) := by
      refine compGo_all _ _ _ _ _ _ fun s hs => ?_
      obtain ⟨a, b, rfl, c1, c2, c3⟩ := hE s hs
      obtain ⟨ca, ha, _⟩ := colr a c1 (by omega)
      obtain ⟨cb, hb, _⟩ := colr b (by omega) c3
      have ga := col_get a kv
      have gb := col_get b kv
      rw [ha] at ga
      rw [hb] at gb
      have q : gEqA (.int ca) (.int cb) = some (.bool (decide (ca = cb))) := Enc.int.eqA (by decide) _ _
      refine ⟨so n S kv u4 u5 u6 (.fr (.int a)) (.fr (.int b)) u9, rfl, ?_⟩
      have e : decide (col kv (([a, b] : List Int).getD 0 0) = col kv (([a, b] : List Int).getD 1 0)) = decide (ca = cb) := by
        show decide (col kv a = col kv b) = _
        rw [ha, hb, decide_eq_decide]
        exact ⟨fun z => Option.some.inj z, fun z => by rw [z]⟩
      rw [e]
      simp -implicitDefEqProofs [-gEqA, ga, gb, q]
    have t2 : kB (kData (kCall gAny (kRL (kComp [7, 8] (kQ (gVar 2)) (sLst 2 (sCons (sName 7) (sCons (sName 8) sNil))) kYes (kBin gEqA (kDget 3 (gVar 7)) (kDget 3 (gVar 8))))))) (so n S kv u4 u5 u6 u7 u8 u9) = some (S.any fun s => decide (col kv (s.getD 0 0) = col kv (s.getD 1 0))) := by
      have ga : gAny (S.map fun s => PyData.bool (decide (col kv (s.getD 0 0) = col kv (s.getD 1 0)))) = some (.fr (.bool (S.any fun s => decide (col kv (s.getD 0 0) = col kv (s.getD 1 0))))) := gAny_m _ _
      simp -implicitDefEqProofs [-gEqA]
      rw [hc2, Option.bind_some, fit_of (by rw [List.length_map]; omega)]
      simp -implicitDefEqProofs only [Option.bind_some, Rv.list, ga, Rv.data, asB]
      try simp
    have start : ∀ X : Option Fl, (zSeq (zIf (kB (kData (kCall gAny (kRL (kComp [7, 8] (kQ (gVar 2)) (sLst 2 (sCons (sName 7) (sCons (sName 8) sNil))) kYes (kBin gEqA (kDget 3 (gVar 7)) (kDget 3 (gVar 8)))))))) (zRet (kFr (kC .none))) zNext)
        (zRet (kComp [11] (kRange1 (kCons (gVar 1) kNil)) (sName 11) (kB (kBin gEqA (kDget 3 (gVar 11)) (kC (.int 0)))) (gVar 11)))) (so n S kv u4 u5 u6 u7 u8 u9) = X → b_sides [.fr (fm n S), .un, .un, .un, .un, .un, .un, .un, .un, .un, .un, .un] = X := fun X hX => pre X (by
      show ((zIf _ _ _ _).bind _) = _
      have : (zIf (kNot (kB (kData (kCall gAll (kRL (kComp [10] (kQ (gVar 2)) (sName 10) kYes (kBin gEqA (kData (kCall gLen (kQ (gVar 10)))) (kC (.int 2))))))))) (zRet (kFr (kC .none))) zNext) [.fr (fm n S), .fr (.int (n : Int)), .fr (iLL S), .un, .un, .un, .un, .un, .un, .un, .un, .un] = some (.nx [.fr (fm n S), .fr (.int (n : Int)), .fr (iLL S), .un, .un, .un, .un, .un, .un, .un, .un, .un]) := by
        show ((kNot _ _).bind _) = _
        rw [t1]; rfl
      rw [this, Option.bind_some]
      have d3 : zDnew 3 [.fr (fm n S), .fr (.int (n : Int)), .fr (iLL S), .un, .un, .un, .un, .un, .un, .un, .un, .un] = some (.nx (so n S [] .un .un .un .un .un .un)) := rfl
      show ((zDnew 3 _).bind _) = _
      rw [d3, Option.bind_some]
      show ((zFor (kRange1 (kCons (gVar 1) kNil)) (sName 4) oB (so n S [] .un .un .un .un .un .un)).bind _) = _
      rw [hfor, Option.bind_some]
      exact hX)
    cases hany : S.any fun s => decide (col kv (s.getD 0 0) = col kv (s.getD 1 0)) with
    | true =>
      rw [hany] at t2
      refine fin_ none (.fr .none) (start _ ?_) rfl ⟨fun _ t ht => ?_, fun t e => (nomatch e)⟩
      · show ((zIf _ _ _ _).bind _) = _
        have : (zIf (kB (kData (kCall gAny (kRL (kComp [7, 8] (kQ (gVar 2)) (sLst 2 (sCons (sName 7) (sCons (sName 8) sNil))) kYes (kBin gEqA (kDget 3 (gVar 7)) (kDget 3 (gVar 8)))))))) (zRet (kFr (kC .none))) zNext) (so n S kv u4 u5 u6 u7 u8 u9) = some (.rt (.fr .none)) := by
          show ((kB _ _).bind _) = _
          rw [t2]; rfl
        rw [this]; rfl
      · cases hside : isSideB S t with
        | false => rfl
        | true =>
          exfalso
          have hp := (side_proper hE).mp hside
          obtain ⟨s, hs, hq⟩ := List.any_eq_true.mp hany
          obtain ⟨a, b, rfl, c1, c2, c3⟩ := hE s hs
          rw [decide_eq_true_iff] at hq
          have hq : col kv a = col kv b := hq
          obtain ⟨ca, ha, _⟩ := colr a c1 (by omega)
          obtain ⟨cb, hb, _⟩ := colr b (by omega) c3
          rw [ha, hb] at hq
          exact B.prp _ hp a b ca cb hs ha hb (Option.some.inj hq)
    | false =>
      rw [hany] at t2
      have hc3 : compGo (sName 11) (kB (kBin gEqA (kDget 3 (gVar 11)) (kC (.int 0)))) (gVar 11) (so n S kv u4 u5 u6 u7 u8 u9) ((List.range n).map fun i : Nat => .int (i : Int)) = some (((rng n).filter fun v => decide (col kv v = some 0)).map PyData.int) := by
        have := compGo_map (fun i : Nat => PyData.int (i : Int)) (sName 11) (kB (kBin gEqA (kDget 3 (gVar 11)) (kC (.int 0)))) (gVar 11) (so n S kv u4 u5 u6 u7 u8 u9) (fun i => decide (col kv (i : Int) = some 0)) (fun i => PyData.int (i : Int)) (List.range n) fun i hi => by
          rw [List.mem_range] at hi
          obtain ⟨c, hc, _⟩ := colr (i : Int) (by omega) (by omega)
          have g := col_get (i : Int) kv
          rw [hc] at g
          have q : gEqA (.int c) (.int 0) = some (.bool (decide (c = 0))) := Enc.int.eqA (by decide) _ _
          refine ⟨_, rfl, ?_, fun _ => rfl⟩
          have e : decide (col kv (i : Int) = some 0) = decide (c = 0) := by
            rw [hc, decide_eq_decide]
            exact ⟨fun z => Option.some.inj z, fun z => by rw [z]⟩
          rw [e]
          simp -implicitDefEqProofs [-gEqA, g, q]
        rw [this]
        unfold rng
        rw [List.filter_map, List.map_map]
        rfl
      have hfl := List.length_filter_le (fun v => decide (col kv v = some 0)) (rng n)
      have hrl : (rng n).length = n := by unfold rng; simp
      have hret : zRet (kComp [11] (kRange1 (kCons (gVar 1) kNil)) (sName 11) (kB (kBin gEqA (kDget 3 (gVar 11)) (kC (.int 0)))) (gVar 11)) (so n S kv u4 u5 u6 u7 u8 u9) = some (.rt (.ow (((rng n).filter fun v => decide (col kv v = some 0)).map PyData.int))) := by
        have : kRange1 (kCons (gVar 1) kNil) (so n S kv u4 u5 u6 u7 u8 u9) = some ((List.range n).map fun i : Nat => .int (i : Int)) := by
          simp -implicitDefEqProofs [sN, rangeD_zero]
        show ((((kRange1 (kCons (gVar 1) kNil) _).bind _)).bind _) = _
        rw [this, Option.bind_some]
        show (((compGo (sName 11) (kB (kBin gEqA (kDget 3 (gVar 11)) (kC (.int 0)))) (gVar 11) (so n S kv u4 u5 u6 u7 u8 u9) ((List.range n).map fun i : Nat => .int (i : Int))).bind fit).bind _) = _
        rw [hc3, Option.bind_some, fit_of (by rw [List.length_map]; omega)]
        rfl
      refine fin_ (some ((rng n).filter fun v => decide (col kv v = some 0))) (.ow (((rng n).filter fun v => decide (col kv v = some 0)).map PyData.int)) (start _ ?_) rfl ⟨fun z => (nomatch z), fun t e => ?_⟩
      · show ((zIf _ _ _ _).bind _) = _
        have : (zIf (kB (kData (kCall gAny (kRL (kComp [7, 8] (kQ (gVar 2)) (sLst 2 (sCons (sName 7) (sCons (sName 8) sNil))) kYes (kBin gEqA (kDget 3 (gVar 7)) (kDget 3 (gVar 8)))))))) (zRet (kFr (kC .none))) zNext) (so n S kv u4 u5 u6 u7 u8 u9) = some (.nx (so n S kv u4 u5 u6 u7 u8 u9)) := by
          show ((kB _ _).bind _) = _
          rw [t2]; rfl
        rw [this, Option.bind_some]
        exact hret
      · cases e
        refine ⟨rng_sub n _, (side_proper hE).mpr fun a b hs => ?_, ?_⟩
        · obtain ⟨a', b', e', c1, c2, c3⟩ := hE _ hs
          cases e'
          obtain ⟨ca, ha, ha2⟩ := colr a c1 (by omega)
          obtain ⟨cb, hb, hb2⟩ := colr b (by omega) c3
          have hne : ca ≠ cb := fun z => by
            rw [List.any_eq_false] at hany
            have := hany _ hs
            apply this
            rw [decide_eq_true_iff]
            show col kv a = col kv b
            rw [ha, hb, z]
          have mem : ∀ v : Int, 0 ≤ v → v < n → (v ∈ (rng n).filter (fun v => decide (col kv v = some 0)) ↔ col kv v = some 0) := fun v h0 h1 => by
            rw [List.mem_filter, mem_rng, decide_eq_true_iff]
            exact ⟨fun z => z.2, fun z => ⟨⟨h0, h1⟩, z⟩⟩
          show decide (a ∈ _) ≠ decide (b ∈ _)
          intro z
          rw [decide_eq_decide] at z
          have z2 := (mem a c1 (by omega)).symm.trans (z.trans (mem b (by omega) c3))
          rw [ha, hb] at z2
          rcases ha2 with rfl | rfl <;> rcases hb2 with rfl | rfl <;> simp at hne z2
        · rw [List.mem_filter, mem_rng, decide_eq_true_iff]
          have := h.n1
          exact ⟨⟨by omega, by omega⟩, B.zero (by omega)⟩
end K79

set_option Elab.async false
set_option linter.all false
set_option maxRecDepth 100000
set_option maxHeartbeats 2000000
namespace K79
open PySem PySem.Spec PyProof.Rows L2 DL CM
theorem mx_spec' {ds : List Int} (h : Dr ds) {k many : Int} (hk : 0 ≤ k ∧ k ≤ 1000000) (hm : 0 < many ∧ many ≤ 1000000) : d_law_mix [iL ds, .int k, .int many] = some (.ok (.fr (.int (mx ds k many)))) ∧ 0 ≤ mx ds k many ∧ mx ds k many < many := CM.mx_spec h hk hm
theorem v_draws (K : PySem.W.Frag) (ns : List Int) (hn : ns.length ≤ 63) : ∃ ds, Dr ds ∧ d_law_draws K ns = some (.ok (.ow (ds.map PyData.int))) := CM.v_law_draws K ns hn
theorem fam_of {n : Nat} {L : LL} (n1 : 1 ≤ n) (n7 : n ≤ 7) (hl : 1 ≤ L.length) (hl2 : L.length ≤ 10) (hd : L.Nodup) (he : ∀ s ∈ L, s ≠ [] ∧ s.length ≤ 10 ∧ LsOk n s) : Fam n (srt L) := by
  refine ⟨n1, n7, by rw [len_srt]; exact hl, by rw [len_srt]; exact hl2, fun s hs => he s (mem_srt.mp hs), ?_⟩
  have h1 := srt_sorted L
  have h2 := List.nodup_iff_pairwise_ne.mp (nodup_srt hd)
  rw [List.pairwise_iff_getElem] at h1 h2 ⊢
  intro i j hi hj hij
  have a := h1 i j hi hj hij
  have b := h2 i j hi hj hij
  cases q : le2 (srt L)[j] (srt L)[i] with
  | false => rfl
  | true => exact absurd (le2_anti a q) b
theorem rng_ok {n : Nat} (hn : n ≤ 7) (p : Int → Bool) : ((rng n).filter p).length ≤ 10 ∧ LsOk n ((rng n).filter p) := by
  refine ⟨?_, (rng_sorted n).filter _, fun x hx => mem_rng.mp (List.mem_filter.mp hx).1⟩
  have := List.length_filter_le p (rng n)
  have h2 : (rng n).length = n := by unfold rng; simp
  omega
theorem comp_rng {n : Nat} (g : D → Rho → Option Rho) (tt : Rho → Option Bool) (te : Rho → Option D) (ρ : Rho) (p : Int → Bool) (h : ∀ i : Nat, i < n → ∃ ρ1, g (.int (i : Int)) ρ = some ρ1 ∧ tt ρ1 = some (p i) ∧ te ρ1 = some (.int (i : Int))) :
    compGo g tt te ρ ((List.range n).map fun i : Nat => .int (i : Int)) = some (((rng n).filter p).map PyData.int) := by
  have := compGo_map (fun i : Nat => PyData.int (i : Int)) g tt te ρ (fun i => p (i : Int)) (fun i => PyData.int (i : Int)) (List.range n) fun i hi => by
    obtain ⟨ρ1, h1, h2, h3⟩ := h i (List.mem_range.mp hi)
    exact ⟨ρ1, h1, h2, fun _ => h3⟩
  rw [this]
  unfold rng
  rw [List.filter_map, List.map_map]
  rfl
theorem ne_nil (t : List Int) : gEqA (iL t) (.list []) = some (.bool (decide (t = []))) := by
  have := Enc.int.list.eqA (by decide) t []
  rw [show PyData.list (([] : List Int).map fun i => PyData.int i) = .list [] from rfl] at this
  rw [show iL t = PyData.list (t.map fun i => PyData.int i) from rfl, this]
  try congr
theorem notInL_LL (t : List Int) (L : LL) : gNotInL (iL t) (L.map iL) = some (.bool (!decide (t ∈ L))) := by
  have := Enc.int.list.notInL (by decide) t L
  rw [show iL t = PyData.list (t.map fun i => PyData.int i) from rfl, this]
  try congr
abbrev famB : Rho → Option Fl := (zSeq (zSet 6 (kData (kComp [7] (kRange1 (kCons (gVar 3) kNil)) (sName 7) (kB (kBin gEqA (kData (kCallD d_law_mix (kCons (gVar 0) (kCons (kBin gAdd (kBin gAdd (kBin gAdd (gVar 1) (kC (.int 10))) (kBin gMul (kC (.int 8)) (gVar 5))) (gVar 7)) (kCons (kIx (kQ (kData (kLst (kCons (kC (.int 2)) (kCons (kC (.int 3)) (kCons (kC (.int 4)) kNil)))))) (kData (kCallD d_law_mix (kCons (gVar 0) (kCons (kBin gAdd (gVar 1) (kC (.int 2))) (kCons (kC (.int 3)) kNil)))))) kNil))))) (kC (.int 0)))) (gVar 7))))
  (zSeq (zIf (kB (kBin gEqA (gVar 6) (kData (kLst kNil)))) (zSet 6 (kData (kLst (kCons (kData (kCallD d_law_mix (kCons (gVar 0) (kCons (kBin gAdd (kBin gAdd (gVar 1) (kC (.int 100))) (gVar 5)) (kCons (gVar 3) kNil))))) kNil)))) zNext)
  (zIf (kB (kBinL gNotInL (gVar 6) (gLst 4))) (zApp 4 (gVar 6)) zNext)))
theorem famB_step {ds : List Int} (hD : Dr ds) {n : Nat} (n1 : 1 ≤ n) (n5 : n ≤ 5) {L : LL} (hl : L.length ≤ 10) {t : Nat} (ht : t < 10) (u6 u7 : Sl) :
    ∃ x, (x ≠ [] ∧ x.length ≤ 10 ∧ LsOk n x) ∧ ∃ u7', famB [.fr (iL ds), .fr (.int 10), .fr (.int 5), .fr (.int (n : Int)), .ow (L.map iL), .fr (.int (t : Int)), u6, u7] = some (.nx [.fr (iL ds), .fr (.int 10), .fr (.int 5), .fr (.int (n : Int)), .ow ((addN L x).map iL), .fr (.int (t : Int)), .fr (iL x), u7']) := by
  obtain ⟨e1, z0, z3⟩ := mx_spec' hD (k := 12) (many := 3) (by omega) (by omega)
  generalize mx ds 12 3 = z at e1 z0 z3
  obtain ⟨m, hm, m2, m4⟩ : ∃ m : Int, atI ([.int 2, .int 3, .int 4] : List D) z = some (.int m) ∧ 2 ≤ m ∧ m ≤ 4 := by
    have : z = 0 ∨ z = 1 ∨ z = 2 := by omega
    rcases this with rfl | rfl | rfl
    · exact ⟨2, rfl, by omega, by omega⟩
    · exact ⟨3, rfl, by omega, by omega⟩
    · exact ⟨4, rfl, by omega, by omega⟩
  have hc : compGo (sName 7) (kB (kBin gEqA (kData (kCallD d_law_mix (kCons (gVar 0) (kCons (kBin gAdd (kBin gAdd (kBin gAdd (gVar 1) (kC (.int 10))) (kBin gMul (kC (.int 8)) (gVar 5))) (gVar 7)) (kCons (kIx (kQ (kData (kLst (kCons (kC (.int 2)) (kCons (kC (.int 3)) (kCons (kC (.int 4)) kNil)))))) (kData (kCallD d_law_mix (kCons (gVar 0) (kCons (kBin gAdd (gVar 1) (kC (.int 2))) (kCons (kC (.int 3)) kNil)))))) kNil))))) (kC (.int 0)))) (gVar 7) [.fr (iL ds), .fr (.int 10), .fr (.int 5), .fr (.int (n : Int)), .ow (L.map iL), .fr (.int (t : Int)), u6, .un] ((List.range n).map fun i : Nat => .int (i : Int)) = some (((rng n).filter fun v => decide (mx ds (20 + 8 * (t : Int) + v) m = 0)).map PyData.int) := by
    refine comp_rng _ _ _ _ _ fun i hi => ⟨_, rfl, ?_, rfl⟩
    obtain ⟨e2, _, _⟩ := mx_spec' hD (k := 20 + 8 * (t : Int) + (i : Int)) (many := m) (by omega) (by omega)
    have q : gEqA (.int (mx ds (20 + 8 * (t : Int) + (i : Int)) m)) (.int 0) = some (.bool (decide (mx ds (20 + 8 * (t : Int) + (i : Int)) m = 0))) := Enc.int.eqA (by decide) _ _
    simp -implicitDefEqProofs only [iL] at e1 e2
    simp -implicitDefEqProofs [-gEqA, e1, hm, okMul_of (i := (8 : Int)) (j := (t : Int)) (by decide)]
    try simp -implicitDefEqProofs at e2
    simp -implicitDefEqProofs [-gEqA, e2, q]
  obtain ⟨r1, r2⟩ := rng_ok (n := n) (by omega) fun v => decide (mx ds (20 + 8 * (t : Int) + v) m = 0)
  generalize ((rng n).filter fun v => decide (mx ds (20 + 8 * (t : Int) + v) m = 0)) = y at hc r1 r2
  have sN := sm_of (j := (n : Int)) (by omega) (by omega)
  have s1 : zSet 6 (kData (kComp [7] (kRange1 (kCons (gVar 3) kNil)) (sName 7) (kB (kBin gEqA (kData (kCallD d_law_mix (kCons (gVar 0) (kCons (kBin gAdd (kBin gAdd (kBin gAdd (gVar 1) (kC (.int 10))) (kBin gMul (kC (.int 8)) (gVar 5))) (gVar 7)) (kCons (kIx (kQ (kData (kLst (kCons (kC (.int 2)) (kCons (kC (.int 3)) (kCons (kC (.int 4)) kNil)))))) (kData (kCallD d_law_mix (kCons (gVar 0) (kCons (kBin gAdd (gVar 1) (kC (.int 2))) (kCons (kC (.int 3)) kNil)))))) kNil))))) (kC (.int 0)))) (gVar 7))) [.fr (iL ds), .fr (.int 10), .fr (.int 5), .fr (.int (n : Int)), .ow (L.map iL), .fr (.int (t : Int)), u6, u7] = some (.nx [.fr (iL ds), .fr (.int 10), .fr (.int 5), .fr (.int (n : Int)), .ow (L.map iL), .fr (.int (t : Int)), .fr (iL y), u7]) := by
    have hr : kRange1 (kCons (gVar 3) kNil) [.fr (iL ds), .fr (.int 10), .fr (.int 5), .fr (.int (n : Int)), .ow (L.map iL), .fr (.int (t : Int)), u6, u7] = some ((List.range n).map fun i : Nat => .int (i : Int)) := by
      simp -implicitDefEqProofs [sN, rangeD_zero]
    show (((((kRange1 (kCons (gVar 3) kNil) _).bind _)).bind _).bind _) = _
    rw [hr, Option.bind_some]
    show ((((compGo _ _ _ [.fr (iL ds), .fr (.int 10), .fr (.int 5), .fr (.int (n : Int)), .ow (L.map iL), .fr (.int (t : Int)), u6, .un] _).bind fit).bind _).bind _) = _
    rw [hc, Option.bind_some, fit_of (by rw [List.length_map]; omega)]
    rfl
  have app : ∀ (x : List Int), (zIf (kB (kBinL gNotInL (gVar 6) (gLst 4))) (zApp 4 (gVar 6)) zNext) [.fr (iL ds), .fr (.int 10), .fr (.int 5), .fr (.int (n : Int)), .ow (L.map iL), .fr (.int (t : Int)), .fr (iL x), u7] = some (.nx [.fr (iL ds), .fr (.int 10), .fr (.int 5), .fr (.int (n : Int)), .ow ((addN L x).map iL), .fr (.int (t : Int)), .fr (iL x), u7]) := fun x => by
    have hq := notInL_LL x L
    by_cases hx : x ∈ L
    · rw [decide_eq_true hx] at hq
      rw [addN, if_pos hx]
      simp -implicitDefEqProofs [-gNotInL, hq]
    · rw [decide_eq_false hx] at hq
      rw [addN, if_neg hx]
      simp -implicitDefEqProofs [-gNotInL, hq, show L.length < 16777216 by omega]
  have hy := ne_nil y
  by_cases hyn : y = []
  · rw [decide_eq_true hyn] at hy
    obtain ⟨e3, w0, w1⟩ := mx_spec' hD (k := 10 + 100 + (t : Int)) (many := n) (by omega) (by omega)
    generalize mx ds (10 + 100 + (t : Int)) n = w at e3 w0 w1
    refine ⟨[w], ⟨by simp, by simp, ⟨by simp, fun x hx => by simp at hx; subst hx; exact ⟨w0, w1⟩⟩⟩, u7, ?_⟩
    have s2 : (zIf (kB (kBin gEqA (gVar 6) (kData (kLst kNil)))) (zSet 6 (kData (kLst (kCons (kData (kCallD d_law_mix (kCons (gVar 0) (kCons (kBin gAdd (kBin gAdd (gVar 1) (kC (.int 100))) (gVar 5)) (kCons (gVar 3) kNil))))) kNil)))) zNext) [.fr (iL ds), .fr (.int 10), .fr (.int 5), .fr (.int (n : Int)), .ow (L.map iL), .fr (.int (t : Int)), .fr (iL y), u7] = some (.nx [.fr (iL ds), .fr (.int 10), .fr (.int 5), .fr (.int (n : Int)), .ow (L.map iL), .fr (.int (t : Int)), .fr (iL [w]), u7]) := by
      simp -implicitDefEqProofs at e3
      simp -implicitDefEqProofs [-gEqA, hy, e3]
    show ((zSet 6 _ _).bind _) = _
    rw [s1, Option.bind_some]
    show ((zIf _ _ _ _).bind _) = _
    rw [s2, Option.bind_some]
    exact app [w]
  · rw [decide_eq_false hyn] at hy
    refine ⟨y, ⟨hyn, r1, r2⟩, u7, ?_⟩
    have s2 : (zIf (kB (kBin gEqA (gVar 6) (kData (kLst kNil)))) (zSet 6 (kData (kLst (kCons (kData (kCallD d_law_mix (kCons (gVar 0) (kCons (kBin gAdd (kBin gAdd (gVar 1) (kC (.int 100))) (gVar 5)) (kCons (gVar 3) kNil))))) kNil)))) zNext) [.fr (iL ds), .fr (.int 10), .fr (.int 5), .fr (.int (n : Int)), .ow (L.map iL), .fr (.int (t : Int)), .fr (iL y), u7] = some (.nx [.fr (iL ds), .fr (.int 10), .fr (.int 5), .fr (.int (n : Int)), .ow (L.map iL), .fr (.int (t : Int)), .fr (iL y), u7]) := by
      simp -implicitDefEqProofs [-gEqA, hy]
    show ((zSet 6 _ _).bind _) = _
    rw [s1, Option.bind_some]
    show ((zIf _ _ _ _).bind _) = _
    rw [s2, Option.bind_some]
    exact app y
theorem v_family {ds : List Int} (hD : Dr ds) : ∃ n S, d_law_family [iL ds, .int 10, .int 5] = some (.ok (.fr (fm n S))) ∧ Fam n S := by
  obtain ⟨e1, z0, z1⟩ := mx_spec' hD (k := 10) (many := 5) (by omega) (by omega)
  obtain ⟨e2, w0, w1⟩ := mx_spec' hD (k := 11) (many := 10) (by omega) (by omega)
  generalize mx ds 10 5 = z at e1 z0 z1
  generalize mx ds 11 10 = w at e2 w0 w1
  obtain ⟨zn, rfl⟩ := Int.eq_ofNat_of_zero_le z0
  obtain ⟨wn, rfl⟩ := Int.eq_ofNat_of_zero_le w0
  have n1 : 1 ≤ 1 + zn := by omega
  have n5 : 1 + zn ≤ 5 := by omega
  obtain ⟨ρ', f1, L, u5, u6, u7, rfl, l1, l2, l3, l4⟩ := forGo_ix (S := Unit) (fun i : Nat => PyData.int (i : Int)) (sName 5) famB (fun i _ ρ => ∃ (L : LL) (u5 u6 u7 : Sl), ρ = [.fr (iL ds), .fr (.int 10), .fr (.int 5), .fr (.int ((1 + zn : Nat) : Int)), .ow (L.map iL), u5, u6, u7] ∧ L.Nodup ∧ L.length ≤ i ∧ (0 < i → 1 ≤ L.length) ∧ ∀ s ∈ L, s ≠ [] ∧ s.length ≤ 10 ∧ LsOk (1 + zn) s) (fun _ _ => ()) (List.range (1 + wn)) 0 () [.fr (iL ds), .fr (.int 10), .fr (.int 5), .fr (.int ((1 + zn : Nat) : Int)), .ow [], .un, .un, .un] ⟨[], _, _, _, rfl, List.nodup_nil, Nat.le_refl _, fun z => absurd z (Nat.lt_irrefl 0), fun s hs => nomatch hs⟩ fun j a ha _ ρ ⟨L, u5, u6, u7, e, l1, l2, l3, l4⟩ => by
    subst e
    obtain ⟨hj, rfl⟩ := range_get ha
    obtain ⟨x, hx, u7', g⟩ := famB_step hD n1 n5 (L := L) (by omega) (t := a) (by omega) u6 u7
    refine ⟨_, _, rfl, g, addN L x, _, _, _, rfl, nodup_addN l1, by have := addN_len L x; omega, fun _ => ?_, fun s hs => ?_⟩
    · unfold addN
      split
      · rename_i hxL
        exact List.length_pos_of_mem hxL
      · simp
    · rcases mem_addN.mp hs with h | rfl
      · exact l4 s h
      · exact hx
  rw [List.length_range, Nat.zero_add] at l2 l3
  refine ⟨1 + zn, srt L, ?_, fam_of n1 (by omega) (l3 (by omega)) (by omega) l1 l4⟩
  have hs := sorted_LL (L := L) (by omega)
  have sW := sm_of (j := ((1 + wn : Nat) : Int)) (by omega) (by omega)
  have rz := rangeD_zero (1 + wn)
  have c1 : (1 : Int) + (zn : Int) = ((1 + zn : Nat) : Int) := by omega
  have c2 : (1 : Int) + (wn : Int) = ((1 + wn : Nat) : Int) := by omega
  have s1 : zSet 3 (kBin gAdd (kC (.int 1)) (kData (kCallD d_law_mix (kCons (gVar 0) (kCons (gVar 1) (kCons (gVar 2) kNil)))))) [.fr (iL ds), .fr (.int 10), .fr (.int 5), .un, .un, .un, .un, .un] = some (.nx [.fr (iL ds), .fr (.int 10), .fr (.int 5), .fr (.int ((1 + zn : Nat) : Int)), .un, .un, .un, .un]) := by
    rw [← c1]
    simp -implicitDefEqProofs [e1]
  have s2 : zSetR 4 (kLst kNil) [.fr (iL ds), .fr (.int 10), .fr (.int 5), .fr (.int ((1 + zn : Nat) : Int)), .un, .un, .un, .un] = some (.nx [.fr (iL ds), .fr (.int 10), .fr (.int 5), .fr (.int ((1 + zn : Nat) : Int)), .ow [], .un, .un, .un]) := rfl
  have s3 : kRange1 (kCons (kBin gAdd (kC (.int 1)) (kData (kCallD d_law_mix (kCons (gVar 0) (kCons (kBin gAdd (gVar 1) (kC (.int 1))) (kCons (kC (.int 10)) kNil)))))) kNil) [.fr (iL ds), .fr (.int 10), .fr (.int 5), .fr (.int ((1 + zn : Nat) : Int)), .ow [], .un, .un, .un] = some ((List.range (1 + wn)).map fun i : Nat => .int (i : Int)) := by
    have q1 : kBin gAdd (kC (.int 1)) (kData (kCallD d_law_mix (kCons (gVar 0) (kCons (kBin gAdd (gVar 1) (kC (.int 1))) (kCons (kC (.int 10)) kNil))))) [.fr (iL ds), .fr (.int 10), .fr (.int 5), .fr (.int ((1 + zn : Nat) : Int)), .ow [], .un, .un, .un] = some (.int ((1 + wn : Nat) : Int)) := by
      rw [← c2]
      simp -implicitDefEqProofs [e2]
    generalize hN : ((1 + wn : Nat) : Int) = N at q1 sW
    have rz' : rangeD 0 1 N.toNat = (List.range (1 + wn)).map fun i : Nat => PyData.int (i : Int) := by
      rw [← hN, Int.toNat_natCast, rz]
    simp -implicitDefEqProofs only [kRange1, kCons, kNil, q1, Option.bind_some, gRange1, sW, if_true, rz']
  have s4 : zRet (kFr (kTup (kCons (gVar 3) (kCons (kData (kCall gSortedC (gLst 4))) kNil)))) [.fr (iL ds), .fr (.int 10), .fr (.int 5), .fr (.int ((1 + zn : Nat) : Int)), .ow (L.map iL), u5, u6, u7] = some (.rt (.fr (fm (1 + zn) (srt L)))) := by
    simp -implicitDefEqProofs [hs]
  have : b_law_family [.fr (iL ds), .fr (.int 10), .fr (.int 5), .un, .un, .un, .un, .un] = some (.rt (.fr (fm (1 + zn) (srt L)))) := by
    show ((zSet 3 _ _).bind _) = _
    rw [s1, Option.bind_some]
    show ((zSetR 4 (kLst kNil) _).bind _) = _
    rw [s2, Option.bind_some]
    show (((kRange1 _ _).bind _).bind _) = _
    rw [s3, Option.bind_some]
    show ((forGo (sName 5) famB _ _).bind _) = _
    rw [f1, Option.bind_some]
    exact s4
  show (b_law_family [.fr (iL ds), .fr (.int 10), .fr (.int 5), .un, .un, .un, .un, .un]).bind flRes = _
  rw [this]; rfl
end K79

set_option Elab.async false
set_option linter.all false
set_option maxRecDepth 100000
set_option maxHeartbeats 2000000
namespace K79
open PySem PySem.Spec PyProof.Rows L2 DL CM
def two (a b : Int) : List Int := if b < a then [b, a] else [a, b]
theorem sort2 (a b : Int) : gSortedC [.int a, .int b] = some (.ow ((two a b).map PyData.int)) := by
  unfold gSortedC
  rw [if_pos (by rfl)]
  have e : dLe (.int a) (.int b) = !decide (b < a) := by
    show (!PySem.W.dataLt (.int b) (.int a)) = _
    rw [PySem.W.dataLt_int]
  show some (Rv.ow (insB dLe (.int a) (insB dLe (.int b) []))) = _
  show some (Rv.ow (if dLe (.int a) (.int b) = true then _ else _)) = _
  rw [e]
  unfold two
  by_cases h : b < a
  · rw [decide_eq_true h, if_pos h]; rfl
  · rw [decide_eq_false h, if_neg h]; rfl
theorem two_ok {n : Nat} {a b : Int} (ha : 0 ≤ a ∧ a < n) (hb : 0 ≤ b ∧ b < n) (h : a ≠ b) : two a b ≠ [] ∧ (two a b).length ≤ 10 ∧ LsOk n (two a b) := by
  unfold two
  by_cases q : b < a
  · rw [if_pos q]
    refine ⟨by simp, by simp, ⟨by simpa using q, fun x hx => ?_⟩⟩
    simp at hx
    rcases hx with rfl | rfl
    · exact hb
    · exact ha
  · rw [if_neg q]
    refine ⟨by simp, by simp, ⟨by simp; omega, fun x hx => ?_⟩⟩
    simp at hx
    rcases hx with rfl | rfl
    · exact ha
    · exact hb
theorem ne_nilL (L : LL) : gEqA (iLL L) (.list []) = some (.bool (decide (L = []))) := by
  have := Enc.int.list.list.eqA (by decide) L []
  rw [show PyData.list (([] : LL).map fun xs => PyData.list (xs.map fun i => PyData.int i)) = .list [] from rfl] at this
  rw [show iLL L = PyData.list (L.map fun xs => PyData.list (xs.map fun i => PyData.int i)) from rfl, this]
  try congr
abbrev pairB : Rho → Option Fl := (zSeq (zSet 5 (kData (kCallD d_law_mix (kCons (gVar 0) (kCons (kBin gAdd (kBin gAdd (gVar 1) (kBin gMul (kC (.int 2)) (gVar 4))) (kC (.int 2))) (kCons (gVar 2) kNil))))))
  (zSeq (zSet 6 (kData (kCallD d_law_mix (kCons (gVar 0) (kCons (kBin gAdd (kBin gAdd (gVar 1) (kBin gMul (kC (.int 2)) (gVar 4))) (kC (.int 3))) (kCons (gVar 2) kNil))))))
  (zIf (kAnd (kB (kBin gNeA (gVar 5) (gVar 6))) (kB (kBinL gNotInL (kData (kCall gSortedC (kRL (kLst (kCons (gVar 5) (kCons (gVar 6) kNil)))))) (gLst 3)))) (zApp 3 (kData (kCall gSortedC (kRL (kLst (kCons (gVar 5) (kCons (gVar 6) kNil))))))) zNext)))
theorem pairB_step {ds : List Int} (hD : Dr ds) {n : Nat} (n1 : 2 ≤ n) (n7 : n ≤ 7) {L : LL} (hl : L.length ≤ 10) {t : Nat} (ht : t < 10) (u5 u6 : Sl) :
    ∃ (a b : Int), (0 ≤ a ∧ a < n) ∧ (0 ≤ b ∧ b < n) ∧ pairB [.fr (iL ds), .fr (.int 200), .fr (.int (n : Int)), .ow (L.map iL), .fr (.int (t : Int)), u5, u6] = some (.nx [.fr (iL ds), .fr (.int 200), .fr (.int (n : Int)), .ow ((if a ≠ b then addN L (two a b) else L).map iL), .fr (.int (t : Int)), .fr (.int a), .fr (.int b)]) := by
  obtain ⟨e1, a0, a1⟩ := mx_spec' hD (k := 200 + 2 * (t : Int) + 2) (many := n) (by omega) (by omega)
  obtain ⟨e2, b0, b1⟩ := mx_spec' hD (k := 200 + 2 * (t : Int) + 3) (many := n) (by omega) (by omega)
  generalize mx ds (200 + 2 * (t : Int) + 2) n = a at e1 a0 a1
  generalize mx ds (200 + 2 * (t : Int) + 3) n = b at e2 b0 b1
  refine ⟨a, b, ⟨a0, a1⟩, ⟨b0, b1⟩, ?_⟩
  have om := okMul_of (i := (2 : Int)) (j := (t : Int)) (by decide)
  have s1 : zSet 5 (kData (kCallD d_law_mix (kCons (gVar 0) (kCons (kBin gAdd (kBin gAdd (gVar 1) (kBin gMul (kC (.int 2)) (gVar 4))) (kC (.int 2))) (kCons (gVar 2) kNil))))) [.fr (iL ds), .fr (.int 200), .fr (.int (n : Int)), .ow (L.map iL), .fr (.int (t : Int)), u5, u6] = some (.nx [.fr (iL ds), .fr (.int 200), .fr (.int (n : Int)), .ow (L.map iL), .fr (.int (t : Int)), .fr (.int a), u6]) := by
    simp -implicitDefEqProofs [om, e1]
  have s2 : zSet 6 (kData (kCallD d_law_mix (kCons (gVar 0) (kCons (kBin gAdd (kBin gAdd (gVar 1) (kBin gMul (kC (.int 2)) (gVar 4))) (kC (.int 3))) (kCons (gVar 2) kNil))))) [.fr (iL ds), .fr (.int 200), .fr (.int (n : Int)), .ow (L.map iL), .fr (.int (t : Int)), .fr (.int a), u6] = some (.nx [.fr (iL ds), .fr (.int 200), .fr (.int (n : Int)), .ow (L.map iL), .fr (.int (t : Int)), .fr (.int a), .fr (.int b)]) := by
    simp -implicitDefEqProofs [om, e2]
  have q1 : gNeA (.int a) (.int b) = some (.bool (!decide (a = b))) := Enc.int.neA (by decide) a b
  have q2 := sort2 a b
  have q3 := notInL_LL (two a b) L
  show ((zSet 5 _ _).bind _) = _
  rw [s1, Option.bind_some]
  show ((zSet 6 _ _).bind _) = _
  rw [s2, Option.bind_some]
  by_cases hab : a = b
  · rw [decide_eq_true hab] at q1
    rw [if_neg (by simpa using hab)]
    simp -implicitDefEqProofs [-gNeA, q1]
  · rw [decide_eq_false hab] at q1
    rw [if_pos hab]
    by_cases hx : two a b ∈ L
    · rw [decide_eq_true hx] at q3
      rw [addN, if_pos hx]
      simp -implicitDefEqProofs [-gNeA, -gNotInL, q1, q2, q3]
    · rw [decide_eq_false hx] at q3
      rw [addN, if_neg hx]
      simp -implicitDefEqProofs [-gNeA, -gNotInL, q1, q2, q3, show L.length < 16777216 by omega]
theorem v_pairs {ds : List Int} (hD : Dr ds) : ∃ n S, d_law_pairs [iL ds, .int 200] = some (.ok (.fr (fm n S))) ∧ Fam n S := by
  obtain ⟨e1, z0, z1⟩ := mx_spec' hD (k := 200) (many := 6) (by omega) (by omega)
  obtain ⟨e2, w0, w1⟩ := mx_spec' hD (k := 201) (many := 10) (by omega) (by omega)
  generalize mx ds 200 6 = z at e1 z0 z1
  generalize mx ds 201 10 = w at e2 w0 w1
  obtain ⟨zn, rfl⟩ := Int.eq_ofNat_of_zero_le z0
  obtain ⟨wn, rfl⟩ := Int.eq_ofNat_of_zero_le w0
  have n2 : 2 ≤ 2 + zn := by omega
  have n7 : 2 + zn ≤ 7 := by omega
  obtain ⟨ρ', f1, L, u4, u5, u6, rfl, l1, l2, l4⟩ := forGo_ix (S := Unit) (fun i : Nat => PyData.int (i : Int)) (sName 4) pairB (fun i _ ρ => ∃ (L : LL) (u4 u5 u6 : Sl), ρ = [.fr (iL ds), .fr (.int 200), .fr (.int ((2 + zn : Nat) : Int)), .ow (L.map iL), u4, u5, u6] ∧ L.Nodup ∧ L.length ≤ i ∧ ∀ s ∈ L, s ≠ [] ∧ s.length ≤ 10 ∧ LsOk (2 + zn) s) (fun _ _ => ()) (List.range (1 + wn)) 0 () [.fr (iL ds), .fr (.int 200), .fr (.int ((2 + zn : Nat) : Int)), .ow [], .un, .un, .un] ⟨[], _, _, _, rfl, List.nodup_nil, Nat.le_refl _, fun s hs => nomatch hs⟩ fun j a ha _ ρ ⟨L, u4, u5, u6, e, l1, l2, l4⟩ => by
    subst e
    obtain ⟨hj, rfl⟩ := range_get ha
    obtain ⟨x, y, hx, hy, g⟩ := pairB_step hD n2 n7 (L := L) (by omega) (t := a) (by omega) u5 u6
    refine ⟨_, _, rfl, g, _, _, _, _, rfl, ?_, ?_, fun s hs => ?_⟩
    · split
      · exact nodup_addN l1
      · exact l1
    · split
      · have := addN_len L (two x y); omega
      · omega
    · split at hs
      · rename_i hne
        rcases mem_addN.mp hs with h | rfl
        · exact l4 s h
        · exact two_ok hx hy hne
      · exact l4 s hs
  rw [List.length_range, Nat.zero_add] at l2
  have sW := sm_of (j := ((1 + wn : Nat) : Int)) (by omega) (by omega)
  have rz := rangeD_zero (1 + wn)
  have c1 : (2 : Int) + (zn : Int) = ((2 + zn : Nat) : Int) := by omega
  have c2 : (1 : Int) + (wn : Int) = ((1 + wn : Nat) : Int) := by omega
  have s1 : zSet 2 (kBin gAdd (kC (.int 2)) (kData (kCallD d_law_mix (kCons (gVar 0) (kCons (gVar 1) (kCons (kC (.int 6)) kNil)))))) [.fr (iL ds), .fr (.int 200), .un, .un, .un, .un, .un] = some (.nx [.fr (iL ds), .fr (.int 200), .fr (.int ((2 + zn : Nat) : Int)), .un, .un, .un, .un]) := by
    rw [← c1]
    simp -implicitDefEqProofs [e1]
  have s2 : zSetR 3 (kLst kNil) [.fr (iL ds), .fr (.int 200), .fr (.int ((2 + zn : Nat) : Int)), .un, .un, .un, .un] = some (.nx [.fr (iL ds), .fr (.int 200), .fr (.int ((2 + zn : Nat) : Int)), .ow [], .un, .un, .un]) := rfl
  have s3 : kRange1 (kCons (kBin gAdd (kC (.int 1)) (kData (kCallD d_law_mix (kCons (gVar 0) (kCons (kBin gAdd (gVar 1) (kC (.int 1))) (kCons (kC (.int 10)) kNil)))))) kNil) [.fr (iL ds), .fr (.int 200), .fr (.int ((2 + zn : Nat) : Int)), .ow [], .un, .un, .un] = some ((List.range (1 + wn)).map fun i : Nat => .int (i : Int)) := by
    have q1 : kBin gAdd (kC (.int 1)) (kData (kCallD d_law_mix (kCons (gVar 0) (kCons (kBin gAdd (gVar 1) (kC (.int 1))) (kCons (kC (.int 10)) kNil))))) [.fr (iL ds), .fr (.int 200), .fr (.int ((2 + zn : Nat) : Int)), .ow [], .un, .un, .un] = some (.int ((1 + wn : Nat) : Int)) := by
      rw [← c2]
      simp -implicitDefEqProofs [e2]
    generalize hN : ((1 + wn : Nat) : Int) = N at q1 sW
    have rz' : rangeD 0 1 N.toNat = (List.range (1 + wn)).map fun i : Nat => PyData.int (i : Int) := by
      rw [← hN, Int.toNat_natCast, rz]
    simp -implicitDefEqProofs only [kRange1, kCons, kNil, q1, Option.bind_some, gRange1, sW, if_true, rz']
  have fin : ∀ S, (zIce 3 (zRet (kFr (kTup (kCons (gVar 2) (kCons (kData (kCall gSortedC (kL (kBin gAdd (gVar 3) (kBin gMul (kData (kLst (kCons (kData (kLst (kCons (kC (.int 0)) (kCons (kC (.int 1)) kNil)))) kNil))) (kData (kCall gInt (kCons (kBin gEqA (gVar 3) (kData (kLst kNil))) kNil)))))))) kNil)))))) [.fr (iL ds), .fr (.int 200), .fr (.int ((2 + zn : Nat) : Int)), .ow (L.map iL), u4, u5, u6] = some (.rt (.fr (fm (2 + zn) S))) → d_law_pairs [iL ds, .int 200] = some (.ok (.fr (fm (2 + zn) S))) := fun S hS => by
    have : b_law_pairs [.fr (iL ds), .fr (.int 200), .un, .un, .un, .un, .un] = some (.rt (.fr (fm (2 + zn) S))) := by
      show ((zSet 2 _ _).bind _) = _
      rw [s1, Option.bind_some]
      show ((zSetR 3 (kLst kNil) _).bind _) = _
      rw [s2, Option.bind_some]
      show (((kRange1 _ _).bind _).bind _) = _
      rw [s3, Option.bind_some]
      show ((forGo (sName 4) pairB _ _).bind _) = _
      rw [f1, Option.bind_some]
      exact hS
    show (b_law_pairs [.fr (iL ds), .fr (.int 200), .un, .un, .un, .un, .un]).bind flRes = _
    rw [this]; rfl
  have q := ne_nilL L
  by_cases hL : L = []
  · subst hL
    rw [decide_eq_true rfl] at q
    have hs := sorted_LL (L := [[0, 1]]) (by decide)
    refine ⟨2 + zn, srt [[0, 1]], fin _ ?_, fam_of (by omega) n7 (by decide) (by decide) (by simp) fun s hs => ?_⟩
    · have q' : gEqA (.list []) (.list []) = some (.bool true) := q
      have hs' : gSortedC [.list [.int 0, .int 1]] = some (.ow ((srt [[0, 1]]).map iL)) := hs
      simp -implicitDefEqProofs [-gEqA, q', hs']
    · simp at hs
      subst hs
      exact ⟨by simp, by simp, ⟨by simp, fun x hx => by simp at hx; omega⟩⟩
  · rw [decide_eq_false hL] at q
    have hs := sorted_LL (L := L) (by omega)
    refine ⟨2 + zn, srt L, fin _ ?_, fam_of (by omega) n7 (List.length_pos_iff.mpr hL) (by omega) l1 l4⟩
    simp -implicitDefEqProofs [-gEqA, q, hs, show L.length ≤ 16777216 by omega]
theorem fam3 : Fam 3 [[0, 1], [0, 2], [1, 2]] := by
  refine ⟨by decide, by decide, by decide, by decide, fun s hs => ?_, ?_⟩
  · simp at hs
    rcases hs with rfl | rfl | rfl <;> exact ⟨by simp, by simp, ⟨by simp, fun x hx => by simp at hx; omega⟩⟩
  · simp only [List.pairwise_cons, le2_eq]
    decide
end K79

set_option Elab.async false
set_option linter.all false
set_option maxRecDepth 100000
set_option maxHeartbeats 2000000
namespace K79
open PySem PySem.Spec PyProof.Rows L2 DL CM
/-! ### sorted ints -/
def leI (a b : Int) : Bool := !decide (b < a)
theorem dLe_int (a b : Int) : dLe (.int a) (.int b) = leI a b := by
  show (!PySem.W.dataLt (.int b) (.int a)) = _
  rw [PySem.W.dataLt_int]; rfl
def srtI (L : List Int) : List Int := isort leI L
theorem srtI_eq (L : List Int) : isort dLe (L.map PyData.int) = (srtI L).map PyData.int := by
  rw [isort_map PyData.int dLe L]
  have : (fun a b => dLe (PyData.int a) (PyData.int b)) = leI := by funext a b; exact dLe_int a b
  rw [this]; rfl
theorem sorted_I {L : List Int} (h : L.length ≤ 1000000) : gSortedC (L.map PyData.int) = some (.ow ((srtI L).map PyData.int)) := by
  unfold gSortedC
  rw [if_pos, srtI_eq]
  simp only [Bool.and_eq_true, decide_eq_true_eq, List.all_eq_true, alikes, sortable1, Bool.or_eq_true]
  refine ⟨⟨⟨fun d hd e he => ?_, .inr fun d hd => ?_⟩, by rw [List.length_map, line_v]; omega⟩, fun d hd => ?_⟩
  · obtain ⟨a, _, rfl⟩ := List.mem_map.mp hd
    obtain ⟨b, _, rfl⟩ := List.mem_map.mp he
    rfl
  · obtain ⟨a, _, rfl⟩ := List.mem_map.mp hd; rfl
  · obtain ⟨a, _, rfl⟩ := List.mem_map.mp hd
    exact Nat.zero_le _
theorem srtI_ok {n : Nat} {L : List Int} (hd : L.Nodup) (hr : ∀ x ∈ L, 0 ≤ x ∧ x < n) : LsOk n (srtI L) ∧ ∀ x, x ∈ srtI L ↔ x ∈ L := by
  have hp := isort_perm leI L
  have tr : ∀ a b c : Int, leI a b = true → leI b c = true → leI a c = true := fun a b c h1 h2 => by
    unfold leI at *; simp at *; omega
  have to : ∀ a b : Int, (leI a b || leI b a) = true := fun a b => by
    unfold leI; simp; omega
  have hs := List.pairwise_mergeSort (le := leI) tr to L
  rw [isort_eq tr to] at hs
  have hn : (srtI L).Nodup := hp.nodup_iff.mpr hd
  refine ⟨⟨?_, fun x hx => hr x (hp.mem_iff.mp hx)⟩, fun x => hp.mem_iff⟩
  have h2 := List.nodup_iff_pairwise_ne.mp hn
  have hs' : (srtI L).Pairwise fun a b => leI a b = true := hs
  rw [List.pairwise_iff_getElem] at hs' h2 ⊢
  intro i j hi hj hij
  have a := hs' i j hi hj hij
  have b := h2 i j hi hj hij
  unfold leI at a
  simp at a
  omega
/-! ### repr -/
theorem rb_L {n : Nat} (hn : n ≤ 7) {t : List Int} (hl : t.length ≤ 10) (h : ∀ x ∈ t, 0 ≤ x ∧ x < n) : RB 1000 1 (iL t) := by
  have := RB.list (n := 60) (k := 0) (m := 10) (ds := t.map PyData.int) (fun d hd => by
    obtain ⟨x, hx, rfl⟩ := List.mem_map.mp hd
    have := h x hx
    exact RB.int (by omega)) (by rw [List.length_map]; exact hl)
  exact this.mono (by decide) (by decide)
theorem rb_LL {n : Nat} {S : LL} (h : FS n S) : RB 20000 2 (iLL S) := by
  have := RB.list (n := 1000) (k := 1) (m := 10) (ds := S.map iL) (fun d hd => by
    obtain ⟨s, hs, rfl⟩ := List.mem_map.mp hd
    obtain ⟨a, b⟩ := h.e s hs
    exact rb_L h.n7 a b) (by rw [List.length_map]; exact h.m)
  exact this.mono (by decide) (by decide)
theorem repr_LL {n : Nat} {S : LL} (h : FS n S) : gRepr [iLL S] = some (.fr (.str (iLL S).shown)) := gRepr_ok (rb_LL h) (by decide) (by decide)
theorem repr_fm {n : Nat} {S : LL} (h : FS n S) : gRepr [fm n S] = some (.fr (.str (fm n S).shown)) := by
  have := RB.tuple (n := 20000) (k := 2) (m := 2) (ds := [.int (n : Int), iLL S]) (fun d hd => by
    simp at hd
    rcases hd with rfl | rfl
    · have := h.n7
      exact (RB.int (by omega)).mono (by decide) (by decide)
    · exact rb_LL h) (by simp)
  exact gRepr_ok this (by decide) (by decide)
theorem repr_bool (b : Bool) : gRepr [.bool b] = some (.fr (.str (PyData.bool b).shown)) := by
  have h : RB 100 0 (.bool b) := ⟨rfl, rfl, Nat.le_refl _, by cases b <;> decide +kernel⟩
  exact gRepr_ok h (by decide) (by decide)
theorem repr_pD {n : Nat} (hn : n ≤ 7) (r : Option (List Int × List Int)) (h : ∀ o g, r = some (o, g) → o ∈ subs n ∧ g ∈ subs n) : gRepr [pD r] = some (.fr (.str (pD r).shown)) := by
  cases r with
  | none => exact gRepr_ok RB.none (by decide) (by decide)
  | some p =>
    obtain ⟨o, g⟩ := p
    obtain ⟨h1, h2⟩ := h o g rfl
    have a := subs_mem h1
    have b := subs_mem h2
    have := RB.tuple (n := 1000) (k := 1) (m := 2) (ds := [iL o, iL g]) (fun d hd => by
      simp at hd
      rcases hd with rfl | rfl
      · exact rb_L hn (by omega) a.2
      · exact rb_L hn (by omega) b.2) (by simp)
    exact gRepr_ok this (by decide) (by decide)
theorem ne_str (s : Str) : gNeA (.str s) (.str s) = some (.bool false) := by
  simp [gNeA]
theorem ne_hStr (s : Str) (hs : PyData.strOk s = true) (k : Int) : gNeA (hStr s k) (hStr s k) = some (.bool false) := by
  rw [gNeA_ne (by intro x; exact fun z => nomatch z)]
  unfold gNe
  have h : SeqAt.shaped (hStr s k) = true := by
    unfold SeqAt.shaped
    simp [PyData.canLay0, PyData.canLayAll0, PyData.depth, PyData.depthAll, hs]
  rw [if_pos ⟨h, h⟩]
  simp [PyData.eqv, PyData.eqvAll]
theorem ne_bool (a b : Bool) : gNeA (.bool a) (.bool b) = some (.bool (!decide (a = b))) := by
  cases a <;> cases b <;> rfl
end K79

set_option Elab.async false
set_option linter.all false
set_option maxRecDepth 100000
set_option maxHeartbeats 2000000
namespace K79
open PySem PySem.Spec PyProof.Rows L2 DL CM
noncomputable section
def w0 : Rho → Option Fl :=
  (zSeq (zSet 9 (kData (kComp [15] (kRange1 (kCons (gVar 5) kNil)) (sName 15) (kB (kBin gEqA (kData (kCallD d_law_mix (kCons (gVar 1) (kCons (kBin gAdd (kBin gAdd (kBin gAdd (kC (.int 300)) (kBin gMul (kC (.int 50)) (gVar 3))) (kBin gMul (kC (.int 10)) (gVar 8))) (gVar 15)) (kCons (kC (.int 4)) kNil))))) (kC (.int 0)))) (gVar 15))))
  (zSeq (zSet 10 (kData (kComp [15] (kRange1 (kCons (gVar 5) kNil)) (sName 15) (kAnd (kB (kBin gNotIn (gVar 15) (gVar 9))) (kB (kBin gEqA (kData (kCallD d_law_mix (kCons (gVar 1) (kCons (kBin gAdd (kBin gAdd (kBin gAdd (kC (.int 450)) (kBin gMul (kC (.int 50)) (gVar 3))) (kBin gMul (kC (.int 10)) (gVar 8))) (gVar 15)) (kCons (kC (.int 3)) kNil))))) (kC (.int 0))))) (gVar 15))))
  (zSeq (zIf (kB (kBin gNeA (kData (kCall gRepr (kCons (kData (kCallD d_minor (kCons (gVar 4) (kCons (gVar 9) (kCons (gVar 10) kNil))))) kNil))) (kData (kCall gRepr (kCons (kData (kCallD d_law_minor (kCons (gVar 6) (kCons (gVar 9) (kCons (gVar 10) kNil))))) kNil))))) (zRet (kFr (kC (.bool false)))) zNext)
  (zIf (kAnd (kB (kBin gNeA (gVar 9) (kData (kLst kNil)))) (kB (kBin gNeA (kData (kCallD d_law_word (kCons (kC (.int 0)) (kCons (gVar 4) (kCons (gVar 9) (kCons (kData (kCall gSortedC (kL (kBin gAdd (gVar 9) (gVar 10))))) kNil)))))) (kTup (kCons (kC (.str "both")) (kCons (kIx (kQ (gVar 9)) (kC (.int 0))) kNil)))))) (zRet (kFr (kC (.bool false)))) zNext))))
def w1 : Rho → Option Fl :=
  (zIf (kAnd (kB (kBin gLt (gVar 5) (kC (.int 5)))) (kAnd (kB (kBin gIs (gVar 11) (kC .none))) (kAnd (kNot (kB (kData (kCallD d_law_meets (kCons (gVar 9) (kCons (gVar 10) kNil)))))) (kNot (kB (kData (kCallD d_law_packs (kCons (gVar 5) (kCons (kData (kCallD d_law_minor (kCons (gVar 6) (kCons (gVar 9) (kCons (gVar 10) kNil))))) kNil))))))))) (zSet 11 (kTup (kCons (gVar 9) (kCons (gVar 10) kNil)))) zNext)
def w2 : Rho → Option Fl :=
  (zFor (kQ (kData (kCallD d_law_lists (kCons (gVar 5) kNil)))) (sName 10) w1)
def w3 : Rho → Option Fl :=
  (zSeq (zSet 4 (kIx (kQ (gVar 2)) (gVar 3)))
  (zSeq (zAsg (gVar 4) (sTup 2 (sCons (sName 5) (sCons (sName 6) sNil))))
  (zSeq (zSet 7 (kData (kCall gRepr (kCons (gVar 4) kNil))))
  (zSeq (zIf (kB (kBin gNeA (kData (kCall gRepr (kCons (kData (kCallD d_packs (kCons (gVar 4) kNil))) kNil))) (kData (kCall gRepr (kCons (kData (kCallD d_law_packs (kCons (gVar 5) (kCons (gVar 6) kNil)))) kNil))))) (zRet (kFr (kC (.bool false)))) zNext)
  (zSeq (zFor (kRange1 (kCons (kC (.int 4)) kNil)) (sName 8) w0)
  (zSeq (zSet 11 (kC .none))
  (zSeq (zFor (kQ (kData (kCallD d_law_lists (kCons (gVar 5) kNil)))) (sName 9) w2)
  (zSeq (zIf (kB (kBin gLt (gVar 5) (kC (.int 5)))) (zIf (kB (kBin gNeA (kData (kCall gRepr (kCons (kData (kCallD d_bad_minor (kCons (gVar 4) kNil))) kNil))) (kData (kCall gRepr (kCons (gVar 11) kNil))))) (zRet (kFr (kC (.bool false)))) zNext) (zIf (kB (kBin gEqA (gVar 5) (kC (.int 5)))) (zSeq (zSet 12 (kData (kCallD d_bad_minor (kCons (gVar 4) kNil))))
  (zIf (kOr (kAnd (kB (kBin gIs (gVar 12) (kC .none))) (kNot (kB (kData (kCallD d_law_packs (kCons (gVar 5) (kCons (gVar 6) kNil))))))) (kAnd (kB (kBin gIsNot (gVar 12) (kC .none))) (kB (kData (kCallD d_law_packs (kCons (gVar 5) (kCons (kData (kCallD d_law_minor (kCons (gVar 6) (kCons (kIx (kQ (gVar 12)) (kC (.int 0))) (kCons (kIx (kQ (gVar 12)) (kC (.int 1))) kNil))))) kNil))))))) (zRet (kFr (kC (.bool false)))) zNext)) (zIf (kB (kBin gNeA (kData (kCallD d_law_word (kCons (kC (.int 1)) (kCons (gVar 4) (kCons (kData (kLst kNil)) (kCons (kData (kLst kNil)) kNil)))))) (kTup (kCons (kC (.str "many")) (kCons (gVar 5) kNil))))) (zRet (kFr (kC (.bool false)))) zNext)))
  (zSeq (zSet 13 (kData (kCallD d_sides (kCons (gVar 4) kNil))))
  (zSeq (zSet 14 (kData (kComp [12] (kQ (kData (kCallD d_law_lists (kCons (gVar 5) kNil)))) (sName 12) (kB (kData (kCallD d_law_is_side (kCons (gVar 4) (kCons (gVar 12) kNil))))) (gVar 12))))
  (zSeq (zIf (kB (kBin gNeA (kBin gIs (gVar 13) (kC .none)) (kBin gEqA (gVar 14) (kData (kLst kNil))))) (zRet (kFr (kC (.bool false)))) zNext)
  (zSeq (zIf (kAnd (kB (kBin gIsNot (gVar 13) (kC .none))) (kOr (kB (kBin gNotIn (gVar 13) (gVar 14))) (kOr (kNot (kB (kData (kCallD d_law_packs (kCons (gVar 5) (kCons (gVar 6) kNil)))))) (kOr (kB (kBin gNotIn (kC (.int 0)) (gVar 13))) (kAnd (kB (kBin gLt (gVar 5) (kC (.int 6)))) (kB (kBin gIsNot (kData (kCallD d_bad_minor (kCons (gVar 4) kNil))) (kC .none)))))))) (zRet (kFr (kC (.bool false)))) zNext)
  (zIf (kOr (kB (kBin gNeA (kData (kCallD d_law_word (kCons (kC (.int 0)) (kCons (gVar 4) (kCons (kData (kLst (kCons (gVar 5) kNil))) (kCons (kData (kLst kNil)) kNil)))))) (kTup (kCons (kC (.str "set")) (kCons (kC (.int 0)) kNil))))) (kOr (kB (kBin gNeA (kData (kCallD d_law_word (kCons (kC (.int 0)) (kCons (gVar 4) (kCons (kData (kLst kNil)) (kCons (kData (kLst (kCons (kC (.int 0)) (kCons (kC (.int 0)) kNil)))) kNil)))))) (kTup (kCons (kC (.str "set")) (kCons (kC (.int 1)) kNil))))) (kB (kBin gNeA (kData (kCall gRepr (kCons (gVar 4) kNil))) (gVar 7))))) (zRet (kFr (kC (.bool false)))) zNext)))))))))))))
theorem b_law_eq (K : PySem.W.Frag) : b_law K = (zSeq (zSet 1 (kData (kCallSc K (d_law_draws K) 0)))
  (zSeq (zSet 2 (kData (kLst (kCons (kData (kCallD d_law_family (kCons (gVar 1) (kCons (kC (.int 10)) (kCons (kC (.int 5)) kNil))))) (kCons (kData (kCallD d_law_pairs (kCons (gVar 1) (kCons (kC (.int 200)) kNil)))) (kCons (kTup (kCons (kC (.int 3)) (kCons (kData (kLst (kCons (kData (kLst (kCons (kC (.int 0)) (kCons (kC (.int 1)) kNil)))) (kCons (kData (kLst (kCons (kC (.int 0)) (kCons (kC (.int 2)) kNil)))) (kCons (kData (kLst (kCons (kC (.int 1)) (kCons (kC (.int 2)) kNil)))) kNil))))) kNil))) kNil))))))
  (zSeq (zFor (kRange1 (kCons (kC (.int 3)) kNil)) (sName 3) w3)
  (zRet (kFr (kC (.bool true))))))) := rfl
end
abbrev sw (K : PySem.W.Frag) (ns ds : List Int) (F : D) (t n : Nat) (S : LL) (kept : Sl) (u8 u9 u10 u11 u12 u13 u14 u15 : Sl) : Rho := [.sc K ns, .fr (iL ds), .fr F, .fr (.int (t : Int)), .fr (fm n S), .fr (.int (n : Int)), .fr (iLL S), kept, u8, u9, u10, u11, u12, u13, u14, u15]
theorem kR1 {ρ : Rho} {f : Rho → Option D} {n : Nat} (h : f ρ = some (.int (n : Int))) (hn : n ≤ 1000) : kRange1 (kCons f kNil) ρ = some ((List.range n).map fun i : Nat => .int (i : Int)) := by
  have sN := sm_of (j := (n : Int)) (by omega) (by omega)
  have rz := rangeD_zero n
  generalize hN : (n : Int) = N at h sN
  have rz' : rangeD 0 1 N.toNat = (List.range n).map fun i : Nat => PyData.int (i : Int) := by
    rw [← hN, Int.toNat_natCast, rz]
  simp -implicitDefEqProofs only [kRange1, kCons, kNil, h, Option.bind_some, gRange1, sN, if_true, rz']
theorem w0_step {K : PySem.W.Frag} {ns ds : List Int} {F : D} (hD : Dr ds) {n : Nat} {S : LL} (h : Fam n S) {t : Nat} (ht : t < 3) {a : Nat} (ha : a < 4) (kept u9 u10 u11 u12 u13 u14 u15 : Sl) :
    ∃ u9' u10', w0 (sw K ns ds F t n S kept (.fr (.int (a : Int))) u9 u10 u11 u12 u13 u14 u15) = some (.nx (sw K ns ds F t n S kept (.fr (.int (a : Int))) u9' u10' u11 u12 u13 u14 u15)) := by
  have hn := h.n7
  have o1 := okMul_of (i := (50 : Int)) (j := (t : Int)) (by decide)
  have o2 := okMul_of (i := (10 : Int)) (j := (a : Int)) (by decide)
  have c1 : compGo (sName 15) (kB (kBin gEqA (kData (kCallD d_law_mix (kCons (gVar 1) (kCons (kBin gAdd (kBin gAdd (kBin gAdd (kC (.int 300)) (kBin gMul (kC (.int 50)) (gVar 3))) (kBin gMul (kC (.int 10)) (gVar 8))) (gVar 15)) (kCons (kC (.int 4)) kNil))))) (kC (.int 0)))) (gVar 15) (sw K ns ds F t n S kept (.fr (.int (a : Int))) u9 u10 u11 u12 u13 u14 .un) ((List.range n).map fun i : Nat => .int (i : Int)) = some (((rng n).filter fun v => decide (mx ds (300 + 50 * (t : Int) + 10 * (a : Int) + v) 4 = 0)).map PyData.int) := by
    refine comp_rng _ _ _ _ _ fun i hi => ⟨_, rfl, ?_, rfl⟩
    obtain ⟨e2, _, _⟩ := mx_spec' hD (k := 300 + 50 * (t : Int) + 10 * (a : Int) + (i : Int)) (many := 4) (by omega) (by omega)
    have q : gEqA (.int (mx ds (300 + 50 * (t : Int) + 10 * (a : Int) + (i : Int)) 4)) (.int 0) = some (.bool (decide (mx ds (300 + 50 * (t : Int) + 10 * (a : Int) + (i : Int)) 4 = 0))) := Enc.int.eqA (by decide) _ _
    simp -implicitDefEqProofs [-gEqA, o1, o2, e2, q]
  obtain ⟨r1, r2⟩ := rng_ok hn fun v => decide (mx ds (300 + 50 * (t : Int) + 10 * (a : Int) + v) 4 = 0)
  have rn1 : ((rng n).filter fun v => decide (mx ds (300 + 50 * (t : Int) + 10 * (a : Int) + v) 4 = 0)).Nodup := (rng_nodup n).filter _
  generalize ((rng n).filter fun v => decide (mx ds (300 + 50 * (t : Int) + 10 * (a : Int) + v) 4 = 0)) = out at c1 r1 r2 rn1
  have c2 : compGo (sName 15) (kAnd (kB (kBin gNotIn (gVar 15) (gVar 9))) (kB (kBin gEqA (kData (kCallD d_law_mix (kCons (gVar 1) (kCons (kBin gAdd (kBin gAdd (kBin gAdd (kC (.int 450)) (kBin gMul (kC (.int 50)) (gVar 3))) (kBin gMul (kC (.int 10)) (gVar 8))) (gVar 15)) (kCons (kC (.int 3)) kNil))))) (kC (.int 0))))) (gVar 15) (sw K ns ds F t n S kept (.fr (.int (a : Int))) (.fr (iL out)) u10 u11 u12 u13 u14 .un) ((List.range n).map fun i : Nat => .int (i : Int)) = some (((rng n).filter fun v => !decide (v ∈ out) && decide (mx ds (450 + 50 * (t : Int) + 10 * (a : Int) + v) 3 = 0)).map PyData.int) := by
    refine comp_rng _ _ _ _ _ fun i hi => ⟨_, rfl, ?_, rfl⟩
    obtain ⟨e2, _, _⟩ := mx_spec' hD (k := 450 + 50 * (t : Int) + 10 * (a : Int) + (i : Int)) (many := 3) (by omega) (by omega)
    have q : gEqA (.int (mx ds (450 + 50 * (t : Int) + 10 * (a : Int) + (i : Int)) 3)) (.int 0) = some (.bool (decide (mx ds (450 + 50 * (t : Int) + 10 * (a : Int) + (i : Int)) 3 = 0))) := Enc.int.eqA (by decide) _ _
    have q2 := notIn_int (i : Int) out
    cases hb : decide ((i : Int) ∈ out) with
    | true =>
      rw [hb] at q2
      simp -implicitDefEqProofs [-gEqA, -gNotIn, q2]
    | false =>
      rw [hb] at q2
      simp -implicitDefEqProofs [-gEqA, -gNotIn, q2, o1, o2, e2, q]
  obtain ⟨g1, g2⟩ := rng_ok hn fun v => !decide (v ∈ out) && decide (mx ds (450 + 50 * (t : Int) + 10 * (a : Int) + v) 3 = 0)
  have rn2 : ((rng n).filter fun v => !decide (v ∈ out) && decide (mx ds (450 + 50 * (t : Int) + 10 * (a : Int) + v) 3 = 0)).Nodup := (rng_nodup n).filter _
  have dj : ∀ x ∈ (rng n).filter (fun v => !decide (v ∈ out) && decide (mx ds (450 + 50 * (t : Int) + 10 * (a : Int) + v) 3 = 0)), x ∉ out := fun x hx => by
    have := (List.mem_filter.mp hx).2
    rw [Bool.and_eq_true] at this
    simpa using this.1
  generalize ((rng n).filter fun v => !decide (v ∈ out) && decide (mx ds (450 + 50 * (t : Int) + 10 * (a : Int) + v) 3 = 0)) = giv at c2 g1 g2 rn2 dj
  refine ⟨.fr (iL out), .fr (iL giv), ?_⟩
  have s1 : zSet 9 (kData (kComp [15] (kRange1 (kCons (gVar 5) kNil)) (sName 15) (kB (kBin gEqA (kData (kCallD d_law_mix (kCons (gVar 1) (kCons (kBin gAdd (kBin gAdd (kBin gAdd (kC (.int 300)) (kBin gMul (kC (.int 50)) (gVar 3))) (kBin gMul (kC (.int 10)) (gVar 8))) (gVar 15)) (kCons (kC (.int 4)) kNil))))) (kC (.int 0)))) (gVar 15))) (sw K ns ds F t n S kept (.fr (.int (a : Int))) u9 u10 u11 u12 u13 u14 u15) = some (.nx (sw K ns ds F t n S kept (.fr (.int (a : Int))) (.fr (iL out)) u10 u11 u12 u13 u14 u15)) := by
    show (((((kRange1 (kCons (gVar 5) kNil) _).bind _)).bind _).bind _) = _
    rw [kR1 (n := n) rfl (by omega), Option.bind_some]
    show ((((compGo _ _ _ (sw K ns ds F t n S kept (.fr (.int (a : Int))) u9 u10 u11 u12 u13 u14 .un) _).bind fit).bind _).bind _) = _
    rw [c1, Option.bind_some, fit_of (by rw [List.length_map]; omega)]
    rfl
  have s2 : zSet 10 (kData (kComp [15] (kRange1 (kCons (gVar 5) kNil)) (sName 15) (kAnd (kB (kBin gNotIn (gVar 15) (gVar 9))) (kB (kBin gEqA (kData (kCallD d_law_mix (kCons (gVar 1) (kCons (kBin gAdd (kBin gAdd (kBin gAdd (kC (.int 450)) (kBin gMul (kC (.int 50)) (gVar 3))) (kBin gMul (kC (.int 10)) (gVar 8))) (gVar 15)) (kCons (kC (.int 3)) kNil))))) (kC (.int 0))))) (gVar 15))) (sw K ns ds F t n S kept (.fr (.int (a : Int))) (.fr (iL out)) u10 u11 u12 u13 u14 u15) = some (.nx (sw K ns ds F t n S kept (.fr (.int (a : Int))) (.fr (iL out)) (.fr (iL giv)) u11 u12 u13 u14 u15)) := by
    show (((((kRange1 (kCons (gVar 5) kNil) _).bind _)).bind _).bind _) = _
    rw [kR1 (n := n) rfl (by omega), Option.bind_some]
    show ((((compGo _ _ _ (sw K ns ds F t n S kept (.fr (.int (a : Int))) (.fr (iL out)) u10 u11 u12 u13 u14 .un) _).bind fit).bind _).bind _) = _
    rw [c2, Option.bind_some, fit_of (by rw [List.length_map]; omega)]
    rfl
  have hm1 := v_minor_ok h r2 g2 (fun x hx hg => dj x hg hx)
  have hm2 := v_law_minor h.fs out giv
  have hr := repr_LL (h.fs.mnr out giv)
  have qs := ne_str (iLL (mnr S out giv)).shown
  have s3 : (zIf (kB (kBin gNeA (kData (kCall gRepr (kCons (kData (kCallD d_minor (kCons (gVar 4) (kCons (gVar 9) (kCons (gVar 10) kNil))))) kNil))) (kData (kCall gRepr (kCons (kData (kCallD d_law_minor (kCons (gVar 6) (kCons (gVar 9) (kCons (gVar 10) kNil))))) kNil))))) (zRet (kFr (kC (.bool false)))) zNext) (sw K ns ds F t n S kept (.fr (.int (a : Int))) (.fr (iL out)) (.fr (iL giv)) u11 u12 u13 u14 u15) = some (.nx (sw K ns ds F t n S kept (.fr (.int (a : Int))) (.fr (iL out)) (.fr (iL giv)) u11 u12 u13 u14 u15)) := by
    simp -implicitDefEqProofs [-gNeA, hm1, hm2, hr, qs]
  have s4 : (zIf (kAnd (kB (kBin gNeA (gVar 9) (kData (kLst kNil)))) (kB (kBin gNeA (kData (kCallD d_law_word (kCons (kC (.int 0)) (kCons (gVar 4) (kCons (gVar 9) (kCons (kData (kCall gSortedC (kL (kBin gAdd (gVar 9) (gVar 10))))) kNil)))))) (kTup (kCons (kC (.str "both")) (kCons (kIx (kQ (gVar 9)) (kC (.int 0))) kNil)))))) (zRet (kFr (kC (.bool false)))) zNext) (sw K ns ds F t n S kept (.fr (.int (a : Int))) (.fr (iL out)) (.fr (iL giv)) u11 u12 u13 u14 u15) = some (.nx (sw K ns ds F t n S kept (.fr (.int (a : Int))) (.fr (iL out)) (.fr (iL giv)) u11 u12 u13 u14 u15)) := by
    cases out with
    | nil =>
      have q := Enc.int.list.neA (by decide) [] []
      have q' : gNeA (.list []) (.list []) = some (.bool false) := by
        rw [show PyData.list (([] : List Int).map fun i => PyData.int i) = .list [] from rfl] at q
        rw [q]; rfl
      have q2 : gNeA (iL []) (.list []) = some (.bool false) := q'
      simp -implicitDefEqProofs [-gNeA, q2]
    | cons x o =>
      have q : gNeA (iL (x :: o)) (.list []) = some (.bool true) := by
        have := Enc.int.list.neA (by decide) (x :: o) []
        rw [show PyData.list (([] : List Int).map fun i => PyData.int i) = .list [] from rfl] at this
        rw [show iL (x :: o) = PyData.list ((x :: o).map fun i => PyData.int i) from rfl, this]
        rfl
      have hnd : ((x :: o) ++ giv).Nodup := by
        rw [List.nodup_append]
        exact ⟨rn1, rn2, fun y hy z hz e => dj z hz (e ▸ hy)⟩
      have hrn : ∀ y ∈ (x :: o) ++ giv, 0 ≤ y ∧ y < n := fun y hy => by
        rcases List.mem_append.mp hy with hy | hy
        · exact r2.2 y hy
        · exact g2.2 y hy
      obtain ⟨k1, k2⟩ := srtI_ok hnd hrn
      have hs := sorted_I (L := (x :: o) ++ giv) (by rw [List.length_append]; omega)
      have hck := v_check_ok h r2 k1
      have hf : (x :: o).find? (fun y => decide (y ∈ srtI ((x :: o) ++ giv))) = some x := List.find?_cons_of_pos (decide_eq_true ((k2 x).mpr (by simp)))
      rw [hf] at hck
      have hw := v_word (z := hStr "both") hck (by kernel_rfl)
      have hz := ne_hStr "both" (by decide +kernel) x
      have hl : (x :: o).length + giv.length ≤ 16777216 := by omega
      have ga : gAdd (iL (x :: o)) (iL giv) = some (iL ((x :: o) ++ giv)) := by
        show (if _ then _ else _) = _
        rw [if_pos (by rw [List.length_map, List.length_map, line_v]; exact hl), ← List.map_append]
      have e1 : kData (kCall gSortedC (kL (kBin gAdd (gVar 9) (gVar 10)))) (sw K ns ds F t n S kept (.fr (.int (a : Int))) (.fr (iL (x :: o))) (.fr (iL giv)) u11 u12 u13 u14 u15) = some (iL (srtI ((x :: o) ++ giv))) := by
        show ((((((gAdd (iL (x :: o)) (iL giv))).bind asL).bind gSortedC)).bind _) = _
        rw [ga, Option.bind_some]
        show ((gSortedC (((x :: o) ++ giv).map PyData.int)).bind _) = _
        rw [hs]; rfl
      have e2 : kData (kCallD d_law_word (kCons (kC (.int 0)) (kCons (gVar 4) (kCons (gVar 9) (kCons (kData (kCall gSortedC (kL (kBin gAdd (gVar 9) (gVar 10))))) kNil))))) (sw K ns ds F t n S kept (.fr (.int (a : Int))) (.fr (iL (x :: o))) (.fr (iL giv)) u11 u12 u13 u14 u15) = some (hStr "both" x) := by
        have : kCons (kC (.int 0)) (kCons (gVar 4) (kCons (gVar 9) (kCons (kData (kCall gSortedC (kL (kBin gAdd (gVar 9) (gVar 10))))) kNil))) (sw K ns ds F t n S kept (.fr (.int (a : Int))) (.fr (iL (x :: o))) (.fr (iL giv)) u11 u12 u13 u14 u15) = some [.int 0, fm n S, iL (x :: o), iL (srtI ((x :: o) ++ giv))] := by
          simp -implicitDefEqProofs only [kCons, kNil, kC, gVar, e1, Option.bind_some, List.getElem?_cons_zero, List.getElem?_cons_succ]
        show ((((kCons _ _ _).bind _).bind _)) = _
        rw [this, Option.bind_some, hw]; rfl
      have e3 : kTup (kCons (kC (.str "both")) (kCons (kIx (kQ (gVar 9)) (kC (.int 0))) kNil)) (sw K ns ds F t n S kept (.fr (.int (a : Int))) (.fr (iL (x :: o))) (.fr (iL giv)) u11 u12 u13 u14 u15) = some (hStr "both" x) := by
        simp -implicitDefEqProofs
      have e4 : kBin gNeA (gVar 9) (kData (kLst kNil)) (sw K ns ds F t n S kept (.fr (.int (a : Int))) (.fr (iL (x :: o))) (.fr (iL giv)) u11 u12 u13 u14 u15) = some (.bool true) := q
      simp -implicitDefEqProofs only [zIf, kAnd, kB, e4, Option.bind_some, asB, if_true, zNext]
      have e5 : kBin gNeA (kData (kCallD d_law_word (kCons (kC (.int 0)) (kCons (gVar 4) (kCons (gVar 9) (kCons (kData (kCall gSortedC (kL (kBin gAdd (gVar 9) (gVar 10))))) kNil)))))) (kTup (kCons (kC (.str "both")) (kCons (kIx (kQ (gVar 9)) (kC (.int 0))) kNil))) (sw K ns ds F t n S kept (.fr (.int (a : Int))) (.fr (iL (x :: o))) (.fr (iL giv)) u11 u12 u13 u14 u15) = some (.bool false) := by
        show (((kData _ _).bind _)) = _
        rw [e2, Option.bind_some]
        show ((DL.kTup _ _).bind _) = _
        rw [e3]
        exact hz
      rw [e5]
      rfl
  unfold w0
  simp -implicitDefEqProofs only [zSeq]
  rw [s1, Option.bind_some]
  dsimp only
  rw [s2, Option.bind_some]
  dsimp only
  rw [s3, Option.bind_some]
  dsimp only
  exact s4
end K79

set_option Elab.async false
set_option linter.all false
set_option maxRecDepth 100000
set_option maxHeartbeats 2000000
namespace K79
open PySem PySem.Spec PyProof.Rows L2 DL CM
noncomputable def bad5 (n : Nat) (S : LL) (o g : List Int) : Bool := decide (n < 5) && badB n S o g
noncomputable def stI (n : Nat) (S : LL) (o : List Int) (s : Option (List Int × List Int)) (g : List Int) : Option (List Int × List Int) := match s with
  | some p => some p
  | none => if bad5 n S o g = true then some (o, g) else none
theorem w1_step {K : PySem.W.Frag} {ns ds : List Int} {F : D} {n : Nat} {S : LL} (h : FS n S) {t : Nat} (kept u8 u12 u13 u14 u15 : Sl) (o g : List Int) (ho : o.length ≤ 10) (s : Option (List Int × List Int)) :
    w1 (sw K ns ds F t n S kept u8 (.fr (iL o)) (.fr (iL g)) (.fr (pD s)) u12 u13 u14 u15) = some (.nx (sw K ns ds F t n S kept u8 (.fr (iL o)) (.fr (iL g)) (.fr (pD (stI n S o s g))) u12 u13 u14 u15)) := by
  unfold w1
  by_cases h5 : n < 5
  · have h5' : (n : Int) < 5 := by omega
    cases s with
    | some p => simp -implicitDefEqProofs [h5', pD, stI]
    | none =>
      have h1 := v_meets o g (by omega)
      have h2 := v_law_minor h o g
      have h3 := v_law_packs (h.mnr o g)
      have e : bad5 n S o g = badB n S o g := by unfold bad5; rw [decide_eq_true h5]; rfl
      unfold stI
      rw [e]
      unfold badB
      cases p1 : disj o g with
      | false =>
        rw [p1] at h1
        simp -implicitDefEqProofs [h5', pD, h1]
      | true =>
        rw [p1] at h1
        cases p2 : PKB n (mnr S o g) with
        | true =>
          rw [p2] at h3
          simp -implicitDefEqProofs [h5', pD, h1, h2, h3]
        | false =>
          rw [p2] at h3
          simp -implicitDefEqProofs [h5', pD, h1, h2, h3]
  · have e : stI n S o s g = s := by
      unfold stI bad5
      rw [decide_eq_false h5]
      cases s <;> rfl
    rw [e]
    have h5' : ¬ (n : Int) < 5 := by omega
    simp -implicitDefEqProofs [h5']
noncomputable def stO (n : Nat) (S : LL) (s : Option (List Int × List Int)) (o : List Int) : Option (List Int × List Int) := (chs n).foldl (stI n S o) s
theorem w2_step {K : PySem.W.Frag} {ns ds : List Int} {F : D} {n : Nat} {S : LL} (h : FS n S) {t : Nat} (kept u8 u10 u12 u13 u14 u15 : Sl) (o : List Int) (ho : o.length ≤ 10) (s : Option (List Int × List Int)) :
    ∃ u10', w2 (sw K ns ds F t n S kept u8 (.fr (iL o)) u10 (.fr (pD s)) u12 u13 u14 u15) = some (.nx (sw K ns ds F t n S kept u8 (.fr (iL o)) u10' (.fr (pD (stO n S s o))) u12 u13 u14 u15)) := by
  have hn := h.n7
  have hl := v_lists n (by omega)
  obtain ⟨ρ', e1, u10', rfl⟩ := forGo_st iL (sName 10) w1 (fun s ρ => ∃ u10, ρ = sw K ns ds F t n S kept u8 (.fr (iL o)) u10 (.fr (pD s)) u12 u13 u14 u15) (stI n S o) (chs n) s (sw K ns ds F t n S kept u8 (.fr (iL o)) u10 (.fr (pD s)) u12 u13 u14 u15) ⟨_, rfl⟩ fun g hg s ρ ⟨u10, e⟩ => by
    subst e
    exact ⟨_, _, rfl, w1_step h kept u8 u12 u13 u14 u15 o g ho s, _, rfl⟩
  refine ⟨u10', ?_⟩
  have hk : kQ (kData (kCallD d_law_lists (kCons (gVar 5) kNil))) (sw K ns ds F t n S kept u8 (.fr (iL o)) u10 (.fr (pD s)) u12 u13 u14 u15) = some ((chs n).map iL) := by
    simp -implicitDefEqProofs [hl, chs]
  unfold w2
  simp -implicitDefEqProofs only [zFor]
  rw [hk, Option.bind_some]
  exact e1
theorem v_due {K : PySem.W.Frag} {ns ds : List Int} {F : D} {n : Nat} {S : LL} (h : FS n S) {t : Nat} (kept u8 u9 u10 u12 u13 u14 u15 : Sl) :
    ∃ u9' u10', zFor (kQ (kData (kCallD d_law_lists (kCons (gVar 5) kNil)))) (sName 9) w2 (sw K ns ds F t n S kept u8 u9 u10 (.fr .none) u12 u13 u14 u15) = some (.nx (sw K ns ds F t n S kept u8 u9' u10' (.fr (pD ((chs n).foldl (stO n S) none))) u12 u13 u14 u15)) := by
  have hn := h.n7
  have hl := v_lists n (by omega)
  obtain ⟨ρ', e1, u9', u10', rfl⟩ := forGo_st iL (sName 9) w2 (fun s ρ => ∃ u9 u10, ρ = sw K ns ds F t n S kept u8 u9 u10 (.fr (pD s)) u12 u13 u14 u15) (stO n S) (chs n) none (sw K ns ds F t n S kept u8 u9 u10 (.fr .none) u12 u13 u14 u15) ⟨_, _, rfl⟩ fun o ho s ρ ⟨u9, u10, e⟩ => by
    subst e
    have hol := (subs_mem (mem_chs.mp ho)).1
    obtain ⟨u10', e⟩ := w2_step (K := K) (ns := ns) (ds := ds) (F := F) (t := t) h kept u8 u10 u12 u13 u14 u15 o (by omega) s
    exact ⟨_, _, rfl, e, _, _, rfl⟩
  refine ⟨u9', u10', ?_⟩
  have hk : kQ (kData (kCallD d_law_lists (kCons (gVar 5) kNil))) (sw K ns ds F t n S kept u8 u9 u10 (.fr .none) u12 u13 u14 u15) = some ((chs n).map iL) := by
    simp -implicitDefEqProofs [hl, chs]
  simp -implicitDefEqProofs only [zFor]
  rw [hk, Option.bind_some]
  exact e1
theorem stI_fold {n : Nat} {S : LL} (h5 : n < 5) (o : List Int) : ∀ (L : LL) (s : Option (List Int × List Int)), L.foldl (stI n S o) s = match s with
    | some p => some p
    | none => (L.find? (badB n S o)).map fun g => (o, g)
  | [], none => rfl
  | [], some p => rfl
  | g :: L, some p => by
    rw [List.foldl_cons]
    show L.foldl (stI n S o) (some p) = some p
    rw [stI_fold h5 o L (some p)]
  | g :: L, none => by
    rw [List.foldl_cons, stI_fold h5 o L]
    have e : bad5 n S o g = badB n S o g := by unfold bad5; rw [decide_eq_true h5]; rfl
    unfold stI
    rw [e]
    cases hb : badB n S o g with
    | true => rw [List.find?_cons_of_pos hb]; rfl
    | false => rw [List.find?_cons_of_neg (by rw [hb]; exact Bool.false_ne_true)]; rfl
theorem due_is {n : Nat} {S : LL} (h5 : n < 5) : (chs n).foldl (stO n S) none = bmin n S := by
  have gen : ∀ L : LL, ∀ s : Option (List Int × List Int), L.foldl (stO n S) s = match s with
      | some p => some p
      | none => (L.find? fun o => (chs n).any (badB n S o)).bind fun o => ((chs n).find? (badB n S o)).map fun g => (o, g) := by
    intro L
    induction L with
    | nil => intro s; cases s <;> rfl
    | cons o L ih =>
      intro s
      rw [List.foldl_cons]
      have e : stO n S s o = match s with
          | some p => some p
          | none => ((chs n).find? (badB n S o)).map fun g => (o, g) := stI_fold h5 o (chs n) s
      rw [e]
      cases s with
      | some p => rw [ih]
      | none =>
        cases hb : (chs n).any (badB n S o) with
        | true =>
          obtain ⟨g, hg⟩ := find_any hb
          rw [List.find?_cons_of_pos (p := fun o => (chs n).any (badB n S o)) hb, Option.bind_some]
          show L.foldl (stO n S) (((chs n).find? (badB n S o)).map fun g => (o, g)) = _
          rw [hg, ih]; rfl
        | false =>
          rw [List.find?_cons_of_neg (p := fun o => (chs n).any (badB n S o)) (by rw [hb]; exact Bool.false_ne_true)]
          show L.foldl (stO n S) (((chs n).find? (badB n S o)).map fun g => (o, g)) = _
          rw [find_none hb, ih]; rfl
  exact gen (chs n) none
/-! ### sides, again -/
theorem v_is_side {n : Nat} {S : LL} (h : FS n S) (t : List Int) (ht : t.length ≤ 10) : d_law_is_side [fm n S, iL t] = some (.ok (.fr (.bool (isSideB S t)))) := by
  have hm := h.m
  have hc : compGo (sName 2) (kOr (kB (kBin gNeA (kData (kCall gLen (kQ (gVar 2)))) (kC (.int 2)))) (kB (kBin gNeA (kData (kCall gLen (kQ (kData (kComp [3] (kQ (gVar 2)) (sName 3) (kB (kBin gInA (gVar 3) (gVar 1))) (gVar 3)))))) (kC (.int 1))))) (gVar 2) [.fr (fm n S), .fr (iL t), .un, .un] (S.map iL) = some ((S.filter fun s => !(decide (s.length = 2) && decide ((s.filter fun x => decide (x ∈ t)).length = 1))).map iL) := by
    refine compGo_map _ _ _ _ _ _ _ _ fun s hs => ⟨_, rfl, ?_, fun _ => rfl⟩
    obtain ⟨hs1, hs2⟩ := h.e s hs
    have hi : compGo (sName 3) (kB (kBin gInA (gVar 3) (gVar 1))) (gVar 3) [.fr (fm n S), .fr (iL t), .fr (iL s), .un] (s.map PyData.int) = some ((s.filter fun x => decide (x ∈ t)).map PyData.int) := by
      refine compGo_map _ _ _ _ _ _ _ _ fun x hx => ⟨_, rfl, ?_, fun _ => rfl⟩
      show ((gInA (.int x) (iL t)).bind asB) = _
      rw [show gInA (.int x) (iL t) = some (.bool (decide (x ∈ t))) from Enc.int.inA (by decide) x t]
      rfl
    have hfl := List.length_filter_le (fun x => decide (x ∈ t)) s
    have q1 : gNeA (.int (s.length : Int)) (.int 2) = some (.bool (!decide (s.length = 2))) := by
      rw [Enc.int.neA (by decide)]
      have : decide ((s.length : Int) = 2) = decide (s.length = 2) := by rw [decide_eq_decide]; omega
      rw [this]
    have q2 : gNeA (.int ((s.filter fun x => decide (x ∈ t)).length : Int)) (.int 1) = some (.bool (!decide ((s.filter fun x => decide (x ∈ t)).length = 1))) := by
      rw [Enc.int.neA (by decide)]
      have : decide (((s.filter fun x => decide (x ∈ t)).length : Int) = 1) = decide ((s.filter fun x => decide (x ∈ t)).length = 1) := by rw [decide_eq_decide]; omega
      rw [this]
    have e1 : kB (kBin gNeA (kData (kCall gLen (kQ (gVar 2)))) (kC (.int 2))) [.fr (fm n S), .fr (iL t), .fr (iL s), .un] = some (!decide (s.length = 2)) := by
      have : kData (kCall gLen (kQ (gVar 2))) [.fr (fm n S), .fr (iL t), .fr (iL s), .un] = some (.int (s.length : Int)) := by
        simp -implicitDefEqProofs
      show ((((kData _ _).bind _)).bind asB) = _
      rw [this, Option.bind_some]
      show ((gNeA (.int (s.length : Int)) (.int 2)).bind asB) = _
      rw [q1]; rfl
    have e2 : kB (kBin gNeA (kData (kCall gLen (kQ (kData (kComp [3] (kQ (gVar 2)) (sName 3) (kB (kBin gInA (gVar 3) (gVar 1))) (gVar 3)))))) (kC (.int 1))) [.fr (fm n S), .fr (iL t), .fr (iL s), .un] = some (!decide ((s.filter fun x => decide (x ∈ t)).length = 1)) := by
      have e0 : kData (kComp [3] (kQ (gVar 2)) (sName 3) (kB (kBin gInA (gVar 3) (gVar 1))) (gVar 3)) [.fr (fm n S), .fr (iL t), .fr (iL s), .un] = some (iL (s.filter fun x => decide (x ∈ t))) := by
        show (((compGo (sName 3) (kB (kBin gInA (gVar 3) (gVar 1))) (gVar 3) [.fr (fm n S), .fr (iL t), .fr (iL s), .un] (s.map PyData.int)).bind fit).bind _) = _
        rw [hi, Option.bind_some, fit_of (by rw [List.length_map]; omega)]
        rfl
      have : kData (kCall gLen (kQ (kData (kComp [3] (kQ (gVar 2)) (sName 3) (kB (kBin gInA (gVar 3) (gVar 1))) (gVar 3))))) [.fr (fm n S), .fr (iL t), .fr (iL s), .un] = some (.int ((s.filter fun x => decide (x ∈ t)).length : Int)) := by
        show (((((kData _ _).bind asQ).bind gLen)).bind _) = _
        rw [e0, Option.bind_some]
        show ((gLen ((s.filter fun x => decide (x ∈ t)).map PyData.int)).bind _) = _
        simp -implicitDefEqProofs
      show ((((kData _ _).bind _)).bind asB) = _
      rw [this, Option.bind_some]
      show ((gNeA (.int ((s.filter fun x => decide (x ∈ t)).length : Int)) (.int 1)).bind asB) = _
      rw [q2]; rfl
    show ((kB _ [.fr (fm n S), .fr (iL t), .fr (iL s), .un]).bind _) = _
    rw [e1, Option.bind_some]
    cases c : decide (s.length = 2) with
    | false => rfl
    | true =>
      show kB _ [.fr (fm n S), .fr (iL t), .fr (iL s), .un] = _
      rw [e2]; rfl
  have hfl := List.length_filter_le (fun s : List Int => !(decide (s.length = 2) && decide ((s.filter fun x => decide (x ∈ t)).length = 1))) S
  have q : gEqA (.int ((S.filter fun s => !(decide (s.length = 2) && decide ((s.filter fun x => decide (x ∈ t)).length = 1))).length : Int)) (.int 0) = some (.bool (isSideB S t)) := by
    rw [Enc.int.eqA (by decide)]
    congr 2
    unfold isSideB
    rw [Bool.eq_iff_iff, decide_eq_true_iff, List.all_eq_true]
    constructor
    · intro z s hs
      have : (S.filter fun s => !(decide (s.length = 2) && decide ((s.filter fun x => decide (x ∈ t)).length = 1))) = [] := List.eq_nil_of_length_eq_zero (by omega)
      rw [List.filter_eq_nil_iff] at this
      have := this s hs
      simpa using this
    · intro z
      have : (S.filter fun s => !(decide (s.length = 2) && decide ((s.filter fun x => decide (x ∈ t)).length = 1))) = [] := by
        rw [List.filter_eq_nil_iff]
        intro s hs
        rw [z s hs]; simp
      rw [this]; rfl
  have e0 : kData (kComp [2] (kQ (kIx (kQ (gVar 0)) (kC (.int 1)))) (sName 2) (kOr (kB (kBin gNeA (kData (kCall gLen (kQ (gVar 2)))) (kC (.int 2)))) (kB (kBin gNeA (kData (kCall gLen (kQ (kData (kComp [3] (kQ (gVar 2)) (sName 3) (kB (kBin gInA (gVar 3) (gVar 1))) (gVar 3)))))) (kC (.int 1))))) (gVar 2)) [.fr (fm n S), .fr (iL t), .un, .un] = some (iLL (S.filter fun s => !(decide (s.length = 2) && decide ((s.filter fun x => decide (x ∈ t)).length = 1)))) := by
    show (((compGo (sName 2) _ _ [.fr (fm n S), .fr (iL t), .un, .un] (S.map iL)).bind fit).bind _) = _
    rw [hc, Option.bind_some, fit_of (by rw [List.length_map]; omega)]
    rfl
  have e1 : b_law_is_side [.fr (fm n S), .fr (iL t), .un, .un] = some (.rt (.fr (.bool (isSideB S t)))) := by
    show (((((((((kData _ _).bind asQ).bind gLen)).bind _).bind _).bind _)).bind _) = _
    rw [e0, Option.bind_some]
    show (((((((gLen ((S.filter fun s => !(decide (s.length = 2) && decide ((s.filter fun x => decide (x ∈ t)).length = 1))).map iL)).bind _).bind _).bind _)).bind _)) = _
    have gl : gLen ((S.filter fun s => !(decide (s.length = 2) && decide ((s.filter fun x => decide (x ∈ t)).length = 1))).map iL) = some (.fr (.int ((S.filter fun s => !(decide (s.length = 2) && decide ((s.filter fun x => decide (x ∈ t)).length = 1))).length : Int))) := by
      simp -implicitDefEqProofs
    rw [gl, Option.bind_some]
    show (((gEqA (.int ((S.filter fun s => !(decide (s.length = 2) && decide ((s.filter fun x => decide (x ∈ t)).length = 1))).length : Int)) (.int 0)).bind _).bind _) = _
    rw [q]; rfl
  show (b_law_is_side [.fr (fm n S), .fr (iL t), .un, .un]).bind flRes = _
  rw [e1]; rfl
end K79

set_option Elab.async false
set_option linter.all false
set_option maxRecDepth 100000
set_option maxHeartbeats 2000000
namespace K79
open PySem PySem.Spec PyProof.Rows L2 DL CM
theorem Fam.nd {n : Nat} {S : LL} (h : Fam n S) : S.Nodup := by
  rw [List.nodup_iff_pairwise_ne]
  refine h.st.imp fun {a b} hab e => ?_
  subst e
  rw [le2_eq] at hab
  simp at hab
  exact List.lt_irrefl a hab
theorem Fam.srt {n : Nat} {S : LL} (h : Fam n S) : srt S = S := srt_id (h.st.imp fun {a b} hab => by
  rcases dLe_tot.total (iL a) (iL b) with q | q
  · exact q
  · have : le2 b a = true := q
    rw [this] at hab; cases hab)
theorem rawM_nil : ∀ (S L : LL), (L ++ S).Nodup → S.foldl (fun L s => if disj s [] = true then addN L (cut s []) else L) L = L ++ S
  | [], L, _ => by simp
  | s :: S, L, h => by
    have hc : cut s [] = s := by unfold cut; simp
    have hd : disj s [] = true := by rw [disj_iff]; intro x _; simp
    rw [List.foldl_cons, if_pos hd, hc]
    have hs : s ∉ L := fun z => by
      rw [List.nodup_append] at h
      exact h.2.2 s z s List.mem_cons_self rfl
    rw [addN, if_neg hs, rawM_nil S (L ++ [s]) (by simpa using h)]
    simp
theorem mnr_nil {n : Nat} {S : LL} (h : Fam n S) : mnr S [] [] = S := by
  unfold mnr rawM
  rw [rawM_nil S [] (by simpa using h.nd)]
  exact h.srt
theorem one_sub {p : Int → Bool} {a b : Int} (h : p a ≠ p b) (q : Int → Bool) (hn : ([a, b] : List Int).filter q ≠ []) : OneEach p (([a, b] : List Int).filter q) := by
  refine ⟨hn, List.length_filter_le _ _, fun x hx y hy e => ?_⟩
  have hx := (List.mem_filter.mp hx).1
  have hy := (List.mem_filter.mp hy).1
  simp at hx hy
  rcases hx with rfl | rfl <;> rcases hy with rfl | rfl
  · rfl
  · exact absurd e h
  · exact absurd e.symm h
  · rfl
theorem side_edges {n : Nat} {S : LL} (h : Fam n S) {t : List Int} (ht : isSideB S t = true) : EdS n S := fun s hs => by
  have := List.all_eq_true.mp ht s hs
  rw [Bool.and_eq_true, decide_eq_true_iff] at this
  obtain ⟨_, _, hp, hr⟩ := h.e s hs
  match s, this.1, hp, hr with
  | [a, b], _, hp, hr =>
    have h1 := hr a (by simp)
    have h2 := hr b (by simp)
    simp at hp
    exact ⟨a, b, rfl, h1.1, hp, h2.2⟩
theorem side_packs {n : Nat} {S : LL} (h : Fam n S) {t : List Int} (ht : isSideB S t = true) (o g : List Int) : PKB n (mnr S o g) = true := by
  have hE := side_edges h ht
  have hp := (side_proper hE).mp ht
  rw [PKB_iff]
  refine bip_pk (h.fs.mnr o g) (mnr_nodup _ _ _) (fun v => decide (v ∈ t)) fun s hs hne => ?_
  obtain ⟨e, he, _, rfl⟩ := mem_mnr.mp hs
  obtain ⟨a, b, rfl, _⟩ := hE e he
  exact one_sub (hp a b he) _ hne
theorem packs_of_min {n : Nat} {S : LL} (h : Fam n S) (hp : PKB n (mnr S [] []) = true) : PKB n S = true := by rwa [mnr_nil h] at hp
abbrev s0 (K : PySem.W.Frag) (ns ds : List Int) (F : List D) (t : Nat) (u : List Sl) : Rho := .sc K ns :: .fr (iL ds) :: .fr (.list F) :: .fr (.int (t : Int)) :: u
theorem kchs {n : Nat} (hn : n ≤ 7) {ρ : Rho} (h : gVar 5 ρ = some (.int (n : Int))) : kQ (kData (kCallD d_law_lists (kCons (gVar 5) kNil))) ρ = some ((chs n).map iL) := by
  have hl := v_lists n (by omega)
  simp -implicitDefEqProofs only [kQ, kData, kCallD, kCons, kNil, h, Option.bind_some, hl, Rv.data, asQ, chs]
theorem w3_step {K : PySem.W.Frag} {ns ds : List Int} {F : List D} (hD : Dr ds) {n : Nat} {S : LL} (h : Fam n S) {t : Nat} (ht : t < 3) (hF : atI F (t : Int) = some (fm n S)) (u4 u5 u6 u7 u8 u9 u10 u11 u12 u13 u14 u15 : Sl) :
    ∃ kept u8' u9' u10' u11' u12' u13' u14' u15', w3 (s0 K ns ds F t [u4, u5, u6, u7, u8, u9, u10, u11, u12, u13, u14, u15]) = some (.nx (sw K ns ds (.list F) t n S kept u8' u9' u10' u11' u12' u13' u14' u15')) := by
  have hn := h.n7
  have hn1 := h.n1
  have a1 : zSet 4 (kIx (kQ (gVar 2)) (gVar 3)) (s0 K ns ds F t [u4, u5, u6, u7, u8, u9, u10, u11, u12, u13, u14, u15]) = some (.nx (s0 K ns ds F t [.fr (fm n S), u5, u6, u7, u8, u9, u10, u11, u12, u13, u14, u15])) := by
    simp -implicitDefEqProofs [hF]
  have a2 : zAsg (gVar 4) (sTup 2 (sCons (sName 5) (sCons (sName 6) sNil))) (s0 K ns ds F t [.fr (fm n S), u5, u6, u7, u8, u9, u10, u11, u12, u13, u14, u15]) = some (.nx (sw K ns ds (.list F) t n S u7 u8 u9 u10 u11 u12 u13 u14 u15)) := rfl
  have hrf := repr_fm h.fs
  generalize hkp : (fm n S).shown = kp at hrf
  have a3 : zSet 7 (kData (kCall gRepr (kCons (gVar 4) kNil))) (sw K ns ds (.list F) t n S u7 u8 u9 u10 u11 u12 u13 u14 u15) = some (.nx (sw K ns ds (.list F) t n S (.fr (.str kp)) u8 u9 u10 u11 u12 u13 u14 u15)) := by
    simp -implicitDefEqProofs [hrf]
  have hp1 := v_packs h
  have hp2 := v_law_packs h.fs
  have hrb := repr_bool (PKB n S)
  have hqb := ne_str (PyData.bool (PKB n S)).shown
  have a4 : (zIf (kB (kBin gNeA (kData (kCall gRepr (kCons (kData (kCallD d_packs (kCons (gVar 4) kNil))) kNil))) (kData (kCall gRepr (kCons (kData (kCallD d_law_packs (kCons (gVar 5) (kCons (gVar 6) kNil)))) kNil))))) (zRet (kFr (kC (.bool false)))) zNext) (sw K ns ds (.list F) t n S (.fr (.str kp)) u8 u9 u10 u11 u12 u13 u14 u15) = some (.nx (sw K ns ds (.list F) t n S (.fr (.str kp)) u8 u9 u10 u11 u12 u13 u14 u15)) := by
    simp -implicitDefEqProofs [-gNeA, hp1, hp2, hrb, hqb]
  obtain ⟨ρ', e5, b8, b9, b10, rfl⟩ := forGo_ix (S := Unit) (fun i : Nat => PyData.int (i : Int)) (sName 8) w0 (fun _ _ ρ => ∃ u8 u9 u10, ρ = sw K ns ds (.list F) t n S (.fr (.str kp)) u8 u9 u10 u11 u12 u13 u14 u15) (fun _ _ => ()) (List.range 4) 0 () (sw K ns ds (.list F) t n S (.fr (.str kp)) u8 u9 u10 u11 u12 u13 u14 u15) ⟨_, _, _, rfl⟩ fun j a ha _ ρ ⟨u8, u9, u10, e⟩ => by
    subst e
    obtain ⟨hj, rfl⟩ := range_get ha
    obtain ⟨u9', u10', g⟩ := w0_step (K := K) (ns := ns) (F := .list F) hD h ht hj (.fr (.str kp)) u9 u10 u11 u12 u13 u14 u15
    exact ⟨_, _, rfl, g, _, _, _, rfl⟩
  have a5 : zFor (kRange1 (kCons (kC (.int 4)) kNil)) (sName 8) w0 (sw K ns ds (.list F) t n S (.fr (.str kp)) u8 u9 u10 u11 u12 u13 u14 u15) = some (.nx (sw K ns ds (.list F) t n S (.fr (.str kp)) b8 b9 b10 u11 u12 u13 u14 u15)) := by
    simp -implicitDefEqProofs only [zFor]
    rw [kR1 (n := 4) rfl (by decide), Option.bind_some]
    exact e5
  have a6 : zSet 11 (kC .none) (sw K ns ds (.list F) t n S (.fr (.str kp)) b8 b9 b10 u11 u12 u13 u14 u15) = some (.nx (sw K ns ds (.list F) t n S (.fr (.str kp)) b8 b9 b10 (.fr .none) u12 u13 u14 u15)) := rfl
  obtain ⟨c9, c10, a7⟩ := v_due (K := K) (ns := ns) (ds := ds) (F := .list F) (t := t) h.fs (.fr (.str kp)) b8 b9 b10 u12 u13 u14 u15
  generalize hdue : (chs n).foldl (stO n S) none = due at a7
  have a8 : ∃ d12, (zIf (kB (kBin gLt (gVar 5) (kC (.int 5)))) (zIf (kB (kBin gNeA (kData (kCall gRepr (kCons (kData (kCallD d_bad_minor (kCons (gVar 4) kNil))) kNil))) (kData (kCall gRepr (kCons (gVar 11) kNil))))) (zRet (kFr (kC (.bool false)))) zNext) (zIf (kB (kBin gEqA (gVar 5) (kC (.int 5)))) (zSeq (zSet 12 (kData (kCallD d_bad_minor (kCons (gVar 4) kNil))))
      (zIf (kOr (kAnd (kB (kBin gIs (gVar 12) (kC .none))) (kNot (kB (kData (kCallD d_law_packs (kCons (gVar 5) (kCons (gVar 6) kNil))))))) (kAnd (kB (kBin gIsNot (gVar 12) (kC .none))) (kB (kData (kCallD d_law_packs (kCons (gVar 5) (kCons (kData (kCallD d_law_minor (kCons (gVar 6) (kCons (kIx (kQ (gVar 12)) (kC (.int 0))) (kCons (kIx (kQ (gVar 12)) (kC (.int 1))) kNil))))) kNil))))))) (zRet (kFr (kC (.bool false)))) zNext)) (zIf (kB (kBin gNeA (kData (kCallD d_law_word (kCons (kC (.int 1)) (kCons (gVar 4) (kCons (kData (kLst kNil)) (kCons (kData (kLst kNil)) kNil)))))) (kTup (kCons (kC (.str "many")) (kCons (gVar 5) kNil))))) (zRet (kFr (kC (.bool false)))) zNext))) (sw K ns ds (.list F) t n S (.fr (.str kp)) b8 c9 c10 (.fr (pD due)) u12 u13 u14 u15) = some (.nx (sw K ns ds (.list F) t n S (.fr (.str kp)) b8 c9 c10 (.fr (pD due)) d12 u13 u14 u15)) := by
    by_cases h5 : n < 5
    · have hb := v_bad_minor h (by omega)
      have hdb : due = bmin n S := by rw [← hdue, due_is h5]
      subst hdb
      have hr := repr_pD (n := n) hn (bmin n S) fun o g e => ⟨(bmin_some e).1, (bmin_some e).2.1⟩
      have hq := ne_str (pD (bmin n S)).shown
      have h5' : (n : Int) < 5 := by omega
      refine ⟨u12, ?_⟩
      simp -implicitDefEqProofs [-gNeA, h5', hb, hr, hq]
    · have h5' : ¬ (n : Int) < 5 := by omega
      by_cases h55 : n = 5
      · have hb := v_bad_minor h (by omega)
        have q : gEqA (.int (n : Int)) (.int 5) = some (.bool true) := by
          rw [Enc.int.eqA (by decide)]
          have e5 : decide ((n : Int) = 5) = true := by rw [decide_eq_true_iff]; omega
          rw [e5]
        refine ⟨.fr (pD (bmin n S)), ?_⟩
        cases hbm : bmin n S with
        | none =>
          rw [hbm] at hb
          have hpk : PKB n S = true := packs_of_min h (by
            have := bmin_none.mp hbm [] (nil_subs n) [] (nil_subs n)
            unfold badB at this
            have hd : disj [] [] = true := rfl
            rw [hd] at this
            simpa using this)
          rw [hpk] at hp2
          simp -implicitDefEqProofs [-gEqA, h5', q, hb, pD, hp2]
        | some p =>
          obtain ⟨o, g⟩ := p
          rw [hbm] at hb
          have hbad := (bmin_some hbm).2.2
          unfold badB at hbad
          rw [Bool.and_eq_true] at hbad
          have hpf : PKB n (mnr S o g) = false := by simpa using hbad.2
          have hm := v_law_minor h.fs o g
          have hpm := v_law_packs (h.fs.mnr o g)
          rw [hpf] at hpm
          simp -implicitDefEqProofs [-gEqA, h5', q, hb, pD, hm, hpm]
      · have q : gEqA (.int (n : Int)) (.int 5) = some (.bool false) := by
          rw [Enc.int.eqA (by decide)]
          have e5 : decide ((n : Int) = 5) = false := by rw [decide_eq_false_iff_not]; omega
          rw [e5]
        have hw := v_word1 h (by omega)
        have hz := ne_hStr "many" (by decide +kernel) n
        have hw' : d_law_word [.int 1, fm n S, .list [], .list []] = some (.ok (.fr (.tuple [.str "many", .int (n : Int)]))) := hw
        have hz' : gNeA (.tuple [.str "many", .int (n : Int)]) (.tuple [.str "many", .int (n : Int)]) = some (.bool false) := hz
        refine ⟨u12, ?_⟩
        simp -implicitDefEqProofs [-gEqA, -gNeA, h5', q, hw', hz']
  obtain ⟨d12, a8⟩ := a8
  obtain ⟨r, v, sv, svd, sR⟩ := v_sides h
  have a9 : zSet 13 (kData (kCallD d_sides (kCons (gVar 4) kNil))) (sw K ns ds (.list F) t n S (.fr (.str kp)) b8 c9 c10 (.fr (pD due)) d12 u13 u14 u15) = some (.nx (sw K ns ds (.list F) t n S (.fr (.str kp)) b8 c9 c10 (.fr (pD due)) d12 (.fr (sD r)) u14 u15)) := by
    have : kData (kCallD d_sides (kCons (gVar 4) kNil)) (sw K ns ds (.list F) t n S (.fr (.str kp)) b8 c9 c10 (.fr (pD due)) d12 u13 u14 u15) = some (sD r) := by
      rw [← svd]
      simp -implicitDefEqProofs [sv]
    simp -implicitDefEqProofs only [zSet, this, Option.bind_some]
    rfl
  have hcE : compGo (sName 12) (kB (kData (kCallD d_law_is_side (kCons (gVar 4) (kCons (gVar 12) kNil))))) (gVar 12) (sw K ns ds (.list F) t n S (.fr (.str kp)) b8 c9 c10 (.fr (pD due)) .un (.fr (sD r)) u14 u15) ((chs n).map iL) = some (((chs n).filter (isSideB S)).map iL) := by
    refine compGo_map _ _ _ _ _ _ _ _ fun o ho => ⟨_, rfl, ?_, fun _ => rfl⟩
    have hol := (subs_mem (mem_chs.mp ho)).1
    have hv := v_is_side h.fs o (by omega)
    simp -implicitDefEqProofs [hv]
  have hEl : ((chs n).filter (isSideB S)).length ≤ 1024 := by
    refine Nat.le_trans (List.length_filter_le _ _) ?_
    unfold chs
    rw [len_srt]
    exact subs_le (by omega)
  have a10 : zSet 14 (kData (kComp [12] (kQ (kData (kCallD d_law_lists (kCons (gVar 5) kNil)))) (sName 12) (kB (kData (kCallD d_law_is_side (kCons (gVar 4) (kCons (gVar 12) kNil))))) (gVar 12))) (sw K ns ds (.list F) t n S (.fr (.str kp)) b8 c9 c10 (.fr (pD due)) d12 (.fr (sD r)) u14 u15) = some (.nx (sw K ns ds (.list F) t n S (.fr (.str kp)) b8 c9 c10 (.fr (pD due)) d12 (.fr (sD r)) (.fr (iLL ((chs n).filter (isSideB S)))) u15)) := by
    have : kData (kComp [12] (kQ (kData (kCallD d_law_lists (kCons (gVar 5) kNil)))) (sName 12) (kB (kData (kCallD d_law_is_side (kCons (gVar 4) (kCons (gVar 12) kNil))))) (gVar 12)) (sw K ns ds (.list F) t n S (.fr (.str kp)) b8 c9 c10 (.fr (pD due)) d12 (.fr (sD r)) u14 u15) = some (iLL ((chs n).filter (isSideB S))) := by
      simp -implicitDefEqProofs only [kData, kComp]
      rw [kchs (n := n) hn rfl, Option.bind_some]
      show (((compGo (sName 12) _ _ (sw K ns ds (.list F) t n S (.fr (.str kp)) b8 c9 c10 (.fr (pD due)) .un (.fr (sD r)) u14 u15) _).bind fit).bind _) = _
      rw [hcE, Option.bind_some, fit_of (by rw [List.length_map]; omega)]
      rfl
    simp -implicitDefEqProofs only [zSet, this, Option.bind_some]
    rfl
  generalize hEv : (chs n).filter (isSideB S) = Ev at a10 hEl
  have mEv : ∀ x, x ∈ Ev ↔ x ∈ subs n ∧ isSideB S x = true := fun x => by rw [← hEv, List.mem_filter, mem_chs]
  have qE := ne_nilL Ev
  have qEv : decide (r = none) = decide (Ev = []) := by
    rw [decide_eq_decide]
    constructor
    · intro z
      cases hc : Ev with
      | nil => rfl
      | cons x xs =>
        have := (mEv x).mp (by rw [hc]; exact List.mem_cons_self)
        rw [sR.no z x this.1] at this
        exact absurd this.2 Bool.false_ne_true
    · intro z
      cases hc : r with
      | none => rfl
      | some tt =>
        obtain ⟨y1, y2, _⟩ := sR.yes tt hc
        have := (mEv tt).mpr ⟨y1, y2⟩
        rw [z] at this; cases this
  have gis : gIs (sD r) .none = some (.bool (decide (r = none))) := by cases r <;> rfl
  have gisn : gIsNot (sD r) .none = some (.bool (!decide (r = none))) := by cases r <;> rfl
  have qb := ne_bool (decide (r = none)) (decide (Ev = []))
  have hdec : decide (decide (r = none) = decide (Ev = [])) = true := by rw [decide_eq_true_iff]; exact qEv
  rw [hdec] at qb
  have a11 : (zIf (kB (kBin gNeA (kBin gIs (gVar 13) (kC .none)) (kBin gEqA (gVar 14) (kData (kLst kNil))))) (zRet (kFr (kC (.bool false)))) zNext) (sw K ns ds (.list F) t n S (.fr (.str kp)) b8 c9 c10 (.fr (pD due)) d12 (.fr (sD r)) (.fr (iLL Ev)) u15) = some (.nx (sw K ns ds (.list F) t n S (.fr (.str kp)) b8 c9 c10 (.fr (pD due)) d12 (.fr (sD r)) (.fr (iLL Ev)) u15)) := by
    simp -implicitDefEqProofs [-gNeA, -gEqA, -gIs, gis, qE, qb]
  have a12 : (zIf (kAnd (kB (kBin gIsNot (gVar 13) (kC .none))) (kOr (kB (kBin gNotIn (gVar 13) (gVar 14))) (kOr (kNot (kB (kData (kCallD d_law_packs (kCons (gVar 5) (kCons (gVar 6) kNil)))))) (kOr (kB (kBin gNotIn (kC (.int 0)) (gVar 13))) (kAnd (kB (kBin gLt (gVar 5) (kC (.int 6)))) (kB (kBin gIsNot (kData (kCallD d_bad_minor (kCons (gVar 4) kNil))) (kC .none)))))))) (zRet (kFr (kC (.bool false)))) zNext) (sw K ns ds (.list F) t n S (.fr (.str kp)) b8 c9 c10 (.fr (pD due)) d12 (.fr (sD r)) (.fr (iLL Ev)) u15) = some (.nx (sw K ns ds (.list F) t n S (.fr (.str kp)) b8 c9 c10 (.fr (pD due)) d12 (.fr (sD r)) (.fr (iLL Ev)) u15)) := by
    cases hr : r with
    | none => simp -implicitDefEqProofs [sD]
    | some tt =>
      obtain ⟨y1, y2, y3⟩ := sR.yes tt hr
      have hall := side_packs h y2
      have hpk : PKB n S = true := packs_of_min h (hall [] [])
      rw [hpk] at hp2
      have k1 : gNotIn (iL tt) (iLL Ev) = some (.bool false) := by
        have := Enc.int.list.notIn (by decide) tt Ev
        rw [show gNotIn (iL tt) (iLL Ev) = gNotIn (PyData.list (tt.map fun i => PyData.int i)) (.list (Ev.map fun xs => PyData.list (xs.map fun i => PyData.int i))) from rfl, this]
        have hmem := (mEv tt).mpr ⟨y1, y2⟩
        simp only [hmem, decide_true, Bool.not_true]
      have k2 : gNotIn (.int 0) (iL tt) = some (.bool false) := by
        rw [show gNotIn (.int 0) (iL tt) = _ from notIn_int 0 tt, decide_eq_true y3]; rfl
      by_cases h6 : n < 6
      · have h6' : (n : Int) < 6 := by omega
        have hb := v_bad_minor h (by omega)
        have hbm : bmin n S = none := bmin_none.mpr fun o _ g _ => by
          unfold badB
          rw [hall o g]; simp
        rw [hbm] at hb
        simp -implicitDefEqProofs [-gNotIn, sD, k1, k2, hp2, h6', hb, pD]
      · have h6' : ¬ (n : Int) < 6 := by omega
        simp -implicitDefEqProofs [-gNotIn, sD, k1, k2, hp2, h6']
  have w1_ := v_word (z := hStr "set") (v_check_set0 h) (by kernel_rfl)
  have w2_ := v_word (z := hStr "set") (v_check_set1 h) (by kernel_rfl)
  have z1 := ne_hStr "set" (by decide +kernel) 0
  have z2 := ne_hStr "set" (by decide +kernel) 1
  have w1' : d_law_word [.int 0, fm n S, .list [.int (n : Int)], .list []] = some (.ok (.fr (.tuple [.str "set", .int 0]))) := w1_
  have w2' : d_law_word [.int 0, fm n S, .list [], .list [.int 0, .int 0]] = some (.ok (.fr (.tuple [.str "set", .int 1]))) := w2_
  have z1' : gNeA (.tuple [.str "set", .int 0]) (.tuple [.str "set", .int 0]) = some (.bool false) := z1
  have z2' : gNeA (.tuple [.str "set", .int 1]) (.tuple [.str "set", .int 1]) = some (.bool false) := z2
  have z3 := ne_str kp
  have a13 : (zIf (kOr (kB (kBin gNeA (kData (kCallD d_law_word (kCons (kC (.int 0)) (kCons (gVar 4) (kCons (kData (kLst (kCons (gVar 5) kNil))) (kCons (kData (kLst kNil)) kNil)))))) (kTup (kCons (kC (.str "set")) (kCons (kC (.int 0)) kNil))))) (kOr (kB (kBin gNeA (kData (kCallD d_law_word (kCons (kC (.int 0)) (kCons (gVar 4) (kCons (kData (kLst kNil)) (kCons (kData (kLst (kCons (kC (.int 0)) (kCons (kC (.int 0)) kNil)))) kNil)))))) (kTup (kCons (kC (.str "set")) (kCons (kC (.int 1)) kNil))))) (kB (kBin gNeA (kData (kCall gRepr (kCons (gVar 4) kNil))) (gVar 7))))) (zRet (kFr (kC (.bool false)))) zNext) (sw K ns ds (.list F) t n S (.fr (.str kp)) b8 c9 c10 (.fr (pD due)) d12 (.fr (sD r)) (.fr (iLL Ev)) u15) = some (.nx (sw K ns ds (.list F) t n S (.fr (.str kp)) b8 c9 c10 (.fr (pD due)) d12 (.fr (sD r)) (.fr (iLL Ev)) u15)) := by
    simp -implicitDefEqProofs [-gNeA, w1', w2', z1', z2', hrf, z3]
  refine ⟨.fr (.str kp), b8, c9, c10, .fr (pD due), d12, .fr (sD r), .fr (iLL Ev), u15, ?_⟩
  · unfold w3
    simp -implicitDefEqProofs only [zSeq]
    rw [a1, Option.bind_some]; dsimp only
    rw [a2, Option.bind_some]; dsimp only
    rw [a3, Option.bind_some]; dsimp only
    rw [a4, Option.bind_some]; dsimp only
    rw [a5, Option.bind_some]; dsimp only
    rw [a6, Option.bind_some]; dsimp only
    rw [a7, Option.bind_some]; dsimp only
    try simp -implicitDefEqProofs only [zSeq] at a8
    rw [a8, Option.bind_some]; dsimp only
    rw [a9, Option.bind_some]; dsimp only
    rw [a10, Option.bind_some]; dsimp only
    rw [a11, Option.bind_some]; dsimp only
    rw [a12, Option.bind_some]; dsimp only
    exact a13
end K79

set_option Elab.async false
set_option linter.all false
set_option maxRecDepth 100000
set_option maxHeartbeats 2000000
namespace K79
open PySem PySem.Spec PyProof.Rows L2 DL CM
theorem plain (K : PySem.W.Frag) (ns : List Int) (hn : ns.length ≤ 63) : (b_law K (Sl.sc K ns :: List.replicate 15 Sl.un)).bind flRes = some (.ok (.fr (.bool true))) := by
  obtain ⟨ds, hD, hd⟩ := v_draws K ns hn
  obtain ⟨n0, S0, f0, F0⟩ := v_family hD
  obtain ⟨n1, S1, f1, F1⟩ := v_pairs hD
  have sc0 := fun r => scAt_zero K ns r
  have s1 : zSet 1 (kData (kCallSc K (d_law_draws K) 0)) (Sl.sc K ns :: List.replicate 15 Sl.un) = some (.nx (.sc K ns :: .fr (iL ds) :: List.replicate 14 Sl.un)) := by
    simp -implicitDefEqProofs [-scAt, sc0, hd]
    try rfl
  let F : List D := [fm n0 S0, fm n1 S1, fm 3 [[0, 1], [0, 2], [1, 2]]]
  have s2 : zSet 2 (kData (kLst (kCons (kData (kCallD d_law_family (kCons (gVar 1) (kCons (kC (.int 10)) (kCons (kC (.int 5)) kNil))))) (kCons (kData (kCallD d_law_pairs (kCons (gVar 1) (kCons (kC (.int 200)) kNil)))) (kCons (kTup (kCons (kC (.int 3)) (kCons (kData (kLst (kCons (kData (kLst (kCons (kC (.int 0)) (kCons (kC (.int 1)) kNil)))) (kCons (kData (kLst (kCons (kC (.int 0)) (kCons (kC (.int 2)) kNil)))) (kCons (kData (kLst (kCons (kC (.int 1)) (kCons (kC (.int 2)) kNil)))) kNil))))) kNil))) kNil))))) (.sc K ns :: .fr (iL ds) :: List.replicate 14 Sl.un) = some (.nx (.sc K ns :: .fr (iL ds) :: .fr (.list F) :: List.replicate 13 Sl.un)) := by
    have e0 : kData (kCallD d_law_family (kCons (gVar 1) (kCons (kC (.int 10)) (kCons (kC (.int 5)) kNil)))) (.sc K ns :: .fr (iL ds) :: List.replicate 14 Sl.un) = some (fm n0 S0) := by
      simp -implicitDefEqProofs [f0]
    have e1 : kData (kCallD d_law_pairs (kCons (gVar 1) (kCons (kC (.int 200)) kNil))) (.sc K ns :: .fr (iL ds) :: List.replicate 14 Sl.un) = some (fm n1 S1) := by
      simp -implicitDefEqProofs [f1]
    have e2 : kTup (kCons (kC (.int 3)) (kCons (kData (kLst (kCons (kData (kLst (kCons (kC (.int 0)) (kCons (kC (.int 1)) kNil)))) (kCons (kData (kLst (kCons (kC (.int 0)) (kCons (kC (.int 2)) kNil)))) (kCons (kData (kLst (kCons (kC (.int 1)) (kCons (kC (.int 2)) kNil)))) kNil))))) kNil)) (.sc K ns :: .fr (iL ds) :: List.replicate 14 Sl.un) = some (fm 3 [[0, 1], [0, 2], [1, 2]]) := by
      simp -implicitDefEqProofs
      try rfl
    have e3 : kData (kLst (kCons (kData (kCallD d_law_family (kCons (gVar 1) (kCons (kC (.int 10)) (kCons (kC (.int 5)) kNil))))) (kCons (kData (kCallD d_law_pairs (kCons (gVar 1) (kCons (kC (.int 200)) kNil)))) (kCons (kTup (kCons (kC (.int 3)) (kCons (kData (kLst (kCons (kData (kLst (kCons (kC (.int 0)) (kCons (kC (.int 1)) kNil)))) (kCons (kData (kLst (kCons (kC (.int 0)) (kCons (kC (.int 2)) kNil)))) (kCons (kData (kLst (kCons (kC (.int 1)) (kCons (kC (.int 2)) kNil)))) kNil))))) kNil))) kNil)))) (.sc K ns :: .fr (iL ds) :: List.replicate 14 Sl.un) = some (.list F) := by
      have : kCons (kData (kCallD d_law_family (kCons (gVar 1) (kCons (kC (.int 10)) (kCons (kC (.int 5)) kNil))))) (kCons (kData (kCallD d_law_pairs (kCons (gVar 1) (kCons (kC (.int 200)) kNil)))) (kCons (kTup (kCons (kC (.int 3)) (kCons (kData (kLst (kCons (kData (kLst (kCons (kC (.int 0)) (kCons (kC (.int 1)) kNil)))) (kCons (kData (kLst (kCons (kC (.int 0)) (kCons (kC (.int 2)) kNil)))) (kCons (kData (kLst (kCons (kC (.int 1)) (kCons (kC (.int 2)) kNil)))) kNil))))) kNil))) kNil)) (.sc K ns :: .fr (iL ds) :: List.replicate 14 Sl.un) = some F := by
        show ((kData _ _).bind _) = _
        rw [e0, Option.bind_some]
        show (((((kData _ _).bind _)).bind _)) = _
        rw [e1, Option.bind_some]
        show (((((((DL.kTup _ _).bind _)).bind _)).bind _)) = _
        rw [e2]; rfl
      show ((((kCons _ _ _).bind _)).bind _) = _
      rw [this]; rfl
    show ((kData _ _).bind _) = _
    rw [e3]; rfl
  have hfor : ∃ ρ', zFor (kRange1 (kCons (kC (.int 3)) kNil)) (sName 3) w3 (.sc K ns :: .fr (iL ds) :: .fr (.list F) :: List.replicate 13 Sl.un) = some (.nx ρ') := by
    obtain ⟨ρ', e, _⟩ := forGo_ix (S := Unit) (fun i : Nat => PyData.int (i : Int)) (sName 3) w3 (fun _ _ ρ => ∃ u3 u4 u5 u6 u7 u8 u9 u10 u11 u12 u13 u14 u15, ρ = [.sc K ns, .fr (iL ds), .fr (.list F), u3, u4, u5, u6, u7, u8, u9, u10, u11, u12, u13, u14, u15]) (fun _ _ => ()) (List.range 3) 0 () (.sc K ns :: .fr (iL ds) :: .fr (.list F) :: List.replicate 13 Sl.un) ⟨_, _, _, _, _, _, _, _, _, _, _, _, _, rfl⟩ fun j a ha _ ρ ⟨u3, u4, u5, u6, u7, u8, u9, u10, u11, u12, u13, u14, u15, e⟩ => by
      subst e
      obtain ⟨hj, rfl⟩ := range_get ha
      have hF : ∃ n S, Fam n S ∧ atI F (a : Int) = some (fm n S) := by
        have : a = 0 ∨ a = 1 ∨ a = 2 := by omega
        rcases this with rfl | rfl | rfl
        · exact ⟨n0, S0, F0, rfl⟩
        · exact ⟨n1, S1, F1, rfl⟩
        · exact ⟨3, _, fam3, rfl⟩
      obtain ⟨n, S, hFam, hat⟩ := hF
      obtain ⟨k, v8, v9, v10, v11, v12, v13, v14, v15, g⟩ := w3_step (K := K) (ns := ns) hD hFam hj hat u4 u5 u6 u7 u8 u9 u10 u11 u12 u13 u14 u15
      exact ⟨_, _, rfl, g, _, _, _, _, _, _, _, _, _, _, _, _, _, rfl⟩
    refine ⟨ρ', ?_⟩
    simp -implicitDefEqProofs only [zFor]
    rw [kR1 (n := 3) rfl (by decide), Option.bind_some]
    exact e
  obtain ⟨ρ', hfor⟩ := hfor
  have e : b_law K (Sl.sc K ns :: List.replicate 15 Sl.un) = some (.rt (.fr (.bool true))) := by
    rw [b_law_eq]
    simp -implicitDefEqProofs only [zSeq]
    rw [s1, Option.bind_some]; dsimp only
    rw [s2, Option.bind_some]; dsimp only
    rw [hfor, Option.bind_some]
    rfl
  rw [e]; rfl
end K79

set_option Elab.async false
theorem PySem.Challenge.cw_wholebest_k79_whole_minors_and_two_sided_holds : PySem.Challenge.rw_wholebest_k79_whole_minors_and_two_sided.Holds := by
  exact K79_holds K79.plain
