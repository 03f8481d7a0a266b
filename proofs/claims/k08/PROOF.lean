import PyProof.Rows.All
import Wide.All
import OpenK.AllK
import Wide.FinOn
import KE.SortData
import KE.DataCmp
import KE.GoesEnum
import HandS.ForMost
import HandS.More
import HandS.Exc
import HandS.ExcOwn
import HandS.WordsExc
import HandS.IsInst
import HandS.TupAny
import HandS.TupMul
import HandS.TupLe
import HandS.Deep
import HandS.Style
import HandS.Wide
import HandS.Lambda
import HandS.EndTab
import HandS.ExcCtx
import HandS.ExcIs
import HandS.SuiteRaise
import HandS.Steps
import HandS.Defaults
import HandS.Head0
import HandS.Head1
import HandS.Head2
import HandS.HeadEnd
import HandS.HeadHook1
import HandS.HeadHook2
import HandS.HeadHook3
import HandS.HeadWalk
import HandS.HeadHook4
import HandS.NestedK
import HandS.HotCalls
import KE.DataFind
import HandS.Replace
import HandS.ReplaceLit
import HandS.ReplaceDef
import HandS.ReplaceList
import PyProof.ToksMono
import HandS.Dict
import HandS.TupSets
import HandS.Strs
import PySem.Challenge.RW_frostboard_k08_whole_orphans
set_option Elab.async false
set_option linter.all false
set_option maxRecDepth 100000
set_option maxHeartbeats 3200000
set_option autoImplicit false
/-! The data layer: readings of the hand layer, told over plain data (no heap in sight). -/
namespace Fb
open PySem L2
abbrev D := PyData
abbrev Ex (H H' : Hp) : Prop := ∀ a o, H a = some o → H' a = some o
theorem Ex.refl (H : Hp) : Ex H H := fun _ _ h => h
theorem Ex.trans {H H1 H2 : Hp} (a : Ex H H1) (b : Ex H1 H2) : Ex H H2 := fun x o h => b x o (a x o h)
theorem Ex.free {H H' : Hp} (e : Ex H H') {a : Addr} (h : H' a = none) : H a = none := by
  cases q : H a with
  | none => rfl
  | some o => rw [e a o q] at h; cases h

mutual
/-- v stands for the data d, all of it tracked in H -/
inductive Is (H : Hp) : V → PyData → Prop
  | non : Is H .non .none
  | bl (b : Bool) : Is H (.bl b) (.bool b)
  | int (i : Int) : Is H (.int i) (.int i)
  | str (x : Str) : Is H (.str x) (.str x)
  | lst {a : Addr} {xs : List V} {ds : List PyData} : H a = some (.lst xs) → IsAll H xs ds → Is H (.ref a) (.list ds)
  | tup {a : Addr} {xs : List V} {ds : List PyData} : H a = some (.tup xs) → IsAll H xs ds → Is H (.ref a) (.tuple ds)
inductive IsAll (H : Hp) : List V → List PyData → Prop
  | nil : IsAll H [] []
  | cons {v : V} {vs : List V} {d : PyData} {ds : List PyData} : Is H v d → IsAll H vs ds → IsAll H (v :: vs) (d :: ds)
end

mutual
theorem isMono {G H : Hp} (e : Ex G H) : ∀ (d : PyData) (v : V), Is G v d → Is H v d
  | .none, _, h => by cases h; exact .non
  | .bool _, _, h => by cases h; exact .bl _
  | .int _, _, h => by cases h; exact .int _
  | .str _, _, h => by cases h; exact .str _
  | .list ds, _, h => by
    cases h with
    | lst h1 h2 => exact .lst (e _ _ h1) (isAllMono e ds _ h2)
  | .tuple ds, _, h => by
    cases h with
    | tup h1 h2 => exact .tup (e _ _ h1) (isAllMono e ds _ h2)
  | .dict _, _, h => by cases h
theorem isAllMono {G H : Hp} (e : Ex G H) : ∀ (ds : List PyData) (vs : List V), IsAll G vs ds → IsAll H vs ds
  | [], _, h => by cases h; exact .nil
  | d :: ds, _, h => by
    cases h with
    | cons h1 h2 => exact .cons (isMono e d _ h1) (isAllMono e ds _ h2)
end
mutual
theorem isDp {K : PySem.W.Frag} {H : Hp} : ∀ (d : PyData) (v : V), Is H v d → Dp K H v d
  | .none, _, h => by cases h; exact .non
  | .bool _, _, h => by cases h; exact .bl _
  | .int _, _, h => by cases h; exact .int _
  | .str _, _, h => by cases h; exact .str _
  | .list ds, _, h => by
    cases h with
    | lst h1 h2 => exact .lst (.of h1) (isAllDp ds _ h2)
  | .tuple ds, _, h => by
    cases h with
    | tup h1 h2 => exact .tup (.of h1) (isAllDp ds _ h2)
  | .dict _, _, h => by cases h
theorem isAllDp {K : PySem.W.Frag} {H : Hp} : ∀ (ds : List PyData) (vs : List V), IsAll H vs ds → DpAll K H vs ds
  | [], _, h => by cases h; exact .nil
  | d :: ds, _, h => by
    cases h with
    | cons h1 h2 => exact .cons (isDp d _ h1) (isAllDp ds _ h2)
end
theorem Is.mono {G H : Hp} {v : V} {d : PyData} (h : Is G v d) (e : Ex G H) : Is H v d := isMono e d v h
theorem IsAll.mono {G H : Hp} {vs : List V} {ds : List PyData} (h : IsAll G vs ds) (e : Ex G H) : IsAll H vs ds := isAllMono e ds vs h
theorem Is.dp {K : PySem.W.Frag} {H : Hp} {v : V} {d : PyData} (h : Is H v d) : Dp K H v d := isDp d v h
theorem IsAll.dp {K : PySem.W.Frag} {H : Hp} {vs : List V} {ds : List PyData} (h : IsAll H vs ds) : DpAll K H vs ds := isAllDp ds vs h
theorem IsAll.length {H : Hp} : ∀ {vs : List V} {ds : List PyData}, IsAll H vs ds → vs.length = ds.length
  | [], [], _ => rfl
  | _ :: _, _ :: _, .cons _ h => by simp [IsAll.length h]
theorem IsAll.get {H : Hp} {vs : List V} {ds : List PyData} {i : Nat} {v : V} (h : IsAll H vs ds) (e : vs[i]? = some v) : ∃ d, ds[i]? = some d ∧ Is H v d := by
  induction i generalizing vs ds with
  | zero =>
    cases h with
    | nil => cases e
    | cons a t =>
      have e' : _ = v := Option.some.inj e
      subst e'
      exact ⟨_, rfl, a⟩
  | succ i ih =>
    cases h with
    | nil => cases e
    | cons a t => exact ih t (by simpa using e)
theorem IsAll.at {H : Hp} {vs : List V} {ds : List PyData} {i : Nat} {d : PyData} (h : IsAll H vs ds) (e : ds[i]? = some d) : ∃ v, vs[i]? = some v ∧ Is H v d := by
  induction i generalizing vs ds with
  | zero =>
    cases h with
    | nil => cases e
    | cons a t =>
      have e' : _ = d := Option.some.inj e
      subst e'
      exact ⟨_, rfl, a⟩
  | succ i ih =>
    cases h with
    | nil => cases e
    | cons a t => exact ih t (by simpa using e)
theorem IsAll.append {H : Hp} : ∀ {vs : List V} {ds : List PyData} {ws : List V} {es : List PyData}, IsAll H vs ds → IsAll H ws es → IsAll H (vs ++ ws) (ds ++ es) := by
  intro vs
  induction vs with
  | nil => intro ds ws es h1 h2; cases h1; exact h2
  | cons v vs ih =>
    intro ds ws es h1 h2
    cases h1 with
    | cons a t => exact .cons a (ih t h2)
theorem IsAll.drop {H : Hp} : ∀ {vs : List V} {ds : List PyData} (n : Nat), IsAll H vs ds → IsAll H (vs.drop n) (ds.drop n) := by
  intro vs ds n
  induction n generalizing vs ds with
  | zero => intro h; exact h
  | succ n ih =>
    intro h
    cases h with
    | nil => exact .nil
    | cons a t => exact ih t
theorem IsAll.take {H : Hp} : ∀ {vs : List V} {ds : List PyData} (n : Nat), IsAll H vs ds → IsAll H (vs.take n) (ds.take n) := by
  intro vs ds n
  induction n generalizing vs ds with
  | zero => intro h; rw [List.take_zero, List.take_zero]; exact .nil
  | succ n ih =>
    intro h
    cases h with
    | nil => exact .nil
    | cons a t => exact .cons a (ih t)
theorem IsAll.rev {H : Hp} : ∀ {vs : List V} {ds : List PyData}, IsAll H vs ds → IsAll H vs.reverse ds.reverse
  | [], [], _ => .nil
  | _ :: _, _ :: _, .cons a t => by
    rw [List.reverse_cons, List.reverse_cons]
    exact (IsAll.rev t).append (.cons a .nil)
theorem IsAll.rep {H : Hp} {vs : List V} {ds : List PyData} (h : IsAll H vs ds) : ∀ n : Nat, IsAll H (List.replicate n vs).flatten (List.replicate n ds).flatten
  | 0 => .nil
  | n + 1 => by
    rw [List.replicate_succ, List.replicate_succ, List.flatten_cons, List.flatten_cons]
    exact h.append (IsAll.rep h n)
theorem IsAll.ints {H : Hp} : ∀ {vs : List V} {ns : List Int}, IsAll H vs (ns.map .int) → vs = ns.map V.int
  | [], [], _ => rfl
  | _ :: _, _ :: _, .cons (.int _) t => by rw [IsAll.ints t]; rfl
theorem IsAll.bools {H : Hp} : ∀ {vs : List V} {ns : List Bool}, IsAll H vs (ns.map .bool) → vs = ns.map V.bl
  | [], [], _ => rfl
  | _ :: _, _ :: _, .cons (.bl _) t => by rw [IsAll.bools t]; rfl
theorem IsAll.strs {H : Hp} : ∀ {vs : List V} {ns : List Str}, IsAll H vs (ns.map .str) → vs = ns.map V.str
  | [], [], _ => rfl
  | _ :: _, _ :: _, .cons (.str _) t => by rw [IsAll.strs t]; rfl
theorem isAll_strs {H : Hp} : ∀ (ns : List Str), IsAll H (ns.map V.str) (ns.map .str)
  | [] => .nil
  | n :: ns => .cons (.str n) (isAll_strs ns)
theorem isAll_ints {H : Hp} : ∀ (ns : List Int), IsAll H (ns.map V.int) (ns.map .int)
  | [] => .nil
  | n :: ns => .cons (.int n) (isAll_ints ns)

/-! ### how the heaps grow -/
/-- the name of the code of a lambda of the law -/
def LQ : Str := "law.<locals>.<lambda>"
def TabsQ (T : List (Addr × Str)) (H : Hp) : Prop := (∀ p ∈ T, p.2 = LQ) ∧ LamX.Tabs T H
theorem TabsQ.ext {T : List (Addr × Str)} {H H' : Hp} (t : TabsQ T H) (e : ∀ b o, H b = some o → H' b = some o) : TabsQ T H' := ⟨t.1, t.2.ext e⟩
theorem TabsQ.ne {T : List (Addr × Str)} {H : Hp} (t : TabsQ T H) (p : Addr × Str) (hp : p ∈ T) : H p.1 ≠ none := by
  obtain ⟨ps, h1, _⟩ := t.2 p hp
  rw [h1]
  exact fun z => by cases z
theorem tabsQ_nil {H : Hp} : TabsQ [] H := ⟨(fun p h => by cases h), fun p h => by cases h⟩
/-- G the known part of H, then G' of H'. B: what may change at will -/
structure Grow (B : List Addr) (G H G' H' : Hp) : Prop where
  gg : Ex G G'
  hh : ∀ a o, H a = some o → a ∉ B → (∀ ps, o ≠ .tbl ps) → H' a = some o
  tb : ∀ T, TabsQ T H → TabsQ T H'
  fr : ∀ a, H a ≠ none → G' a = G a
  st : ∀ a, H a ≠ none → H' a ≠ none
theorem Grow.refl (B : List Addr) (G H : Hp) : Grow B G H G H := ⟨.refl _, fun _ _ h _ _ => h, fun _ h => h, fun _ _ => rfl, fun _ h => h⟩
theorem Grow.trans {B : List Addr} {G H G1 H1 G2 H2 : Hp} (a : Grow B G H G1 H1) (b : Grow B G1 H1 G2 H2) : Grow B G H G2 H2 :=
  ⟨a.gg.trans b.gg, fun x o h1 h2 h3 => b.hh x o (a.hh x o h1 h2 h3) h2 h3, fun T h => b.tb T (a.tb T h), fun x h => (b.fr x (a.st x h)).trans (a.fr x h), fun x h => b.st x (a.st x h)⟩
theorem Grow.weak {B B' : List Addr} {G H G' H' : Hp} (a : Grow B G H G' H') (s : ∀ x ∈ B, x ∈ B') : Grow B' G H G' H' := ⟨a.gg, fun x o h1 h2 h3 => a.hh x o h1 (fun z => h2 (s x z)) h3, a.tb, a.fr, a.st⟩
theorem ne_none_of {H : Hp} {a : Addr} {o : HO} (h : H a = some o) : H a ≠ none := by rw [h]; exact fun z => by cases z
theorem some_of_ne {H : Hp} {a : Addr} (h : H a ≠ none) : ∃ o, H a = some o := by
  cases q : H a with
  | none => exact absurd q h
  | some o => exact ⟨o, rfl⟩
/-- plain growth: all stays -/
structure Pl (G H G' H' : Hp) : Prop where
  gg : Ex G G'
  hh : Ex H H'
  fr : ∀ a, H a ≠ none → G' a = G a
theorem Pl.grow {B : List Addr} {G H G' H' : Hp} (p : Pl G H G' H') : Grow B G H G' H' := ⟨p.gg, fun a o h _ _ => p.hh a o h, fun T h => h.ext p.hh, p.fr, fun a h => by
  obtain ⟨o, e⟩ := some_of_ne h
  exact ne_none_of (p.hh a o e)⟩
theorem Pl.refl (G H : Hp) : Pl G H G H := ⟨.refl _, .refl _, fun _ _ => rfl⟩
theorem Ex.new {H : Hp} {p : Addr} {o : HO} (h : H p = none) : Ex H (upd H p o) := fun a u e => by
  rw [upd_ne (ne_of_none e h)]
  exact e
theorem Ex.upd2 {G H : Hp} (e : Ex G H) {p : Addr} {o : HO} : Ex (upd G p o) (upd H p o) := fun a u h => by
  by_cases q : a = p
  · rw [q, upd_same] at h ⊢
    exact h
  · rw [upd_ne q] at h ⊢
    exact e a u h
theorem Pl.new {G H : Hp} (e : Ex G H) {p : Addr} {o : HO} (h : H p = none) : Pl G H (upd G p o) (upd H p o) :=
  ⟨Ex.new (e.free h), Ex.new h, fun a q => upd_ne fun z => q (by rw [z]; exact h)⟩

/-! ### the environment -/
inductive Ent where
  | un
  | dat (d : PyData)
  /-- a list of our own, at p, not yet told -/
  | own (p : Addr) (ds : List PyData)
  /-- another object, at p -/
  | obj (p : Addr) (o : HO)
  /-- a dict with tuples as keys and data as values, at p -/
  | dic (p : Addr) (kvs : List (List L2.Key × PyData))
  | raw (v : V)
abbrev Env := List Ent
def Ent.addr : Ent → Option Addr
  | .own p _ => some p
  | .obj p _ => some p
  | .dic p _ => some p
  | _ => none
def EntOk (G H : Hp) (s : Option (Option V)) : Ent → Prop
  | .un => True
  | .dat d => ∃ v, s = some (some v) ∧ Is G v d
  | .own p ds => s = some (some (.ref p)) ∧ (∃ vs, H p = some (.lst vs) ∧ IsAll G vs ds) ∧ G p = none
  | .obj p o => s = some (some (.ref p)) ∧ H p = some o ∧ G p = none ∧ ∀ ps, o ≠ .tbl ps
  | .dic p kvs => s = some (some (.ref p)) ∧ (∃ vs, H p = some (.dT vs) ∧ vs.map (·.1) = kvs.map (·.1) ∧ IsAll G (vs.map (·.2)) (kvs.map (·.2))) ∧ G p = none
  | .raw v => s = some (some v)
structure Cfg where
  K : PySem.W.Frag
  T : List (Addr × Str)
  B : List Addr
  E : XK
structure Sit (T : List (Addr × Str)) (ρ : Env) (σ : L2.St) (G H : Hp) : Prop where
  gh : Ex G H
  len : σ.length = ρ.length
  ent : ∀ (i : Nat) (e : Ent), ρ[i]? = some e → EntOk G H σ[i]? e
  uq : ∀ (i j : Nat) (p : Addr) (e e' : Ent), ρ[i]? = some e → ρ[j]? = some e' → e.addr = some p → e'.addr = some p → i = j
  tabs : TabsQ T H
  gtab : ∀ p ∈ T, G p.1 = none
section
variable {T : List (Addr × Str)} {ρ ρ' ρ1 ρ2 ρ3 : Env} {σ : L2.St} {G H G' H' : Hp}
theorem EntOk.pl {s : Option (Option V)} {e : Ent} (h : EntOk G H s e) (p : Pl G H G' H') : EntOk G' H' s e := by
  cases e with
  | un => trivial
  | dat d => obtain ⟨v, h1, h2⟩ := h; exact ⟨v, h1, h2.mono p.gg⟩
  | own a ds =>
    obtain ⟨h1, ⟨vs, h2, h3⟩, h4⟩ := h
    exact ⟨h1, ⟨vs, p.hh _ _ h2, h3.mono p.gg⟩, (p.fr a (ne_none_of h2)).trans h4⟩
  | obj a o =>
    obtain ⟨h1, h2, h3, h4⟩ := h
    exact ⟨h1, p.hh _ _ h2, (p.fr a (ne_none_of h2)).trans h3, h4⟩
  | dic a ks =>
    obtain ⟨h1, ⟨vs, h2, hk, h3⟩, h4⟩ := h
    exact ⟨h1, ⟨vs, p.hh _ _ h2, hk, h3.mono p.gg⟩, (p.fr a (ne_none_of h2)).trans h4⟩
  | raw v => exact h
theorem EntOk.grow {B : List Addr} {s : Option (Option V)} {e : Ent} (h : EntOk G H s e) (p : Grow B G H G' H') (n : ∀ a, e.addr = some a → a ∉ B) : EntOk G' H' s e := by
  cases e with
  | un => trivial
  | dat d => obtain ⟨v, h1, h2⟩ := h; exact ⟨v, h1, h2.mono p.gg⟩
  | own a ds =>
    obtain ⟨h1, ⟨vs, h2, h3⟩, h4⟩ := h
    exact ⟨h1, ⟨vs, p.hh _ _ h2 (n a rfl) (fun ps z => by cases z), h3.mono p.gg⟩, (p.fr a (ne_none_of h2)).trans h4⟩
  | obj a o =>
    obtain ⟨h1, h2, h3, h4⟩ := h
    exact ⟨h1, p.hh _ _ h2 (n a rfl) h4, (p.fr a (ne_none_of h2)).trans h3, h4⟩
  | dic a ks =>
    obtain ⟨h1, ⟨vs, h2, hk, h3⟩, h4⟩ := h
    exact ⟨h1, ⟨vs, p.hh _ _ h2 (n a rfl) (fun ps z => by cases z), hk, h3.mono p.gg⟩, (p.fr a (ne_none_of h2)).trans h4⟩
  | raw v => exact h
theorem Sit.pl (s : Sit T ρ σ G H) (p : Pl G H G' H') (gh : Ex G' H') : Sit T ρ σ G' H' := ⟨gh, s.len, fun i e h => (s.ent i e h).pl p, s.uq, s.tabs.ext p.hh, fun q hq => (p.fr q.1 (s.tabs.ne q hq)).trans (s.gtab q hq)⟩
theorem Sit.grow0 (s : Sit T ρ σ G H) (p : Grow [] G H G' H') (gh : Ex G' H') : Sit T ρ σ G' H' := ⟨gh, s.len, fun i e h => (s.ent i e h).grow p (fun _ _ z => by cases z), s.uq, p.tb _ s.tabs, fun q hq => (p.fr q.1 (s.tabs.ne q hq)).trans (s.gtab q hq)⟩
theorem Sit.var {i : Nat} {d : PyData} (s : Sit T ρ σ G H) (h : ρ[i]? = some (.dat d)) : ∃ v, σ[i]? = some (some v) ∧ Is G v d := s.ent i _ h
theorem getset {α : Type} {l : List α} {i j : Nat} {x y : α} (h : (l.set i x)[j]? = some y) : (j = i ∧ y = x ∧ i < l.length) ∨ (j ≠ i ∧ l[j]? = some y) := by
  by_cases e : i = j
  · subst e
    by_cases hl : i < l.length
    · rw [List.getElem?_set_self hl] at h
      exact .inl ⟨rfl, (Option.some.inj h).symm, hl⟩
    · rw [List.getElem?_eq_none (by simpa using hl)] at h
      cases h
  · rw [List.getElem?_set_ne e] at h
    exact .inr ⟨fun z => e z.symm, h⟩
/-- a slot stored -/
theorem Sit.set {i : Nat} {e : Ent} {v : V} (s : Sit T ρ σ G H) (h : EntOk G H (some (some v)) e) (n : ∀ p, e.addr = some p → ∀ (j : Nat) (e' : Ent), ρ[j]? = some e' → e'.addr = some p → j = i) : Sit T (ρ.set i e) (σ.set i (some v)) G H := by
  refine ⟨s.gh, by simp [s.len], fun j e' hj => ?_, fun j k p e1 e2 h1 h2 a1 a2 => ?_, s.tabs, s.gtab⟩
  · rcases getset hj with ⟨rfl, rfl, hl⟩ | ⟨hne, hj⟩
    · rw [List.getElem?_set_self (by rw [s.len]; exact hl)]
      exact h
    · rw [List.getElem?_set_ne (fun z => hne z.symm)]
      exact s.ent j e' hj
  · rcases getset h1 with ⟨rfl, rfl, hl⟩ | ⟨hne, h1⟩
    · rcases getset h2 with ⟨rfl, rfl, _⟩ | ⟨hne2, h2⟩
      · rfl
      · exact absurd (n p a1 k e2 h2 a2) hne2
    · rcases getset h2 with ⟨q1, q2, _⟩ | ⟨hne2, h2⟩
      · rw [q2] at a2
        exact absurd (n p a2 j e1 h1 a1) hne
      · exact s.uq j k p e1 e2 h1 h2 a1 a2
theorem Sit.setDat {i : Nat} {d : PyData} {v : V} (s : Sit T ρ σ G H) (h : Is G v d) : Sit T (ρ.set i (.dat d)) (σ.set i (some v)) G H :=
  s.set ⟨v, rfl, h⟩ fun p z => by cases z
theorem tabs_lst {p : Addr} {o o' : HO} (h : TabsQ T H) (hp : H p = some o) (n1 : ∀ ps, o ≠ .tbl ps) (n2 : ∀ φ, o ≠ .ext φ) : TabsQ T (upd H p o') := ⟨h.1, fun q hq => by
  have h := h.2
  obtain ⟨ps, h1, h2, h3⟩ := h q hq
  refine ⟨ps, ?_, h2, fun pos cv hc => ?_⟩
  · rw [upd_ne]
    · exact h1
    · intro e
      rw [e, hp] at h1
      exact n1 ps (Option.some.inj h1)
  · obtain ⟨k, e1, e2⟩ := h3 pos cv hc
    refine ⟨k, e1, ?_⟩
    rw [upd_ne]
    · exact e2
    · intro e
      rw [e, hp] at e2
      unfold LamX.CodeO at e2
      exact n2 _ (Option.some.inj e2)⟩
/-- what is known may be forgotten -/
inductive Le : Env → Env → Prop
  | nil : Le [] []
  | un {e : Ent} {l r : Env} : Le l r → Le (.un :: l) (e :: r)
  | eq {e : Ent} {l r : Env} : Le l r → Le (e :: l) (e :: r)
theorem Le.refl : ∀ l : Env, Le l l
  | [] => .nil
  | _ :: l => .eq (Le.refl l)
theorem Le.get {l r : Env} (h : Le l r) : l.length = r.length ∧ ∀ (i : Nat) (e : Ent), l[i]? = some e → e = .un ∨ r[i]? = some e := by
  induction h with
  | nil => exact ⟨rfl, fun i e h => .inr h⟩
  | un t ih =>
    refine ⟨by simp [ih.1], fun i e h => ?_⟩
    cases i with
    | zero => exact .inl (Option.some.inj h).symm
    | succ i => simpa using ih.2 i e (by simpa using h)
  | eq t ih =>
    refine ⟨by simp [ih.1], fun i e h => ?_⟩
    cases i with
    | zero => exact .inr h
    | succ i => simpa using ih.2 i e (by simpa using h)
theorem Sit.le (s : Sit T ρ σ G H) (h : Le ρ' ρ) : Sit T ρ' σ G H := by
  obtain ⟨hl, hg⟩ := h.get
  refine ⟨s.gh, s.len.trans hl.symm, fun i e hi => ?_, fun i j p e e' h1 h2 a1 a2 => ?_, s.tabs, s.gtab⟩
  · rcases hg i e hi with rfl | h
    · trivial
    · exact s.ent i e h
  · rcases hg i e h1 with rfl | h1
    · cases a1
    · rcases hg j e' h2 with rfl | h2
      · cases a2
      · exact s.uq i j p e e' h1 h2 a1 a2
end

/-! ### what evaluates to what -/
/-- what is wanted of a pure operation's end -/
def End1 (G H : Hp) (z : D) (Q : VK) : Prop := ∀ v G' H', Pl G H G' H' → Ex G' H' → Is G' v z → Q v H'
theorem End1.here {G H : Hp} {z : D} {Q : VK} (e : End1 G H z Q) (gh : Ex G H) {v : V} (h : Is G v z) : Q v H := e v G H (.refl _ _) gh h
theorem End1.tup {G H : Hp} {ds : List D} {Q : VK} (e : End1 G H (.tuple ds) Q) (gh : Ex G H) {vs : List V} (h : IsAll G vs ds) {p : Addr} (hp : H p = none) : Q (.ref p) (upd H p (.tup vs)) :=
  e _ _ _ (.new gh hp) gh.upd2 (.tup upd_same (h.mono (Ex.new (gh.free hp))))
theorem End1.lst {G H : Hp} {ds : List D} {Q : VK} (e : End1 G H (.list ds) Q) (gh : Ex G H) {vs : List V} (h : IsAll G vs ds) {p : Addr} (hp : H p = none) : Q (.ref p) (upd H p (.lst vs)) :=
  e _ _ _ (.new gh hp) gh.upd2 (.lst upd_same (h.mono (Ex.new (gh.free hp))))
def EvX (c : Cfg) (te : TE) (ρ ρ' : Env) (d : D) : Prop := ∀ σ G H, Sit c.T ρ σ G H → ∀ Q : VK, (∀ v G' H', Grow c.B G H G' H' → Sit c.T ρ' σ G' H' → Is G' v d → Q v H') → te σ H Q
def EvT (c : Cfg) (tt : TT) (ρ ρ' : Env) (b : Bool) : Prop := ∀ σ G H, Sit c.T ρ σ G H → ∀ Q : Bool → Hp → Prop, (∀ G' H', Grow c.B G H G' H' → Sit c.T ρ' σ G' H' → Q b H') → tt σ H Q
def EvA (c : Cfg) (ta : TA) (ρ ρ' : Env) (ds : List D) : Prop := ∀ σ G H, Sit c.T ρ σ G H → ∀ Q : List V → Hp → Prop, (∀ vs G' H', Grow c.B G H G' H' → Sit c.T ρ' σ G' H' → IsAll G' vs ds → Q vs H') → ta σ H Q
def EvO (c : Cfg) (to : TO) (ρ ρ' : Env) (o : Option Int) : Prop := ∀ σ G H, Sit c.T ρ σ G H → ∀ Q : Option Int → Hp → Prop, (∀ G' H', Grow c.B G H G' H' → Sit c.T ρ' σ G' H' → Q o H') → to σ H Q
/-- a two-place operation, a one-place one, a call, by data -/
def RX (r : R2) (x y z : D) : Prop := ∀ (a b : V) (G H : Hp), Ex G H → Is G a x → Is G b y → ∀ Q : VK, End1 G H z Q → r a b H Q
def RU1 (r : V → Hp → VK → Prop) (x z : D) : Prop := ∀ (a : V) (G H : Hp), Ex G H → Is G a x → ∀ Q : VK, End1 G H z Q → r a H Q
def RC (r : List V → Hp → VK → Prop) (xs : List D) (z : D) : Prop := ∀ (vs : List V) (G H : Hp), Ex G H → IsAll G vs xs → ∀ Q : VK, End1 G H z Q → r vs H Q
def RM (r : V → List V → Hp → VK → Prop) (x : D) (xs : List D) (z : D) : Prop := ∀ (a : V) (vs : List V) (G H : Hp), Ex G H → Is G a x → IsAll G vs xs → ∀ Q : VK, End1 G H z Q → r a vs H Q
def RS (r : V → Option Int → Option Int → Hp → VK → Prop) (x : D) (lo hi : Option Int) (z : D) : Prop := ∀ (a : V) (G H : Hp), Ex G H → Is G a x → ∀ Q : VK, End1 G H z Q → r a lo hi H Q
section
variable {c : Cfg} {ρ ρ' ρ1 ρ2 ρ3 : Env} {ta tb tc te : TE} {tr : TA} {t u : TT} {x y z d : D} {r : R2}
theorem End1.of {σ : L2.St} {G H : Hp} {Q : VK} (s : Sit c.T ρ σ G H) (q : ∀ v G' H', Grow c.B G H G' H' → Sit c.T ρ σ G' H' → Is G' v z → Q v H') : End1 G H z Q := fun v G' H' p gh h => q v G' H' p.grow (s.pl p gh) h
theorem ev_var {i : Nat} (h : ρ[i]? = some (.dat d)) : EvX c (tVar i) ρ ρ d := fun σ G H s Q q => by
  obtain ⟨v, h1, h2⟩ := s.var h
  exact ⟨v, h1, q v G H (.refl _ _ _) s h2⟩
theorem ev_int {i : Int} : EvX c (tC (.int i)) ρ ρ (.int i) := fun σ G H s Q q => q _ G H (.refl _ _ _) s (.int i)
theorem ev_str {i : Str} : EvX c (tC (.str i)) ρ ρ (.str i) := fun σ G H s Q q => q _ G H (.refl _ _ _) s (.str i)
theorem ev_bl {i : Bool} : EvX c (tC (.bl i)) ρ ρ (.bool i) := fun σ G H s Q q => q _ G H (.refl _ _ _) s (.bl i)
theorem ev_non : EvX c (tC .non) ρ ρ .none := fun σ G H s Q q => q _ G H (.refl _ _ _) s .non
theorem ev_op (ha : EvX c ta ρ ρ1 x) (hb : EvX c tb ρ1 ρ2 y) (hr : RX r x y z) : EvX c (tOp r ta tb) ρ ρ2 z := fun σ G H s Q q =>
  ha σ G H s _ fun v G1 H1 g1 s1 i1 => hb σ G1 H1 s1 _ fun w G2 H2 g2 s2 i2 => hr v w G2 H2 s2.gh (i1.mono g2.gg) i2 Q (End1.of s2 fun v' G3 H3 g3 s3 i3 => q v' G3 H3 ((g1.trans g2).trans g3) s3 i3)
theorem ev_un {r : V → Hp → VK → Prop} (ha : EvX c ta ρ ρ1 x) (hr : RU1 r x z) : EvX c (tUn r ta) ρ ρ1 z := fun σ G H s Q q =>
  ha σ G H s _ fun v G1 H1 g1 s1 i1 => hr v G1 H1 s1.gh i1 Q (End1.of s1 fun v' G3 H3 g3 s3 i3 => q v' G3 H3 (g1.trans g3) s3 i3)
theorem ev_is (h : EvX c te ρ ρ' x) (e : x = y) : EvX c te ρ ρ' y := e ▸ h
theorem ea_nil : EvA c tNil ρ ρ [] := fun σ G H s Q q => q [] G H (.refl _ _ _) s .nil
theorem ea_cons {ds : List D} (ha : EvX c ta ρ ρ1 x) (hr : EvA c tr ρ1 ρ2 ds) : EvA c (tCons ta tr) ρ ρ2 (x :: ds) := fun σ G H s Q q =>
  ha σ G H s _ fun v G1 H1 g1 s1 i1 => hr σ G1 H1 s1 _ fun vs G2 H2 g2 s2 i2 => q (v :: vs) G2 H2 (g1.trans g2) s2 (.cons (i1.mono g2.gg) i2)
theorem ev_tup {ds : List D} (h : EvA c tr ρ ρ1 ds) (hl : ds.length ≤ 1000) : EvX c (tTup tr) ρ ρ1 (.tuple ds) := fun σ G H s Q q =>
  h σ G H s _ fun vs G1 H1 g1 s1 i1 => ⟨by rw [i1.length, sizeLine_eq]; omega, fun p hp => (End1.of s1 fun v' G3 H3 g3 s3 i3 => q v' G3 H3 (g1.trans g3) s3 i3).tup s1.gh i1 hp⟩
theorem ev_lst {ds : List D} (h : EvA c tr ρ ρ1 ds) (hl : ds.length ≤ 1000) : EvX c (tLst tr) ρ ρ1 (.list ds) := fun σ G H s Q q =>
  h σ G H s _ fun vs G1 H1 g1 s1 i1 => ⟨by rw [i1.length, sizeLine_eq]; omega, fun p hp => (End1.of s1 fun v' G3 H3 g3 s3 i3 => q v' G3 H3 (g1.trans g3) s3 i3).lst s1.gh i1 hp⟩
theorem ev_cb {r : List V → Hp → VK → Prop} {ds : List D} (h : EvA c tr ρ ρ1 ds) (hr : RC r ds z) : EvX c (tCB r tr) ρ ρ1 z := fun σ G H s Q q =>
  h σ G H s _ fun vs G1 H1 g1 s1 i1 => hr vs G1 H1 s1.gh i1 Q (End1.of s1 fun v' G3 H3 g3 s3 i3 => q v' G3 H3 (g1.trans g3) s3 i3)
theorem ev_and {a b : Bool} (h1 : EvX c ta ρ ρ1 (.bool a)) (h2 : a = true → EvX c tb ρ1 ρ1 (.bool b)) : EvX c (tAndV ta tb) ρ ρ1 (.bool (a && b)) := fun σ G H s Q q =>
  h1 σ G H s _ fun v G1 H1 g1 s1 i1 => by
    cases i1
    refine ⟨a, rfl, ?_⟩
    cases a with
    | true =>
      show tb σ H1 Q
      exact h2 rfl σ G1 H1 s1 Q fun v G2 H2 g2 s2 i2 => q v G2 H2 (g1.trans g2) s2 i2
    | false =>
      show Q (.bl false) H1
      exact q _ G1 H1 g1 s1 (.bl false)
theorem ev_or {a b : Bool} (h1 : EvX c ta ρ ρ1 (.bool a)) (h2 : a = false → EvX c tb ρ1 ρ1 (.bool b)) : EvX c (tOrV ta tb) ρ ρ1 (.bool (a || b)) := fun σ G H s Q q =>
  h1 σ G H s _ fun v G1 H1 g1 s1 i1 => by
    cases i1
    refine ⟨a, rfl, ?_⟩
    cases a with
    | true =>
      show Q (.bl true) H1
      exact q _ G1 H1 g1 s1 (.bl true)
    | false =>
      show tb σ H1 Q
      exact h2 rfl σ G1 H1 s1 Q fun v G2 H2 g2 s2 i2 => q v G2 H2 (g1.trans g2) s2 i2
theorem ev_not {a : Bool} (h1 : EvX c ta ρ ρ1 (.bool a)) : EvX c (tNotV ta) ρ ρ1 (.bool (!a)) := fun σ G H s Q q =>
  h1 σ G H s _ fun v G1 H1 g1 s1 i1 => by
    cases i1
    exact ⟨a, rfl, q _ G1 H1 g1 s1 (.bl _)⟩
theorem et_test {b : Bool} (h : EvX c te ρ ρ1 (.bool b)) : EvT c (tTest te) ρ ρ1 b := fun σ G H s Q q => h σ G H s _ fun v G1 H1 g1 s1 i1 => by
  cases i1
  exact ⟨b, rfl, q G1 H1 g1 s1⟩
theorem et_B {b : Bool} (h : EvX c te ρ ρ1 (.bool b)) : EvT c (tB te) ρ ρ1 b := fun σ G H s Q q => h σ G H s _ fun v G1 H1 g1 s1 i1 => by
  cases i1
  exact ⟨b, rfl, q G1 H1 g1 s1⟩
theorem et_and {a b : Bool} (h1 : EvT c t ρ ρ1 a) (h2 : a = true → EvT c u ρ1 ρ1 b) : EvT c (tAnd t u) ρ ρ1 (a && b) := fun σ G H s Q q =>
  h1 σ G H s _ fun G1 H1 g1 s1 => by
    cases a with
    | true =>
      show u σ H1 Q
      exact h2 rfl σ G1 H1 s1 Q fun G2 H2 g2 s2 => q G2 H2 (g1.trans g2) s2
    | false =>
      show Q false H1
      exact q G1 H1 g1 s1
theorem et_or {a b : Bool} (h1 : EvT c t ρ ρ1 a) (h2 : a = false → EvT c u ρ1 ρ1 b) : EvT c (tOr t u) ρ ρ1 (a || b) := fun σ G H s Q q =>
  h1 σ G H s _ fun G1 H1 g1 s1 => by
    cases a with
    | true =>
      show Q true H1
      exact q G1 H1 g1 s1
    | false =>
      show u σ H1 Q
      exact h2 rfl σ G1 H1 s1 Q fun G2 H2 g2 s2 => q G2 H2 (g1.trans g2) s2
theorem et_not {a : Bool} (h1 : EvT c t ρ ρ1 a) : EvT c (tNot t) ρ ρ1 (!a) := fun σ G H s Q q => h1 σ G H s _ fun G1 H1 g1 s1 => q G1 H1 g1 s1
theorem et_yes : EvT c tYes ρ ρ true := fun σ G H s Q q => q G H (.refl _ _ _) s
theorem et_is {a b : Bool} (h : EvT c t ρ ρ1 a) (e : a = b) : EvT c t ρ ρ1 b := e ▸ h
theorem ev_if {b : Bool} (h : EvT c t ρ ρ1 b) (h1 : b = true → EvX c ta ρ1 ρ2 z) (h2 : b = false → EvX c tb ρ1 ρ2 z) : EvX c (tIf t ta tb) ρ ρ2 z := fun σ G H s Q q =>
  h σ G H s _ fun G1 H1 g1 s1 => by
    cases b with
    | true =>
      show ta σ H1 Q
      exact h1 rfl σ G1 H1 s1 Q fun v G2 H2 g2 s2 i2 => q v G2 H2 (g1.trans g2) s2 i2
    | false =>
      show tb σ H1 Q
      exact h2 rfl σ G1 H1 s1 Q fun v G2 H2 g2 s2 i2 => q v G2 H2 (g1.trans g2) s2 i2
theorem eo_none : EvO c tNoPart ρ ρ none := fun σ G H s Q q => q G H (.refl _ _ _) s
theorem eo_some {i : Int} (h : EvX c te ρ ρ1 (.int i)) : EvO c (tPart te) ρ ρ1 (some i) := fun σ G H s Q q => h σ G H s _ fun v G1 H1 g1 s1 i1 => by
  cases i1
  exact ⟨i, rfl, q G1 H1 g1 s1⟩
theorem ev_sl {r : V → Option Int → Option Int → Hp → VK → Prop} {tl th : TO} {lo hi : Option Int} (h : EvX c te ρ ρ1 x) (hl : EvO c tl ρ1 ρ2 lo) (hh : EvO c th ρ2 ρ3 hi) (hr : RS r x lo hi z) : EvX c (tSl r te tl th) ρ ρ3 z := fun σ G H s Q q =>
  h σ G H s _ fun v G1 H1 g1 s1 i1 => hl σ G1 H1 s1 _ fun G2 H2 g2 s2 => hh σ G2 H2 s2 _ fun G3 H3 g3 s3 => hr v G3 H3 s3.gh (i1.mono (g2.gg.trans g3.gg)) Q (End1.of s3 fun v' G4 H4 g4 s4 i4 => q v' G4 H4 (((g1.trans g2).trans g3).trans g4) s4 i4)
theorem ev_chain {r' : R2} {a b : Bool} {w : D} (ha : EvX c ta ρ ρ1 x) (hb : EvX c tb ρ1 ρ2 y) (hr : RX r x y (.bool a)) (hc : a = true → EvX c tc ρ2 ρ2 w) (hr' : a = true → RX r' y w (.bool b)) : EvX c (tChain r r' ta tb tc) ρ ρ2 (.bool (a && b)) := fun σ G H s Q q =>
  ha σ G H s _ fun v G1 H1 g1 s1 i1 => hb σ G1 H1 s1 _ fun w G2 H2 g2 s2 i2 => hr v w G2 H2 s2.gh (i1.mono g2.gg) i2 _ (End1.of s2 fun v' G3 H3 g3 s3 i3 => by
    cases i3
    refine ⟨a, rfl, ?_⟩
    cases a with
    | true =>
      show tc σ H3 _
      exact hc rfl σ G3 H3 s3 _ fun v4 G4 H4 g4 s4 i4 => hr' rfl w v4 G4 H4 s4.gh (i2.mono (g3.gg.trans g4.gg)) i4 Q (End1.of s4 fun v5 G5 H5 g5 s5 i5 => q v5 G5 H5 ((((g1.trans g2).trans g3).trans g4).trans g5) s5 i5)
    | false =>
      show Q (.bl false) H3
      exact q _ G3 H3 ((g1.trans g2).trans g3) s3 (.bl false))
end
end Fb

/-! enumerate over a tuple, over a text. -/
namespace Fb
open PySem PySem.Spec PyProof.Rows L2

theorem meets_enum1 {v : Value} {o : Obj} {H : Heap → Prop} (B : Begins v o H) :
    Meets (Builtin.«enumerate.__new__» ⟨[.type "enumerate", v], []⟩) (fun _ R s => H s.heap ∧
      R (.ok (.ret (.ref (s.heap.push o).objs.size))) { s with heap := (s.heap.push o).push { cls := .type "enumerate", data := .fields #[.none, .bool false, .ref s.heap.objs.size, rawInt 0, .none, .none] } }) :=
  .of_wp fun prog w A R s h => by
    obtain ⟨hp, g, d, tk, os⟩ := s; obtain ⟨h1, h⟩ := h
    have hsub := sub_enumerate
    have q1 : ∀ {A' : Around} {E : Value → Shared → Prop} {Q : Value → Shared → Prop}, Q (.ref hp.objs.size) ⟨hp.push o, g, d, tk, os⟩ → wpAny (model prog w) A' (pyIter v) Q E ⟨hp, g, d, tk, os⟩ :=
      fun q => B.iter prog w _ _ ⟨hp, g, d, tk, os⟩ _ h1 q
    wp_walk using q1
    refine wpAny_stack_any fun st => wpAny_pure ?_
    split
    · rename_i c _ _ _ _ _
      cases (c == Value.type "enumerate")
      · wp_walk using q1
        exact ⟨_, rfl, h⟩
      · wp_walk using q1
        exact ⟨_, rfl, h⟩
    · wp_walk using q1
      exact ⟨_, rfl, h⟩
section
variable {prog : Program} {w : World} {A : Around} {E : Value → Shared → Prop} {s : Shared}
theorem enum1_begins {v : Value} {o : Obj} {H : Heap → Prop} {Q : Value → Shared → Prop} (B : Begins v o H) (h1 : H s.heap)
    (h : ∀ h', IsEnum h' (s.heap.objs.size + 1) s.heap.objs.size 0 .none → h'.get? s.heap.objs.size = some o → h'.objs.size = s.heap.objs.size + 2 →
      (∀ b o, s.heap.get? b = some o → h'.get? b = some o) → Q (.ref (s.heap.objs.size + 1)) { s with heap := h' }) :
    wpAny (model prog w) A (call (.type "enumerate") [v]) Q E s := by
  refine callType_new F.called_enumerate (by decide) (F.typeCall_enumerate_1 _) (F.newCall_enumerate_1 _) (fun obj => F.args_object_init_2 obj _) F.entry_enumerate_new
    (meets_enum1 B) ⟨h1, ?_⟩
  have hz : (s.heap.push o).objs.size = s.heap.objs.size + 1 := Heap.size_push ..
  show _ ∧ _
  rw [hz]
  have he : IsEnum ((s.heap.push o).push { cls := .type "enumerate", data := .fields #[.none, .bool false, .ref s.heap.objs.size, rawInt 0, .none, .none] }) (s.heap.objs.size + 1) s.heap.objs.size 0 .none := by
    have := Heap.get?_push_size (s.heap.push o) (o := { cls := .type "enumerate", data := .fields #[.none, .bool false, .ref s.heap.objs.size, rawInt 0, .none, .none] }) rfl
    rw [hz] at this; exact this
  refine ⟨⟨_, he, rfl⟩, h _ he (Heap.get?_push_of_some _ (Heap.get?_push_size _ B.free)) (by rw [Heap.size_push, hz]) fun b o x => Heap.get?_push_of_some _ (Heap.get?_push_of_some _ x)⟩
end

/-- the tuple at a, each item in a new pair -/
def IteT (K : PySem.W.Frag) (a : Addr) : It :=
  ⟨fun i H => ∃ (xs : List V) (x : V), H a = some (.tup xs) ∧ xs[i]? = some x, fun i H v H' => ∃ T x, v = .ref T ∧ H T = none ∧ H' = upd H T (.tup [.int (i : Nat), x]) ∧ ∀ xs, H a = some (.tup xs) → xs[i]? = some x, fun i H => ∃ xs : List V, H a = some (.tup xs) ∧ i = xs.length⟩
theorem turn_enumT {P : Program} {w : World} {K : PySem.W.Frag} {elts : List Expr} {kk : Nat} {tpos : Pos} (a e it : Addr) :
    Turn P w K (.Tuple elts kk tpos) (IteT K a) [e, it] e (fun i h => (∃ old, IsEnum h e it ((i : Nat) : Int) old) ∧ h.IsTupleIter it a i ∧ e ≠ it) where
  mem := by simp
  obj := fun i h st b hb => by
    obtain ⟨⟨old, he⟩, ⟨o, ho, hc, hd⟩, _⟩ := st
    have e' : b = e ∨ b = it := by simpa using hb
    rcases e' with z | z
    · rw [z]; exact ⟨_, he, fun v q => nomatch q⟩
    · rw [z]; exact ⟨o, ho, fun v q => by rw [hd] at q; cases q⟩
  keep := fun i h h' st k => let ⟨⟨old, he⟩, hi, hne⟩ := st; ⟨⟨old, k e (by simp) _ he⟩, hi.at fun o q => k it (by simp) o q, hne⟩
  item := by
    intro X hP hw hK hc i pins s σ H E I hf st hg
    subst hP hw hK
    obtain ⟨⟨old, he⟩, hit, hne⟩ := st
    obtain ⟨xs, x, hq, hx⟩ := hg
    obtain ⟨its, rv, p, hz⟩ := I.tuple (xs := xs) (.of hq)
    have hil : i < its.toArray.size := by
      have := (List.getElem?_eq_some_iff.mp hx).1
      rw [List.size_toArray, ← rv.length]; exact this
    have hai : a ≠ it := ne_of_none hq (hf it (by simp)).1
    have hea : e ∉ [it, a] := by
      intro z
      rcases List.mem_cons.mp z with z | z
      · exact hne z
      · have z' : e = a := by simpa using z
        exact ne_of_none hq (hf e (by simp)).1 z'.symm
    have hel : e < s.heap.objs.size := Heap.lt_size he
    have hitl : it < s.heap.objs.size := by obtain ⟨_, q, _⟩ := hit; exact Heap.lt_size q
    have DD := Draws.tuple (prog := X.prog) (w := X.w) (A := X.A.in1) (I.ok.hd hc) it a hai its.toArray
    refine wpAny_pyNext_enum_itemC DD he ⟨hit, p⟩ hil hne hea fun u h' tk hu ho hst hT hsz hk => ?_
    obtain ⟨u', hu', ru⟩ := rv.get hx
    have e2 : u = u' := by
      have q : its.toArray[i]? = some u' := by simpa using hu'
      exact Option.some.inj (hu.symm.trans q)
    subst e2
    refine ⟨_, rfl, wpAny_letOwnedTupleGo_enum (s := { s with heap := h', toks := tk + 1 }) ho fun h'' he' sb => ?_⟩
    have hT2 : h''.get? s.heap.objs.size = some { cls := .type "tuple", data := .seq #[.int i tk, u] } := (sb.2 _ (Nat.ne_of_gt hel)).trans hT
    have new : ObjOk X.prog X.w (upd H s.heap.objs.size (.tup [.int (i : Nat), x])) h'' s.heap.objs.size (.tup [.int (i : Nat), x]) :=
      ⟨by show 2 ≤ sizeLine; decide, [.int i tk, u], .cons ⟨_, rfl⟩ (.cons ru .nil), ⟨_, hT2, rfl, _, rfl⟩⟩
    have I1 : Inv X pins σ (upd H s.heap.objs.size (.tup [.int (i : Nat), x])) { s with heap := h'', toks := tk + 1 } :=
      I.turnedNew (ch := [e, it]) (fun b ob hb q => (sb.2 b (fun z => hb (by simp [z]))).trans (hk b ob (fun z => hb (by simp [z])) (fun z => hb (by simp [z])) q)) hf (Nat.le_refl _) new
    refine ⟨.ref s.heap.objs.size, _, I1, rfl, ⟨_, x, rfl, I.hok.fresh (Nat.le_refl _), rfl, fun ys hy => by rw [hq] at hy; cases hy; exact hx⟩, ⟨⟨u, ?_⟩, hst.1.at fun o q => (sb.2 it (Ne.symm hne)).trans q, hne⟩, fun b hb => ?_⟩
    · have e1 : ((i + 1 : Nat) : Int) = (i : Int) + 1 := by omega
      rw [e1]; exact he'
    · have hb' : b < s.heap.objs.size := by
        have e' : b = e ∨ b = it := by simpa using hb
        rcases e' with z | z
        · rw [z]; exact hel
        · rw [z]; exact hitl
      rw [upd_ne (Nat.ne_of_lt hb')]
      exact (hf b hb).1
  done := by
    intro X hP hw hK hc i pins s σ H E I hf st hg
    subst hP hw hK
    obtain ⟨⟨old, he⟩, hit, hne⟩ := st
    obtain ⟨xs, hq, hx⟩ := hg
    obtain ⟨its, rv, p, hz⟩ := I.tuple (xs := xs) (.of hq)
    obtain ⟨f0, f1, f2, f3, f4, f5⟩ := hf it (by simp)
    have hai : a ≠ it := ne_of_none hq (hf it (by simp)).1
    have hl : i = its.toArray.size := by rw [hx, rv.length]; simp
    have DD := Draws.tuple (prog := X.prog) (w := X.w) (A := X.A.in1) (I.ok.hd hc) it a hai its.toArray
    rw [hl] at hit
    exact wpAny_pyNext_enum_endD DD he ⟨hit, p⟩ fun h' eb => ⟨rfl, I.turned (t' := s.toks) (fun b o hb q => eb b o hb q) f0 f1 f3 f4 f5⟩
  self := fun A i s Q E st h => let ⟨⟨_, he⟩, _⟩ := st; wpAny_pyIter_enum he h
def iEnumT (K : PySem.W.Frag) (ta : TA) : TI := fun σ H R => ta σ H fun vs H1 => ∃ a xs, vs = [.ref a] ∧ H1 a = some (.tup xs) ∧ R (IteT K a) H1
theorem pi_enumT {X : Cx} {e : Expr} {ta : TA} {p pos tpos : Pos} {elts : List Expr} {kk : Nat} (hg : Gl X "enumerate") (hm : X.mg "enumerate" = none) (ha : PA X [e] ta) (hs : starEach [e] X.env = [(false, eval e X.env)] := by rfl) :
    PI X (.Tuple elts kk tpos) (.Call (.Name "enumerate" p) [e] [] pos) (iEnumT X.K ta) := by
  refine ⟨fun pins s σ H R I h => ?_⟩
  refine Call_ (ld_blt I hg hm boot_enumerate (PyProof.Rows.callWith_type1 (thn (ha.run pos pins s σ H _ I h) fun us s1 ⟨vs, H1, I1, r1, q1⟩ => ?_) hs rfl))
  obtain ⟨a, xs, ex, hq, q⟩ := q1
  subst ex
  cases r1 with
  | cons r rr =>
    cases rr
    cases r
    obtain ⟨its, rv, p', hz⟩ := I1.tuple (xs := xs) (.of hq)
    refine enum1_begins (begins_tuple a its.toArray) p' fun h' he hit hsz hk => wpAny_pyIter_enum he ?_
    have I2 : Inv X pins σ H1 { s1 with heap := h' } := I1.kept (t' := s1.toks) hk
    refine ⟨s1.heap.objs.size + 1, [s1.heap.objs.size + 1, s1.heap.objs.size], _, _, H1, rfl, I2, turn_enumT a (s1.heap.objs.size + 1) s1.heap.objs.size, ⟨⟨.none, he⟩, ⟨_, hit, rfl, rfl⟩, Nat.succ_ne_self _⟩, fun b hb => ?_, q⟩
    have e' : b = s1.heap.objs.size + 1 ∨ b = s1.heap.objs.size := by simpa using hb
    have hle : s1.heap.objs.size ≤ b := by
      rcases e' with z | z
      · rw [z]; exact Nat.le_add_right _ _
      · rw [z]; exact Nat.le_refl _
    exact I1.fpOk hle (I1.hok.fresh hle)

/-- the text x, each sign in a new pair -/
def IteS (x : Str) : It :=
  ⟨fun i H => i < x.cps.size, fun i H v H' => ∃ T c, v = .ref T ∧ H T = none ∧ H' = upd H T (.tup [.int (i : Nat), .str ⟨#[c]⟩]) ∧ x.cps[i]? = some c, fun i H => i = x.cps.size⟩
theorem turn_enumS {P : Program} {w : World} {K : PySem.W.Frag} {elts : List Expr} {kk : Nat} {tpos : Pos} (x : Str) (t : Tok) (e it : Addr) :
    Turn P w K (.Tuple elts kk tpos) (IteS x) [e, it] e (fun i h => (∃ old, IsEnum h e it ((i : Nat) : Int) old) ∧ h.IsStrIter it (strIterType x) x t i ∧ e ≠ it) where
  mem := by simp
  obj := fun i h st b hb => by
    obtain ⟨⟨old, he⟩, ⟨o, ho, hc, hd⟩, _⟩ := st
    have e' : b = e ∨ b = it := by simpa using hb
    rcases e' with z | z
    · rw [z]; exact ⟨_, he, fun v q => nomatch q⟩
    · rw [z]; exact ⟨o, ho, fun v q => by rw [hd] at q; cases q⟩
  keep := fun i h h' st k => by
    obtain ⟨⟨old, he⟩, ⟨o, ho, r⟩, hne⟩ := st
    exact ⟨⟨old, k e (by simp) _ he⟩, ⟨o, k it (by simp) o ho, r⟩, hne⟩
  item := by
    intro X hP hw hK hc i pins s σ H E I hf st hg
    subst hP hw hK
    obtain ⟨⟨old, he⟩, hit, hne⟩ := st
    have hel : e < s.heap.objs.size := Heap.lt_size he
    have hitl : it < s.heap.objs.size := by obtain ⟨_, q, _⟩ := hit; exact Heap.lt_size q
    have DD := Draws.text (prog := X.prog) (w := X.w) (A := X.A.in1) (I.ok.hd hc) it x t
    refine wpAny_pyNext_enum_itemC DD he hit hg hne (by simpa using hne) fun u h' tk hu ho hst hT hsz hk => ?_
    obtain ⟨c, tu, hcx, rfl⟩ := hu
    refine ⟨_, rfl, wpAny_letOwnedTupleGo_enum (s := { s with heap := h', toks := tk + 1 }) ho fun h'' he' sb => ?_⟩
    have hT2 : h''.get? s.heap.objs.size = some { cls := .type "tuple", data := .seq #[.int i tk, .str ⟨#[c]⟩ tu] } := (sb.2 _ (Nat.ne_of_gt hel)).trans hT
    have new : ObjOk X.prog X.w (upd H s.heap.objs.size (.tup [.int (i : Nat), .str ⟨#[c]⟩])) h'' s.heap.objs.size (.tup [.int (i : Nat), .str ⟨#[c]⟩]) :=
      ⟨by show 2 ≤ sizeLine; decide, [.int i tk, .str ⟨#[c]⟩ tu], .cons ⟨_, rfl⟩ (.cons ⟨_, rfl⟩ .nil), ⟨_, hT2, rfl, _, rfl⟩⟩
    have I1 : Inv X pins σ (upd H s.heap.objs.size (.tup [.int (i : Nat), .str ⟨#[c]⟩])) { s with heap := h'', toks := tk + 1 } :=
      I.turnedNew (ch := [e, it]) (fun b ob hb q => (sb.2 b (fun z => hb (by simp [z]))).trans (hk b ob (fun z => hb (by simp [z])) (fun z => hb (by simp [z])) q)) hf (Nat.le_refl _) new
    refine ⟨.ref s.heap.objs.size, _, I1, rfl, ⟨_, c, rfl, I.hok.fresh (Nat.le_refl _), rfl, hcx⟩, ⟨⟨.str ⟨#[c]⟩ tu, ?_⟩, ?_, hne⟩, fun b hb => ?_⟩
    · have e1 : ((i + 1 : Nat) : Int) = (i : Int) + 1 := by omega
      rw [e1]; exact he'
    · obtain ⟨o, ho', r⟩ := hst
      exact ⟨o, (sb.2 it (Ne.symm hne)).trans ho', r⟩
    · have hb' : b < s.heap.objs.size := by
        have e' : b = e ∨ b = it := by simpa using hb
        rcases e' with z | z
        · rw [z]; exact hel
        · rw [z]; exact hitl
      rw [upd_ne (Nat.ne_of_lt hb')]
      exact (hf b hb).1
  done := by
    intro X hP hw hK hc i pins s σ H E I hf st hg
    subst hP hw hK
    obtain ⟨⟨old, he⟩, hit, hne⟩ := st
    obtain ⟨f0, f1, f2, f3, f4, f5⟩ := hf it (by simp)
    have DD := Draws.text (prog := X.prog) (w := X.w) (A := X.A.in1) (I.ok.hd hc) it x t
    have hg' : i = x.cps.size := hg
    rw [hg'] at hit
    exact wpAny_pyNext_enum_endD DD he hit fun h' eb => ⟨rfl, I.turned (t' := s.toks) (fun b o hb q => eb b o hb q) f0 f1 f3 f4 f5⟩
  self := fun A i s Q E st h => let ⟨⟨_, he⟩, _⟩ := st; wpAny_pyIter_enum he h
def iEnumS (ta : TA) : TI := fun σ H R => ta σ H fun vs H1 => ∃ x, vs = [.str x] ∧ R (IteS x) H1
theorem pi_enumS {X : Cx} {e : Expr} {ta : TA} {p pos tpos : Pos} {elts : List Expr} {kk : Nat} (hg : Gl X "enumerate") (hm : X.mg "enumerate" = none) (ha : PA X [e] ta) (hs : starEach [e] X.env = [(false, eval e X.env)] := by rfl) :
    PI X (.Tuple elts kk tpos) (.Call (.Name "enumerate" p) [e] [] pos) (iEnumS ta) := by
  refine ⟨fun pins s σ H R I h => ?_⟩
  refine Call_ (ld_blt I hg hm boot_enumerate (PyProof.Rows.callWith_type1 (thn (ha.run pos pins s σ H _ I h) fun us s1 ⟨vs, H1, I1, r1, q1⟩ => ?_) hs rfl))
  obtain ⟨x, ex, q⟩ := q1
  subst ex
  cases r1 with
  | cons r rr =>
    cases rr
    obtain ⟨t, rfl⟩ := r
    refine enum1_begins (begins_text x t) trivial fun h' he hit hsz hk => wpAny_pyIter_enum he ?_
    have I2 : Inv X pins σ H1 { s1 with heap := h' } := I1.kept (t' := s1.toks) hk
    refine ⟨s1.heap.objs.size + 1, [s1.heap.objs.size + 1, s1.heap.objs.size], _, _, H1, rfl, I2, turn_enumS x t (s1.heap.objs.size + 1) s1.heap.objs.size, ⟨⟨.none, he⟩, ⟨_, hit, rfl, rfl⟩, Nat.succ_ne_self _⟩, fun b hb => ?_, q⟩
    have e' : b = s1.heap.objs.size + 1 ∨ b = s1.heap.objs.size := by simpa using hb
    have hle : s1.heap.objs.size ≤ b := by
      rcases e' with z | z
      · rw [z]; exact Nat.le_add_right _ _
      · rw [z]; exact Nat.le_refl _
    exact I1.fpOk hle (I1.hok.fresh hle)
end Fb

/-! The data layer 2: what is walked, comprehensions, targets, statements, defs. -/
namespace Fb
open PySem L2

/-! ### what is walked -/
/-- J yields the items, wherever G is known -/
structure Walked (J : It) (items : List D) (G : Hp) : Prop where
  go : ∀ (G1 H1 : Hp) (i : Nat), Ex G G1 → Ex G1 H1 → i < items.length → J.go i H1
  yld : ∀ (G1 H1 : Hp) (i : Nat) (x : V) (H2 : Hp), Ex G G1 → Ex G1 H1 → i < items.length → J.yld i H1 x H2 → ∃ d, items[i]? = some d ∧ ∃ G2, Pl G1 H1 G2 H2 ∧ Ex G2 H2 ∧ Is G2 x d
  stop : ∀ (G1 H1 : Hp), Ex G G1 → Ex G1 H1 → J.stop items.length H1
def EvI (c : Cfg) (wi : TI) (ρ ρ' : Env) (items : List D) : Prop := ∀ σ G H, Sit c.T ρ σ G H → ∀ R : It → Hp → Prop, (∀ J G' H', Grow c.B G H G' H' → Sit c.T ρ' σ G' H' → Walked J items G' → R J H') → wi σ H R
theorem walked_lst {K : PySem.W.Frag} {G : Hp} {a : Addr} {xs : List V} {ds : List D} (h : G a = some (.lst xs)) (is : IsAll G xs ds) : Walked (Itl K a) ds G where
  go := fun G1 H1 i e1 e2 hi => by
    have hl : i < xs.length := by rw [is.length]; exact hi
    exact ⟨xs, xs[i], .of (e2 _ _ (e1 _ _ h)), by simp [hl]⟩
  yld := fun G1 H1 j x H2 e1 e2 hi hy => by
    obtain ⟨rfl, hy⟩ := hy
    obtain ⟨d, hd, q⟩ := is.get (hy xs (.of (e2 _ _ (e1 _ _ h))))
    exact ⟨d, hd, G1, .refl _ _, e2, q.mono e1⟩
  stop := fun G1 H1 e1 e2 => ⟨xs, .of (e2 _ _ (e1 _ _ h)), by rw [is.length]; exact Nat.le_refl _⟩
theorem walked_tup {K : PySem.W.Frag} {G : Hp} {a : Addr} {xs : List V} {ds : List D} (h : G a = some (.tup xs)) (is : IsAll G xs ds) : Walked (Itt K a) ds G where
  go := fun G1 H1 i e1 e2 hi => by
    have hl : i < xs.length := by rw [is.length]; exact hi
    exact ⟨xs, xs[i], .of (e2 _ _ (e1 _ _ h)), by simp [hl]⟩
  yld := fun G1 H1 j x H2 e1 e2 hi hy => by
    obtain ⟨rfl, hy⟩ := hy
    obtain ⟨d, hd, q⟩ := is.get (hy xs (.of (e2 _ _ (e1 _ _ h))))
    exact ⟨d, hd, G1, .refl _ _, e2, q.mono e1⟩
  stop := fun G1 H1 e1 e2 => ⟨xs, .of (e2 _ _ (e1 _ _ h)), by rw [is.length]; exact Nat.le_refl _⟩
/-- lo, lo + 1, .. -/
def rng (lo : Int) (n : Nat) : List D := (List.range n).map fun i => .int (lo + (i : Nat))
theorem rng_len (lo : Int) (n : Nat) : (rng lo n).length = n := by simp [rng]
theorem rng_get {lo : Int} {n i : Nat} (h : i < n) : (rng lo n)[i]? = some (.int (lo + (i : Nat))) := by simp [rng, h]
theorem walked_rng {lo : Int} {n : Nat} {G : Hp} : Walked (Itr lo n) (rng lo n) G where
  go := fun _ _ i _ _ hi => by rw [rng_len] at hi; exact hi
  yld := fun G1 H1 i x H2 e1 e2 hi hy => by
    obtain ⟨rfl, rfl⟩ := hy
    rw [rng_len] at hi
    exact ⟨_, rng_get hi, G1, .refl _ _, e2, .int _⟩
  stop := fun _ _ _ _ => by rw [rng_len]; exact Nat.le_refl _
/-- the signs of a text -/
def signs (x : Str) : List D := x.cps.toList.map fun k => .str ⟨#[k]⟩
theorem walked_str {x : Str} {G : Hp} : Walked (Its x) (signs x) G where
  go := fun _ _ i _ _ hi => by
    have : i < x.cps.size := by simpa [signs] using hi
    exact this
  yld := fun G1 H1 i y H2 e1 e2 hi hy => by
    obtain ⟨rfl, k, hk, rfl⟩ := hy
    exact ⟨.str ⟨#[k]⟩, by simp [signs, hk], G1, .refl _ _, e2, .str _⟩
  stop := fun _ _ _ _ => by simp [signs, Its]
/-- (0, a), (1, b), .. -/
def enum (ds : List D) : List D := ds.mapIdx fun i d => .tuple [.int (i : Nat), d]
theorem enum_len (ds : List D) : (enum ds).length = ds.length := by simp [enum]
theorem enum_get {ds : List D} {i : Nat} {d : D} (h : ds[i]? = some d) : (enum ds)[i]? = some (.tuple [.int (i : Nat), d]) := by simp [enum, h]
theorem pair_new {G1 H1 : Hp} {T : Addr} {i : Int} {x : V} {d : D} (e2 : Ex G1 H1) (hT : H1 T = none) (h : Is G1 x d) : ∃ G2, Pl G1 H1 G2 (upd H1 T (.tup [.int i, x])) ∧ Ex G2 (upd H1 T (.tup [.int i, x])) ∧ Is G2 (.ref T) (.tuple [.int i, d]) :=
  ⟨upd G1 T (.tup [.int i, x]), .new e2 hT, e2.upd2, .tup upd_same (.cons (.int i) (.cons (h.mono (Ex.new (e2.free hT))) .nil))⟩
theorem walked_enumT {K : PySem.W.Frag} {G : Hp} {a : Addr} {xs : List V} {ds : List D} (h : G a = some (.tup xs)) (is : IsAll G xs ds) : Walked (IteT K a) (enum ds) G where
  go := fun G1 H1 i e1 e2 hi => by
    have hl : i < xs.length := by rw [is.length, ← enum_len]; exact hi
    exact ⟨xs, xs[i], e2 _ _ (e1 _ _ h), by simp [hl]⟩
  yld := fun G1 H1 i y H2 e1 e2 hi hy => by
    obtain ⟨T, x, rfl, hT, rfl, hx⟩ := hy
    obtain ⟨d, hd, q⟩ := is.get (hx xs (e2 _ _ (e1 _ _ h)))
    exact ⟨_, enum_get hd, pair_new e2 hT (q.mono e1)⟩
  stop := fun G1 H1 e1 e2 => ⟨xs, e2 _ _ (e1 _ _ h), by rw [enum_len, is.length]⟩
theorem walked_enumL {K : PySem.W.Frag} {G : Hp} {a : Addr} {xs : List V} {ds : List D} (h : G a = some (.lst xs)) (is : IsAll G xs ds) : Walked (Ite K a) (enum ds) G where
  go := fun G1 H1 i e1 e2 hi => by
    have hl : i < xs.length := by rw [is.length, ← enum_len]; exact hi
    exact ⟨xs, xs[i], .of (e2 _ _ (e1 _ _ h)), by simp [hl]⟩
  yld := fun G1 H1 i y H2 e1 e2 hi hy => by
    obtain ⟨T, x, rfl, hT, rfl, hx⟩ := hy
    obtain ⟨d, hd, q⟩ := is.get (hx xs (.of (e2 _ _ (e1 _ _ h))))
    exact ⟨_, enum_get hd, pair_new e2 hT (q.mono e1)⟩
  stop := fun G1 H1 e1 e2 => ⟨xs, .of (e2 _ _ (e1 _ _ h)), by rw [enum_len, is.length]; exact Nat.le_refl _⟩
theorem walked_enumS {x : Str} {G : Hp} : Walked (IteS x) (enum (signs x)) G where
  go := fun G1 H1 i e1 e2 hi => by
    have : i < x.cps.size := by simpa [enum_len, signs] using hi
    exact this
  yld := fun G1 H1 i y H2 e1 e2 hi hy => by
    obtain ⟨T, k, rfl, hT, rfl, hx⟩ := hy
    exact ⟨_, enum_get (d := .str ⟨#[k]⟩) (by simp [signs, hx]), pair_new e2 hT (.str _)⟩
  stop := fun G1 H1 e1 e2 => by
    show (enum (signs x)).length = x.cps.size
    simp [enum_len, signs]
section
variable {c : Cfg} {ρ ρ' ρ1 ρ2 ρ3 : Env} {ta tb tc te tl : TE} {tr : TA} {t u : TT} {x y z d : D} {r : R2}
theorem ei_list {ds : List D} (h : EvX c te ρ ρ1 (.list ds)) : EvI c (iList c.K te) ρ ρ1 ds := fun σ G H s R q => h σ G H s _ fun v G1 H1 g1 s1 i1 => by
  cases i1 with
  | lst e is => exact ⟨_, rfl, ⟨_, .of (s1.gh _ _ e)⟩, q _ G1 H1 g1 s1 (walked_lst e is)⟩
theorem ei_tup {ds : List D} (h : EvX c te ρ ρ1 (.tuple ds)) : EvI c (iTup c.K te) ρ ρ1 ds := fun σ G H s R q => h σ G H s _ fun v G1 H1 g1 s1 i1 => by
  cases i1 with
  | tup e is => exact ⟨_, rfl, ⟨_, .of (s1.gh _ _ e)⟩, q _ G1 H1 g1 s1 (walked_tup e is)⟩
theorem ei_str {x : Str} (h : EvX c te ρ ρ1 (.str x)) : EvI c (iStr te) ρ ρ1 (signs x) := fun σ G H s R q => h σ G H s _ fun v G1 H1 g1 s1 i1 => by
  cases i1
  exact ⟨_, rfl, q _ G1 H1 g1 s1 walked_str⟩
theorem ei_rng1 {n : Int} (h : EvA c tr ρ ρ1 [.int n]) (h1 : -1000000 ≤ n) (h2 : n ≤ 1000000) : EvI c (iRng1 tr) ρ ρ1 (rng 0 n.toNat) := fun σ G H s R q => h σ G H s _ fun v G1 H1 g1 s1 i1 => by
  cases i1 with
  | cons a t =>
    cases t
    cases a
    exact ⟨n, rfl, by omega, by omega, q _ G1 H1 g1 s1 walked_rng⟩
theorem ei_rng2 {m n : Int} (h : EvA c tr ρ ρ1 [.int m, .int n]) (h1 : -1000000 ≤ m ∧ m ≤ 1000000) (h2 : -1000000 ≤ n ∧ n ≤ 1000000) : EvI c (iRng2 tr) ρ ρ1 (rng m (n - m).toNat) := fun σ G H s R q => h σ G H s _ fun v G1 H1 g1 s1 i1 => by
  cases i1 with
  | cons a t =>
    cases t with
    | cons b t =>
      cases t
      cases a
      cases b
      exact ⟨m, n, rfl, ⟨by omega, by omega, by omega, by omega⟩, q _ G1 H1 g1 s1 walked_rng⟩
theorem ei_enumT {ds : List D} (h : EvA c tr ρ ρ1 [.tuple ds]) : EvI c (iEnumT c.K tr) ρ ρ1 (enum ds) := fun σ G H s R q => h σ G H s _ fun v G1 H1 g1 s1 i1 => by
  cases i1 with
  | cons a t =>
    cases t
    cases a with
    | tup e is => exact ⟨_, _, rfl, s1.gh _ _ e, q _ G1 H1 g1 s1 (walked_enumT e is)⟩
theorem ei_enumL {ds : List D} (h : EvA c tr ρ ρ1 [.list ds]) : EvI c (iEnum c.K tr) ρ ρ1 (enum ds) := fun σ G H s R q => h σ G H s _ fun v G1 H1 g1 s1 i1 => by
  cases i1 with
  | cons a t =>
    cases t
    cases a with
    | lst e is => exact ⟨_, _, rfl, .of (s1.gh _ _ e), q _ G1 H1 g1 s1 (walked_enumL e is)⟩
theorem ei_enumS {x : Str} (h : EvA c tr ρ ρ1 [.str x]) : EvI c (iEnumS tr) ρ ρ1 (enum (signs x)) := fun σ G H s R q => h σ G H s _ fun v G1 H1 g1 s1 i1 => by
  cases i1 with
  | cons a t =>
    cases t
    cases a
    exact ⟨_, rfl, q _ G1 H1 g1 s1 walked_enumS⟩
end

/-! ### targets -/
/-- what the target makes of an item: f of the environment; js: the slots it stores -/
def TgX (g : TG) (d : D) (f : Env → Env) (js : List Nat) : Prop := ∀ (σ : L2.St) (G H : Hp) (v : V), Is G v d → Ex G H → ∃ h : L2.St → L2.St, (∀ vs : List Nat, (∀ j ∈ js, j ∈ vs) → ∀ σ, wipe (h σ) vs = wipe σ vs) ∧
  (∀ T ρ σ, Sit T ρ σ G H → Sit T (f ρ) (h σ) G H) ∧ (∀ Q : L2.St → Hp → Prop, Q (h σ) H → g v σ H Q)
theorem wipe_get {σ : L2.St} {vs : List Nat} {i : Nat} : (wipe σ vs)[i]? = if i ∈ vs then (σ[i]?).map (fun _ => none) else σ[i]? := by
  induction vs with
  | nil => simp [wipe]
  | cons v vs ih =>
    show ((wipe σ vs).set v none)[i]? = _
    by_cases e : v = i
    · subst e
      rw [if_pos List.mem_cons_self]
      by_cases hl : v < σ.length
      · rw [List.getElem?_set_self (by rw [wipe_length]; exact hl)]
        simp [hl]
      · rw [List.getElem?_eq_none (by rw [List.length_set, wipe_length]; omega), List.getElem?_eq_none (by omega)]
        rfl
    · rw [List.getElem?_set_ne e, ih]
      by_cases hi : i ∈ vs
      · rw [if_pos hi, if_pos (List.mem_cons_of_mem _ hi)]
      · rw [if_neg hi, if_neg (by simp only [List.mem_cons, not_or]; exact ⟨fun z => e z.symm, hi⟩)]
theorem wipe_set {σ : L2.St} {vs : List Nat} {j : Nat} {x : Option V} (h : j ∈ vs) : wipe (σ.set j x) vs = wipe σ vs := by
  apply List.ext_getElem?
  intro i
  rw [wipe_get, wipe_get]
  by_cases hi : i ∈ vs
  · rw [if_pos hi, if_pos hi]
    by_cases e : j = i
    · subst e
      by_cases hl : j < σ.length
      · rw [List.getElem?_set_self hl]
        simp [hl]
      · rw [List.getElem?_eq_none (by rw [List.length_set]; omega), List.getElem?_eq_none (by omega)]
    · rw [List.getElem?_set_ne e]
  · rw [if_neg hi, if_neg hi, List.getElem?_set_ne (fun e => hi (by rw [← e]; exact h))]
theorem wipe_wipe {σ : L2.St} {vs : List Nat} : wipe (wipe σ vs) vs = wipe σ vs := by
  apply List.ext_getElem?
  intro i
  rw [wipe_get, wipe_get]
  by_cases hi : i ∈ vs
  · rw [if_pos hi, if_pos hi]
    cases σ[i]? <;> rfl
  · rw [if_neg hi]
theorem tg_name {i : Nat} {d : D} : TgX (gName i) d (fun ρ => ρ.set i (.dat d)) [i] := fun σ G H v hv gh =>
  ⟨fun σ => σ.set i (some v), fun vs h σ => wipe_set (h i (by simp)), fun c ρ σ s => s.setDat hv, fun Q q => q⟩
theorem tg_pair {K : PySem.W.Frag} {i j : Nat} {d e : D} : TgX (gTup K 2 (gCons (gName i) (gCons (gName j) gNil))) (.tuple [d, e]) (fun ρ => (ρ.set i (.dat d)).set j (.dat e)) [i, j] := fun σ G H v hv gh => by
  cases hv with
  | tup ea is =>
    cases is with
    | cons h1 t =>
      cases t with
      | cons h2 t =>
        cases t
        rename_i a v1 v2
        exact ⟨fun σ => (σ.set i (some v1)).set j (some v2), fun vs h σ => by rw [wipe_set (h j (by simp)), wipe_set (h i (by simp))], fun c ρ σ s => (s.setDat h1).setDat h2,
          fun Q q => ⟨a, [v1, v2], rfl, .of (gh _ _ ea), rfl, v1, [v2], rfl, v2, [], rfl, rfl, q⟩⟩

/-! ### comprehensions -/
def wipeE (ρ : Env) : List Nat → Env
  | [] => ρ
  | v :: vs => (wipeE ρ vs).set v .un
theorem wipeE_len (ρ : Env) : ∀ vs : List Nat, (wipeE ρ vs).length = ρ.length
  | [] => rfl
  | v :: vs => by unfold wipeE; rw [List.length_set, wipeE_len ρ vs]
theorem wipeE_get {ρ : Env} {e : Ent} {i : Nat} : ∀ {vs : List Nat}, (wipeE ρ vs)[i]? = some e → e = .un ∨ (ρ[i]? = some e ∧ i ∉ vs)
  | [], h => .inr ⟨h, by simp⟩
  | v :: vs, h => by
    rcases getset h with ⟨_, rfl, _⟩ | ⟨hne, h⟩
    · exact .inl rfl
    · rcases wipeE_get h with h | ⟨h, hn⟩
      · exact .inl h
      · exact .inr ⟨h, by simp only [List.mem_cons, not_or]; exact ⟨hne, hn⟩⟩
theorem Sit.wipe {T : List (Addr × Str)} {ρ : Env} {σ : L2.St} {G H : Hp} (s : Sit T ρ σ G H) (vs : List Nat) : Sit T (wipeE ρ vs) (wipe σ vs) G H := by
  refine ⟨s.gh, by rw [wipe_length, wipeE_len, s.len], fun i e h => ?_, fun i j p e e' h1 h2 a1 a2 => ?_, s.tabs, s.gtab⟩
  · rcases wipeE_get h with rfl | ⟨h, hn⟩
    · trivial
    · rw [wipe_get, if_neg hn]
      exact s.ent i e h
  · rcases wipeE_get h1 with rfl | ⟨h1, _⟩
    · cases a1
    · rcases wipeE_get h2 with rfl | ⟨h2, _⟩
      · cases a2
      · exact s.uq i j p e e' h1 h2 a1 a2
/-- what the turns give: item k gives (keep it?, its element) -/
def picked : List (Bool × D) → List D
  | [] => []
  | (true, d) :: r => d :: picked r
  | (false, _) :: r => picked r
theorem picked_append (a b : List (Bool × D)) : picked (a ++ b) = picked a ++ picked b := by
  induction a with
  | nil => rfl
  | cons x a ih =>
    obtain ⟨k, d⟩ := x
    cases k
    · exact ih
    · show d :: picked (a ++ b) = d :: picked a ++ picked b
      rw [ih]; rfl
theorem picked_len (a : List (Bool × D)) : (picked a).length ≤ a.length := by
  induction a with
  | nil => exact Nat.le_refl _
  | cons x a ih =>
    obtain ⟨k, d⟩ := x
    cases k
    · exact Nat.le_succ_of_le ih
    · exact Nat.succ_le_succ ih
theorem picked_all {α : Type} (l : List α) (f : α → D) : picked (l.map fun a => (true, f a)) = l.map f := by
  induction l with
  | nil => rfl
  | cons a l ih => simp [picked, ih]
theorem picked_filter {α : Type} (l : List α) (p : α → Bool) (f : α → D) : picked (l.map fun a => (p a, f a)) = (l.filter p).map f := by
  induction l with
  | nil => rfl
  | cons a l ih =>
    rw [List.map_cons, List.filter_cons]
    cases h : p a <;> simp [picked, ih]
theorem Grow.updNew {B : List Addr} {G H G' H' : Hp} (g : Grow B G H G' H') {p : Addr} {xs : List V} {o' : HO} (h : H p = none) (hp : H' p = some (.lst xs)) : Grow B G H G' (upd H' p o') :=
  ⟨g.gg, fun a o h1 h2 h3 => by rw [upd_ne (ne_of_none h1 h)]; exact g.hh a o h1 h2 h3, fun T h1 => tabs_lst (g.tb T h1) hp (fun ps z => by cases z) (fun φ z => by cases z), g.fr, fun a h1 => by
    rw [upd_ne (fun z => h1 (by rw [z]; exact h))]
    exact g.st a h1⟩
theorem Sit.updNew {T : List (Addr × Str)} {ρ : Env} {σ : L2.St} {G H : Hp} (s : Sit T ρ σ G H) {p : Addr} {xs : List V} {o' : HO} (hg : G p = none) (hp : H p = some (.lst xs)) (n : ∀ (i : Nat) (e : Ent), ρ[i]? = some e → e.addr ≠ some p) : Sit T ρ σ G (upd H p o') :=
  ⟨fun a o h => by rw [upd_ne (ne_of_none h hg)]; exact s.gh a o h, s.len, fun i e h => by
    have q := s.ent i e h
    have np := n i e h
    cases e with
    | un => trivial
    | dat d => exact q
    | own a ds =>
      obtain ⟨q1, ⟨vs, q2, q3⟩, q4⟩ := q
      have na : a ≠ p := fun z => np (by rw [z]; rfl)
      exact ⟨q1, ⟨vs, by rw [upd_ne na]; exact q2, q3⟩, q4⟩
    | obj a o =>
      obtain ⟨q1, q2, q3, q4⟩ := q
      have na : a ≠ p := fun z => np (by rw [z]; rfl)
      exact ⟨q1, by rw [upd_ne na]; exact q2, q3, q4⟩
    | dic a ks =>
      obtain ⟨q1, ⟨vs, q2, qk, q3⟩, q4⟩ := q
      have na : a ≠ p := fun z => np (by rw [z]; rfl)
      exact ⟨q1, ⟨vs, by rw [upd_ne na]; exact q2, qk, q3⟩, q4⟩
    | raw v => exact q, s.uq, tabs_lst s.tabs hp (fun ps z => by cases z) (fun φ z => by cases z), s.gtab⟩
theorem Sit.addr_in {T : List (Addr × Str)} {ρ : Env} {σ : L2.St} {G H : Hp} (s : Sit T ρ σ G H) {i : Nat} {e : Ent} {p : Addr} (h : ρ[i]? = some e) (a : e.addr = some p) : H p ≠ none := by
  have q := s.ent i e h
  cases e with
  | un => cases a
  | dat d => cases a
  | raw v => cases a
  | dic b ks =>
    have e : b = p := Option.some.inj a
    subst e
    obtain ⟨_, ⟨vs, q2, _⟩, _⟩ := q
    rw [q2]
    exact fun z => by cases z
  | own b ds =>
    have e : b = p := Option.some.inj a
    subst e
    obtain ⟨_, ⟨vs, q2, _⟩, _⟩ := q
    exact ne_none_of q2
  | obj b o =>
    have e : b = p := Option.some.inj a
    subst e
    exact ne_none_of q.2.1
theorem Sit.tell {T : List (Addr × Str)} {ρ : Env} {σ : L2.St} {G H : Hp} (s : Sit T ρ σ G H) {p : Addr} {o : HO} (nt : ∀ ps, o ≠ .tbl ps) (hg : G p = none) (hp : H p = some o) (n : ∀ (i : Nat) (e : Ent), ρ[i]? = some e → e.addr ≠ some p) : Sit T ρ σ (upd G p o) H :=
  ⟨fun a u h => by
    by_cases e : a = p
    · rw [e, upd_same] at h
      rw [e, hp]; exact h
    · rw [upd_ne e] at h
      exact s.gh a u h, s.len, fun i e h => by
    have q := s.ent i e h
    have np := n i e h
    cases e with
    | un => trivial
    | dat d => obtain ⟨v, q1, q2⟩ := q; exact ⟨v, q1, q2.mono (Ex.new hg)⟩
    | own a ds =>
      obtain ⟨q1, ⟨vs, q2, q3⟩, q4⟩ := q
      have na : a ≠ p := fun z => np (by rw [z]; rfl)
      exact ⟨q1, ⟨vs, q2, q3.mono (Ex.new hg)⟩, by rw [upd_ne na]; exact q4⟩
    | obj a o =>
      obtain ⟨q1, q2, q3, q4⟩ := q
      have na : a ≠ p := fun z => np (by rw [z]; rfl)
      exact ⟨q1, q2, by rw [upd_ne na]; exact q3, q4⟩
    | dic a ks =>
      obtain ⟨q1, ⟨vs, q2, qk, q3⟩, q4⟩ := q
      have na : a ≠ p := fun z => np (by rw [z]; rfl)
      exact ⟨q1, ⟨vs, q2, qk, q3.mono (Ex.new hg)⟩, by rw [upd_ne na]; exact q4⟩
    | raw v => exact q, s.uq, s.tabs, fun q hq => by
    obtain ⟨ps, h1, _⟩ := s.tabs.2 q hq
    rw [upd_ne (fun z => nt ps (Option.some.inj (hp.symm.trans (by rw [← z]; exact h1))))]
    exact s.gtab q hq⟩
theorem Grow.tell {B : List Addr} {G H G' H' : Hp} (g : Grow B G H G' H') {p : Addr} {o : HO} (h : H p = none) (hg : G' p = none) : Grow B G H (upd G' p o) H' :=
  ⟨g.gg.trans (Ex.new hg), g.hh, g.tb, fun a ha => by
    rw [upd_ne (fun z => ha (by rw [z]; exact h))]
    exact g.fr a ha, g.st⟩
/-- THE COMPREHENSION: R i the environment at turn i -/
theorem lc_gen {c : Cfg} {ρ : Env} {wi : TI} {g : TG} {tt : TT} {te : TE} {vs : List Nat} {items : List D} (R : Nat → Env) (out : Nat → Bool × D) (hi : EvI c wi ρ (R 0) items) (hn : items.length ≤ 100000)
    (hR : ∀ (i : Nat) (k : Nat) (e : Ent) (p : Addr), (R i)[k]? = some e → e.addr = some p → ∃ e', (R 0)[k]? = some e' ∧ e'.addr = some p)
    (step : ∀ (i : Nat) (d : D) (σ : L2.St) (G H : Hp) (x : V) (Qn : Hp → Prop) (Qy : V → Hp → Prop), items[i]? = some d → Is G x d → Sit c.T (R i) σ G H →
      (∀ G' H', Grow c.B G H G' H' → Sit c.T (R (i + 1)) σ G' H' → (out i).1 = false → Qn H') → (∀ y G' H', Grow c.B G H G' H' → Sit c.T (R (i + 1)) σ G' H' → (out i).1 = true → Is G' y (out i).2 → Qy y H') →
      g x (wipe σ vs) H fun σ2 H2 => wipe σ2 vs = wipe σ vs ∧ tt σ2 H2 fun b H3 => if b = true then te σ2 H3 Qy else Qn H3)
    (hB : ∀ p ∈ c.B, ∃ k : Nat, ∃ e, (R 0)[k]? = some e ∧ e.addr = some p) :
    EvX c (tLc wi g tt te vs) ρ (R items.length) (.list (picked ((List.range items.length).map out))) := fun σ G H s Q q => hi σ G H s _ fun J G1 H1 g1 s1 W => by
  intro Dl hD
  have hGD : G1 Dl = none := s1.gh.free hD
  have addrNe : ∀ i (k : Nat) e, (R i)[k]? = some e → e.addr ≠ some Dl := fun i k e h a => by
    obtain ⟨e', h', a'⟩ := hR i k e Dl h a
    exact s1.addr_in h' a' hD
  have DnB : Dl ∉ c.B := fun hm => by
    obtain ⟨k, e, h, a⟩ := hB Dl hm
    exact s1.addr_in h a hD
  let Pv : Nat → Hp → Prop := fun i H2 => ∃ G2 acc, Grow c.B G1 H1 G2 H2 ∧ G2 Dl = none ∧ H2 Dl = some (.lst acc) ∧ IsAll G2 acc (picked ((List.range i).map out)) ∧ Sit c.T (R i) σ G2 H2
  have P0 : Pv 0 (upd H1 Dl (.lst [])) := by
    have pl : Pl G1 H1 G1 (upd H1 Dl (.lst [])) := ⟨.refl _, Ex.new hD, fun _ _ => rfl⟩
    exact ⟨G1, [], pl.grow, hGD, upd_same, .nil, s1.pl pl (s1.gh.trans (Ex.new hD))⟩
  refine ⟨fun i m H2 => m = items.length - i ∧ i ≤ items.length ∧ Pv i H2, ⟨items.length, by simp, Nat.zero_le _, P0⟩, ?_⟩
  rintro i m H2 ⟨rfl, hil, G2, acc, gr2, n2, h2, is2, s2⟩
  by_cases hlt : i < items.length
  · refine .inr ⟨W.go G2 H2 i gr2.gg s2.gh hlt, Pv (i + 1), fun H3 p' => ⟨items.length - (i + 1), by omega, rfl, hlt, p'⟩, fun x H3 y => ?_⟩
    obtain ⟨d, hd, G3, p3, gh3, ix⟩ := W.yld G2 H2 i x H3 gr2.gg s2.gh hlt y
    have s3 : Sit c.T (R i) σ G3 H3 := s2.pl p3 gh3
    have n3 : G3 Dl = none := (p3.fr Dl (ne_none_of h2)).trans n2
    have h3 : H3 Dl = some (.lst acc) := p3.hh _ _ h2
    have gr3 : Grow c.B G1 H1 G3 H3 := gr2.trans p3.grow
    have r12 : (List.range (i + 1)).map out = (List.range i).map out ++ [out i] := by rw [List.range_succ, List.map_append]; rfl
    refine step i d σ G3 H3 x _ _ hd ix s3 (fun G4 H4 g4 s4 hb => ?_) (fun y4 G4 H4 g4 s4 hb iy => ?_)
    · have h4 : H4 Dl = some (.lst acc) := g4.hh _ _ h3 DnB (fun ps z => by cases z)
      refine ⟨G4, acc, gr3.trans g4, (g4.fr Dl (ne_none_of h3)).trans n3, h4, ?_, s4⟩
      have e : picked ((List.range (i + 1)).map out) = picked ((List.range i).map out) := by
        rw [r12, picked_append]
        have : picked [out i] = [] := by
          rw [show out i = (false, (out i).2) from by rw [← hb]]
          rfl
        rw [this, List.append_nil]
      rw [e]
      exact is2.mono (p3.gg.trans g4.gg)
    · have h4 : H4 Dl = some (.lst acc) := g4.hh _ _ h3 DnB (fun ps z => by cases z)
      have n4 : G4 Dl = none := (g4.fr Dl (ne_none_of h3)).trans n3
      have lenA : acc.length < sizeLine := by
        rw [is2.length, sizeLine_eq]
        have := picked_len ((List.range i).map out)
        rw [List.length_map, List.length_range] at this
        omega
      refine ⟨acc, h4, lenA, G4, acc ++ [y4], (gr3.trans g4).updNew hD h4, n4, upd_same, ?_, s4.updNew n4 h4 (fun k e h => addrNe (i + 1) k e h)⟩
      have e : picked ((List.range (i + 1)).map out) = picked ((List.range i).map out) ++ [(out i).2] := by
        rw [r12, picked_append]
        have : picked [out i] = [(out i).2] := by
          rw [show out i = (true, (out i).2) from by rw [← hb]]
          rfl
        rw [this]
      rw [e]
      exact (is2.mono (p3.gg.trans g4.gg)).append (.cons iy .nil)
  · have e : i = items.length := by omega
    subst e
    refine .inl ⟨W.stop G2 H2 gr2.gg s2.gh, ?_⟩
    exact q (.ref Dl) (upd G2 Dl (.lst acc)) H2 (g1.trans (gr2.tell hD n2)) (s2.tell (fun ps z => by cases z) n2 h2 (fun k e h => addrNe _ k e h)) (.lst upd_same (is2.mono (Ex.new n2)))
/-- whose turns leave the environment -/
theorem ev_lc {c : Cfg} {ρ ρ1 : Env} {wi : TI} {g : TG} {tt : TT} {te : TE} {vs : List Nat} {items : List D} (out : Nat → Bool × D) (f : Nat → Env → Env) (js : Nat → List Nat) (hi : EvI c wi ρ ρ1 items) (hn : items.length ≤ 100000) (hB : c.B = [])
    (hg : ∀ (i : Nat) (d : D), items[i]? = some d → TgX g d (f i) (js i) ∧ ∀ j ∈ js i, j ∈ vs)
    (ht : ∀ (i : Nat) (d : D), items[i]? = some d → EvT c tt (f i (wipeE ρ1 vs)) (f i (wipeE ρ1 vs)) (out i).1)
    (he : ∀ (i : Nat) (d : D), items[i]? = some d → (out i).1 = true → EvX c te (f i (wipeE ρ1 vs)) (f i (wipeE ρ1 vs)) (out i).2) :
    EvX c (tLc wi g tt te vs) ρ ρ1 (.list (picked ((List.range items.length).map out))) := by
  refine lc_gen (fun _ => ρ1) out hi hn (fun i k e p h a => ⟨e, h, a⟩) (fun i d σ G H x Qn Qy hd ix s hn hy => ?_) (fun p hp => by rw [hB] at hp; cases hp)
  obtain ⟨tg, hjs⟩ := hg i d hd
  obtain ⟨h, hw, hs, hq⟩ := tg (wipe σ vs) G H x ix s.gh
  refine hq _ ⟨by rw [hw vs hjs]; exact wipe_wipe, ?_⟩
  refine ht i d hd (h (wipe σ vs)) G H (hs _ _ _ (s.wipe vs)) _ fun G5 H5 g5 s5 => ?_
  have up : ∀ {G H G' H' : Hp}, Sit c.T ρ1 σ G H → Grow c.B G H G' H' → Ex G' H' → Sit c.T ρ1 σ G' H' := fun s g gh => s.grow0 (by rw [hB] at g; exact g) gh
  cases hb : (out i).1 with
  | false =>
    show Qn H5
    exact hn G5 H5 g5 (up s g5 s5.gh) hb
  | true =>
    show te _ H5 Qy
    exact he i d hd hb _ G5 H5 (by rw [hb] at *; exact s5) Qy fun v G6 H6 g6 s6 i6 => hy v G6 H6 (g5.trans g6) (up s (g5.trans g6) s6.gh) hb i6
end Fb

/-! The data layer 3: statements and defs. -/
namespace Fb
open PySem L2

theorem range_out {α β : Type} (xs : List α) (f : α → β) (z : β) : (List.range xs.length).map (fun i => match xs[i]? with | some a => f a | none => z) = xs.map f := by
  apply List.ext_getElem?
  intro i
  rw [List.getElem?_map, List.getElem?_map]
  by_cases h : i < xs.length
  · rw [List.getElem?_range h]
    simp [h]
  · rw [List.getElem?_eq_none (by simpa using h), List.getElem?_eq_none (by simpa using h)]
    rfl
/-- the comprehension over a typed list -/
theorem ev_lcM {c : Cfg} {ρ ρ1 : Env} {wi : TI} {g : TG} {tt : TT} {te : TE} {vs : List Nat} {α : Type} (xs : List α) (enc : α → D) (p : α → Bool) (o : α → D) (F : α → Env → Env) (js : List Nat) (hi : EvI c wi ρ ρ1 (xs.map enc)) (hn : xs.length ≤ 100000) (hB : c.B = [])
    (hg : ∀ a ∈ xs, TgX g (enc a) (F a) js) (hj : ∀ j ∈ js, j ∈ vs)
    (ht : ∀ a ∈ xs, EvT c tt (F a (wipeE ρ1 vs)) (F a (wipeE ρ1 vs)) (p a))
    (he : ∀ a ∈ xs, p a = true → EvX c te (F a (wipeE ρ1 vs)) (F a (wipeE ρ1 vs)) (o a)) :
    EvX c (tLc wi g tt te vs) ρ ρ1 (.list ((xs.filter p).map o)) := by
  have key := ev_lc (c := c) (ρ := ρ) (ρ1 := ρ1) (wi := wi) (g := g) (tt := tt) (te := te) (vs := vs) (items := xs.map enc) (fun i => match xs[i]? with | some a => (p a, o a) | none => (false, .none)) (fun i => match xs[i]? with | some a => F a | none => id) (fun _ => js) hi (by simpa using hn) hB
    (fun i d h => by
      rw [List.getElem?_map] at h
      cases e : xs[i]? with
      | none => rw [e] at h; cases h
      | some a =>
        rw [e] at h
        obtain rfl : enc a = d := Option.some.inj h
        exact ⟨hg a (List.mem_of_getElem? e), hj⟩)
    (fun i d h => by
      rw [List.getElem?_map] at h
      cases e : xs[i]? with
      | none => rw [e] at h; cases h
      | some a => simpa only [e] using ht a (List.mem_of_getElem? e))
    (fun i d h hp => by
      rw [List.getElem?_map] at h
      cases e : xs[i]? with
      | none => rw [e] at h; cases h
      | some a =>
        simp only [e] at hp ⊢
        exact he a (List.mem_of_getElem? e) hp)
  rw [List.length_map, range_out xs (fun a => (p a, o a)) (false, .none), picked_filter] at key
  exact key

/-! ### statements -/
structure Run (c : Cfg) (G0 H0 : Hp) (ρ : Env) (σ : L2.St) (G H : Hp) : Prop where
  sit : Sit c.T ρ σ G H
  grow : Grow c.B G0 H0 G H
  new : ∀ (i : Nat) (p : Addr) (ds : List D), ρ[i]? = some (.own p ds) → H0 p = none
inductive Out where
  | next (ρ : Env) | ret (ρ : Env) (d : D) | brk (ρ : Env) | cont (ρ : Env) | exc (C : Addr)
def Post (c : Cfg) (G0 H0 Gb : Hp) (Dn : Ends) : Out → Prop
  | .next ρ => ∀ σ G H, Ex Gb G → Run c G0 H0 ρ σ G H → Dn.nx σ H
  | .ret ρ d => ∀ v σ G H, Ex Gb G → Run c G0 H0 ρ σ G H → Is G v d → Dn.rt v H
  | .brk ρ => ∀ σ G H, Ex Gb G → Run c G0 H0 ρ σ G H → Dn.bk σ H
  | .cont ρ => ∀ σ G H, Ex Gb G → Run c G0 H0 ρ σ G H → Dn.ct σ H
  | .exc C => ∀ G H, Grow c.B G0 H0 G H → Ex G H → c.E (.ref C) none H
def ExS (c : Cfg) (ts : TS) (ρ : Env) (o : Out) : Prop := ∀ G0 H0 Dn σ G H, Run c G0 H0 ρ σ G H → Post c G0 H0 G Dn o → ts Dn σ H
theorem Post.ex {c : Cfg} {G0 H0 Ga Gb : Hp} {Dn : Ends} {o : Out} (h : Post c G0 H0 Ga Dn o) (e : Ex Ga Gb) : Post c G0 H0 Gb Dn o := by
  cases o with
  | next ρ => exact fun σ G H q r => h σ G H (e.trans q) r
  | ret ρ d => exact fun v σ G H q r i => h v σ G H (e.trans q) r i
  | brk ρ => exact fun σ G H q r => h σ G H (e.trans q) r
  | cont ρ => exact fun σ G H q r => h σ G H (e.trans q) r
  | exc C => exact h
theorem Run.step {c : Cfg} {G0 H0 G H G' H' : Hp} {ρ ρ' : Env} {σ : L2.St} (r : Run c G0 H0 ρ σ G H) (g : Grow c.B G H G' H') (s : Sit c.T ρ' σ G' H') (n : ∀ (i : Nat) (p : Addr) (ds : List D), ρ'[i]? = some (.own p ds) → ∃ (j : Nat) (es : List D), ρ[j]? = some (.own p es)) : Run c G0 H0 ρ' σ G' H' :=
  ⟨s, r.grow.trans g, fun i p ds h => by obtain ⟨j, es, q⟩ := n i p ds h; exact r.new j p es q⟩
/-- no own lists but those of ρ -/
def OwnSub (ρ' ρ : Env) : Prop := ∀ (i : Nat) (p : Addr) (ds : List D), ρ'[i]? = some (.own p ds) → ∃ (j : Nat) (es : List D), ρ[j]? = some (.own p es)
theorem OwnSub.refl (ρ : Env) : OwnSub ρ ρ := fun i p ds h => ⟨i, ds, h⟩
theorem OwnSub.trans {a b c : Env} (h : OwnSub a b) (k : OwnSub b c) : OwnSub a c := fun i p ds e => by
  obtain ⟨j, es, q⟩ := h i p ds e
  exact k j p es q
theorem OwnSub.set {ρ : Env} {i : Nat} {e : Ent} (h : ∀ p ds, e ≠ .own p ds) : OwnSub (ρ.set i e) ρ := fun k p ds q => by
  rcases getset q with ⟨_, rfl, _⟩ | ⟨_, q⟩
  · exact absurd rfl (h p ds)
  · exact ⟨k, ds, q⟩
section
variable {c : Cfg} {ρ ρ' ρ1 ρ2 ρ3 : Env} {ta tb tc te tl : TE} {tr : TA} {t u : TS} {tt : TT} {x y z d : D} {r : R2} {o : Out} {g : TG}
/-- an expression's environment may differ from before by objects alone -/
theorem exs_nil : ExS c tNext ρ (.next ρ) := fun G0 H0 Dn σ G H r q => q σ G H (.refl _) r
theorem exs_seq (h1 : ExS c t ρ (.next ρ1)) (h2 : ExS c u ρ1 o) : ExS c (tSeq t u) ρ o := fun G0 H0 Dn σ G H r q => by
  refine h1 G0 H0 { Dn with nx := u Dn } σ G H r fun σ1 G1 H1 e1 r1 => h2 G0 H0 Dn σ1 G1 H1 r1 (q.ex e1)
theorem exs_seq_ret (h1 : ExS c t ρ (.ret ρ1 d)) : ExS c (tSeq t u) ρ (.ret ρ1 d) := fun G0 H0 Dn σ G H r q => h1 G0 H0 { Dn with nx := u Dn } σ G H r q
theorem exs_seq_exc {C : Addr} (h1 : ExS c t ρ (.exc C)) : ExS c (tSeq t u) ρ (.exc C) := fun G0 H0 Dn σ G H r q => h1 G0 H0 { Dn with nx := u Dn } σ G H r q
theorem exs_seq_brk (h1 : ExS c t ρ (.brk ρ1)) : ExS c (tSeq t u) ρ (.brk ρ1) := fun G0 H0 Dn σ G H r q => h1 G0 H0 { Dn with nx := u Dn } σ G H r q
theorem exs_if {b : Bool} (h : EvT c tt ρ ρ1 b) (s : OwnSub ρ1 ρ) (h1 : b = true → ExS c t ρ1 o) (h2 : b = false → ExS c u ρ1 o) : ExS c (tIfS tt t u) ρ o := fun G0 H0 Dn σ G H r q =>
  h σ G H r.sit _ fun G1 H1 g1 s1 => by
    cases b with
    | true =>
      show t Dn σ H1
      exact h1 rfl G0 H0 Dn σ G1 H1 (r.step g1 s1 s) (q.ex g1.gg)
    | false =>
      show u Dn σ H1
      exact h2 rfl G0 H0 Dn σ G1 H1 (r.step g1 s1 s) (q.ex g1.gg)
theorem exs_ret (h : EvX c te ρ ρ1 d) (s : OwnSub ρ1 ρ) : ExS c (tRet te) ρ (.ret ρ1 d) := fun G0 H0 Dn σ G H r q =>
  h σ G H r.sit _ fun v G1 H1 g1 s1 i1 => q v σ G1 H1 g1.gg (r.step g1 s1 s) i1
theorem exs_drop (h : EvX c te ρ ρ1 d) (s : OwnSub ρ1 ρ) : ExS c (tDrop te) ρ (.next ρ1) := fun G0 H0 Dn σ G H r q =>
  h σ G H r.sit _ fun v G1 H1 g1 s1 i1 => q σ G1 H1 g1.gg (r.step g1 s1 s)
theorem exs_set {i : Nat} (h : EvX c te ρ ρ1 d) (s : OwnSub ρ1 ρ) : ExS c (tAsg te (gName i)) ρ (.next (ρ1.set i (.dat d))) := fun G0 H0 Dn σ G H r q =>
  h σ G H r.sit _ fun v G1 H1 g1 s1 i1 => q _ G1 H1 g1.gg ⟨s1.setDat i1, r.grow.trans g1, fun k p ds e => by
    rcases getset e with ⟨_, e, _⟩ | ⟨_, e⟩
    · cases e
    · obtain ⟨j, es, e'⟩ := s k p ds e
      exact r.new j p es e'⟩
theorem exs_tup {i j : Nat} {e : D} (h : EvX c te ρ ρ1 (.tuple [d, e])) (s : OwnSub ρ1 ρ) : ExS c (tAsg te (gTup c.K 2 (gCons (gName i) (gCons (gName j) gNil)))) ρ (.next ((ρ1.set i (.dat d)).set j (.dat e))) := fun G0 H0 Dn σ G H r q =>
  h σ G H r.sit _ fun v G1 H1 g1 s1 i1 => by
    obtain ⟨h, _, hs, hq⟩ := tg_pair (K := c.K) (i := i) (j := j) σ G1 H1 v i1 s1.gh
    refine hq _ (q _ G1 H1 g1.gg ⟨hs _ _ _ s1, r.grow.trans g1, fun k p ds e => ?_⟩)
    rcases getset e with ⟨_, e, _⟩ | ⟨_, e⟩
    · cases e
    · rcases getset e with ⟨_, e, _⟩ | ⟨_, e⟩
      · cases e
      · obtain ⟨j, es, e'⟩ := s k p ds e
        exact r.new j p es e'
theorem exs_par {i j : Nat} {e : D} (h : EvA c tr ρ ρ1 [d, e]) (s : OwnSub ρ1 ρ) : ExS c (tPar i j tr) ρ (.next ((ρ1.set i (.dat d)).set j (.dat e))) := fun G0 H0 Dn σ G H r q =>
  h σ G H r.sit _ fun vs G1 H1 g1 s1 i1 => by
    cases i1 with
    | cons h1 t1 =>
      cases t1 with
      | cons h2 t2 =>
        cases t2
        refine ⟨_, _, rfl, q _ G1 H1 g1.gg ⟨(s1.setDat h1).setDat h2, r.grow.trans g1, fun k p ds e => ?_⟩⟩
        rcases getset e with ⟨_, e, _⟩ | ⟨_, e⟩
        · cases e
        · rcases getset e with ⟨_, e, _⟩ | ⟨_, e⟩
          · cases e
          · obtain ⟨j, es, e'⟩ := s k p ds e
            exact r.new j p es e'
/-- weaker knowledge ahead, behind -/
theorem exs_le (h : ExS c t ρ' o) (l : Le ρ' ρ) : ExS c t ρ o := fun G0 H0 Dn σ G H r q => h G0 H0 Dn σ G H ⟨r.sit.le l, r.grow, fun i p ds e => by
  rcases l.get.2 i _ e with z | z
  · cases z
  · exact r.new i p ds z⟩ q
theorem Run.le {G0 H0 G H : Hp} {σ : L2.St} (r : Run c G0 H0 ρ σ G H) (l : Le ρ' ρ) : Run c G0 H0 ρ' σ G H := ⟨r.sit.le l, r.grow, fun i p ds e => by
  rcases l.get.2 i _ e with z | z
  · cases z
  · exact r.new i p ds z⟩
theorem exs_to (h : ExS c t ρ (.next ρ1)) (l : Le ρ2 ρ1) : ExS c t ρ (.next ρ2) := fun G0 H0 Dn σ G H r q => h G0 H0 Dn σ G H r fun σ' G' H' e' r' => q σ' G' H' e' (r'.le l)
/-- an own list begun -/
theorem exs_own {i : Nat} (h : ∀ p : Addr, ExS c u (ρ.set i (.own p [])) o) : ExS c (tSeq (tAsg (tLst tNil) (gName i)) u) ρ o := fun G0 H0 Dn σ G H r q => by
  refine ⟨Nat.zero_le _, fun p hp => h p G0 H0 Dn _ G (upd H p (.lst [])) ?_ q⟩
  have pl : Pl G H G (upd H p (.lst [])) := ⟨.refl _, Ex.new hp, fun _ _ => rfl⟩
  have hG : G p = none := r.sit.gh.free hp
  have s1 := r.sit.pl pl (r.sit.gh.trans (Ex.new hp))
  have g := r.grow.trans (pl.grow (B := c.B))
  refine ⟨s1.set ⟨rfl, ⟨[], upd_same, .nil⟩, hG⟩ (fun p' e j e' h1 h2 => ?_), g, fun k p' ds e => ?_⟩
  · have e1 : p = p' := Option.some.inj e
    subst e1
    exact absurd hp (r.sit.addr_in h1 h2)
  · rcases getset e with ⟨_, e, _⟩ | ⟨_, e⟩
    · cases e
      cases q : H0 p with
      | none => rfl
      | some o => exact absurd hp (r.grow.st p (ne_none_of q))
    · exact r.new k p' ds e
theorem exs_app {i : Nat} {p : Addr} {ds : List D} (hi : ρ1[i]? = some (.own p ds)) (h : EvX c te ρ ρ1 d) (h0 : ρ[i]? = some (.own p ds)) (s : OwnSub ρ1 ρ) (hl : ds.length < 100000) (hB : p ∉ c.B) : ExS c (tDrop (tBM c.K "list" rAppend (tVar i) (tCons te tNil))) ρ (.next (ρ1.set i (.own p (ds ++ [d])))) := fun G0 H0 Dn σ G H r q => by
  obtain ⟨q1, ⟨vs, q2, q3⟩, q4⟩ := r.sit.ent i _ h0
  refine ⟨.ref p, q1, .inl ⟨rfl, vs, .inl (.inl q2)⟩, ?_⟩
  refine h σ G H r.sit _ fun v G1 H1 g1 s1 i1 => ?_
  obtain ⟨a1, ⟨ws, a2, a3⟩, a4⟩ := s1.ent i _ hi
  refine ⟨p, ws, v, rfl, rfl, a2, by rw [a3.length, sizeLine_eq]; omega, ?_⟩
  refine q σ G1 _ g1.gg ⟨⟨fun a o h => ?_, by rw [List.length_set]; exact s1.len, fun k e hk => ?_, fun k l p' e e' h1 h2 b1 b2 => ?_, ?_, s1.gtab⟩, ⟨(r.grow.trans g1).gg, fun a o h1 h2 h3 => ?_, fun T hT => ?_, (r.grow.trans g1).fr, fun a ha => ?_⟩, fun k p' es hk => ?_⟩
  · rw [upd_ne (ne_of_none h a4)]
    exact s1.gh a o h
  · rcases getset hk with ⟨rfl, rfl, hlt⟩ | ⟨hne, hk⟩
    · exact ⟨a1, ⟨ws ++ [v], upd_same, a3.append (.cons i1 .nil)⟩, a4⟩
    · have q := s1.ent k e hk
      have na : ∀ a, e.addr = some a → a ≠ p := fun a ea z => hne (s1.uq k i p e _ hk hi (by rw [ea, z]) rfl)
      cases e with
      | un => trivial
      | dat d => exact q
      | own a es =>
        obtain ⟨b1, ⟨us, b2, b3⟩, b4⟩ := q
        exact ⟨b1, ⟨us, by rw [upd_ne (na a rfl)]; exact b2, b3⟩, b4⟩
      | obj a o' =>
        obtain ⟨b1, b2, b3, b4⟩ := q
        exact ⟨b1, by rw [upd_ne (na a rfl)]; exact b2, b3, b4⟩
      | dic a ks =>
        obtain ⟨b1, ⟨us, b2, bk, b3⟩, b4⟩ := q
        exact ⟨b1, ⟨us, by rw [upd_ne (na a rfl)]; exact b2, bk, b3⟩, b4⟩
      | raw v => exact q
  · have at_ : ∀ (k : Nat) (e : Ent), (ρ1.set i (.own p (ds ++ [d])))[k]? = some e → e.addr = some p' → ∃ e0, ρ1[k]? = some e0 ∧ e0.addr = some p' := fun k e hk he => by
      rcases getset hk with ⟨rfl, rfl, _⟩ | ⟨_, hk⟩
      · exact ⟨_, hi, he⟩
      · exact ⟨e, hk, he⟩
    obtain ⟨e0, c1, c2⟩ := at_ k e h1 b1
    obtain ⟨e1, c3, c4⟩ := at_ l e' h2 b2
    exact s1.uq k l p' e0 e1 c1 c3 c2 c4
  · exact tabs_lst s1.tabs a2 (fun ps z => by cases z) (fun φ z => by cases z)
  · have np : a ≠ p := fun z => by
      have hz := r.new i p ds h0
      rw [z, hz] at h1
      cases h1
    rw [upd_ne np]
    exact (r.grow.trans g1).hh a o h1 h2 h3
  · exact tabs_lst ((r.grow.trans g1).tb T hT) a2 (fun ps z => by cases z) (fun φ z => by cases z)
  · by_cases e : a = p
    · rw [e, upd_same]; exact fun z => by cases z
    · rw [upd_ne e]; exact (r.grow.trans g1).st a ha
  · rcases getset hk with ⟨_, hk, _⟩ | ⟨_, hk⟩
    · cases hk
      exact r.new i p ds h0
    · obtain ⟨j, es', e'⟩ := s k p' es hk
      exact r.new j p' es' e'
/-- an own list is told: from now on it is data -/
theorem exs_tell {i : Nat} {p : Addr} {ds : List D} (hi : ρ[i]? = some (.own p ds)) (h : ExS c t (ρ.set i (.dat (.list ds))) o) : ExS c t ρ o := fun G0 H0 Dn σ G H r q => by
  obtain ⟨a1, ⟨ws, a2, a3⟩, a4⟩ := r.sit.ent i _ hi
  have hl : i < ρ.length := (List.getElem?_eq_some_iff.mp hi).1
  have e0 : σ.set i (some (.ref p)) = σ := by
    apply List.ext_getElem?
    intro k
    by_cases e : i = k
    · subst e
      rw [List.getElem?_set_self (by rw [r.sit.len]; exact hl), a1]
    · rw [List.getElem?_set_ne e]
  -- the environment without slot i, then the slot as data
  have s0 : Sit c.T (ρ.set i .un) σ G H := ⟨r.sit.gh, by rw [List.length_set]; exact r.sit.len, fun k e hk => by
    rcases getset hk with ⟨_, rfl, _⟩ | ⟨_, hk⟩
    · trivial
    · exact r.sit.ent k e hk, fun k l p' e e' h1 h2 b1 b2 => by
    rcases getset h1 with ⟨_, rfl, _⟩ | ⟨_, h1⟩
    · cases b1
    · rcases getset h2 with ⟨_, rfl, _⟩ | ⟨_, h2⟩
      · cases b2
      · exact r.sit.uq k l p' e e' h1 h2 b1 b2, r.sit.tabs, r.sit.gtab⟩
  have np : ∀ (k : Nat) (e : Ent), (ρ.set i .un)[k]? = some e → e.addr ≠ some p := fun k e hk ha => by
    rcases getset hk with ⟨_, rfl, _⟩ | ⟨hne, hk⟩
    · cases ha
    · exact hne (r.sit.uq k i p e _ hk hi ha rfl)
  have s1 := s0.tell (fun ps z => by cases z) a4 a2 np
  have s2 := s1.setDat (i := i) (v := .ref p) (d := .list ds) (.lst upd_same (a3.mono (Ex.new a4)))
  rw [e0, List.set_set] at s2
  refine h G0 H0 Dn σ _ H ⟨s2, r.grow.tell (r.new i p ds hi) a4, fun k p' es hk => ?_⟩ (q.ex (Ex.new a4))
  rcases getset hk with ⟨_, hk, _⟩ | ⟨_, hk⟩
  · cases hk
  · exact r.new k p' es hk
/-- for: R i the environment ahead of turn i; no turn leaves -/
theorem exs_for {wi : TI} {items : List D} (R : Nat → Env) (f : Nat → Env → Env) (js : Nat → List Nat) (hi : EvI c wi ρ (R 0) items) (s : OwnSub (R 0) ρ) (hf : ∀ (i : Nat) (ρ : Env), OwnSub (f i ρ) ρ)
    (hg : ∀ (i : Nat) (d : D), items[i]? = some d → TgX g d (f i) (js i))
    (hb : ∀ (i : Nat) (d : D), items[i]? = some d → ExS c t (f i (R i)) (.next (R (i + 1)))) : ExS c (tFor wi g t) ρ (.next (R items.length)) := fun G0 H0 Dn σ G H r q => by
  refine hi σ G H r.sit _ fun J G1 H1 g1 s1 W => ?_
  have r1 := r.step g1 s1 s
  refine ⟨fun i m σ2 H2 => m = items.length - i ∧ i ≤ items.length ∧ ∃ G2, Ex G1 G2 ∧ Run c G0 H0 (R i) σ2 G2 H2, ⟨items.length, by simp, Nat.zero_le _, G1, .refl _, r1⟩, ?_⟩
  rintro i m σ2 H2 ⟨rfl, hil, G2, g2, r2⟩
  by_cases hlt : i < items.length
  · refine .inr ⟨W.go G2 H2 i g2 r2.sit.gh hlt, fun σ' H' => ∃ G2, Ex G1 G2 ∧ Run c G0 H0 (R (i + 1)) σ' G2 H', fun σ' H' p' => ⟨items.length - (i + 1), by omega, rfl, hlt, p'⟩, fun x H3 y => ?_⟩
    obtain ⟨d, hd, G3, p3, gh3, ix⟩ := W.yld G2 H2 i x H3 g2 r2.sit.gh hlt y
    obtain ⟨h, hw, hs, hq⟩ := hg i d hd σ2 G3 H3 x ix gh3
    refine hq _ ?_
    have r3 : Run c G0 H0 (f i (R i)) (h σ2) G3 H3 := ⟨hs _ _ _ (r2.sit.pl p3 gh3), r2.grow.trans p3.grow, fun k p ds e => by
      obtain ⟨j, es, e'⟩ := hf i (R i) k p ds e
      exact r2.new j p es e'⟩
    exact hb i d hd G0 H0 _ (h σ2) G3 H3 r3 fun σ4 G4 H4 e4 r4 => ⟨G4, (g2.trans p3.gg).trans e4, r4⟩
  · have e : i = items.length := by omega
    subst e
    exact .inl ⟨W.stop G2 H2 g2 r2.sit.gh, q σ2 G2 H2 (g1.gg.trans g2) r2⟩
/-- for: at turn n it leaves by a return -/
theorem exs_for_ret {wi : TI} {items : List D} (R : Nat → Env) (n : Nat) (f : Nat → Env → Env) (js : Nat → List Nat) (hi : EvI c wi ρ (R 0) items) (s : OwnSub (R 0) ρ) (hf : ∀ (i : Nat) (ρ : Env), OwnSub (f i ρ) ρ)
    (hg : ∀ (i : Nat) (d : D), items[i]? = some d → TgX g d (f i) (js i)) (hn : n < items.length)
    (hb : ∀ (i : Nat) (d : D), i < n → items[i]? = some d → ExS c t (f i (R i)) (.next (R (i + 1)))) (he : ∀ (e : D), items[n]? = some e → ExS c t (f n (R n)) (.ret ρ' d)) : ExS c (tFor wi g t) ρ (.ret ρ' d) := fun G0 H0 Dn σ G H r q => by
  refine hi σ G H r.sit _ fun J G1 H1 g1 s1 W => ?_
  have r1 := r.step g1 s1 s
  refine ⟨fun i m σ2 H2 => m = items.length - i ∧ i ≤ n ∧ ∃ G2, Ex G1 G2 ∧ Run c G0 H0 (R i) σ2 G2 H2, ⟨items.length, by simp, Nat.zero_le _, G1, .refl _, r1⟩, ?_⟩
  rintro i m σ2 H2 ⟨rfl, hil, G2, g2, r2⟩
  have hlt : i < items.length := Nat.lt_of_le_of_lt hil hn
  refine .inr ⟨W.go G2 H2 i g2 r2.sit.gh hlt, fun σ' H' => i < n ∧ ∃ G2, Ex G1 G2 ∧ Run c G0 H0 (R (i + 1)) σ' G2 H', fun σ' H' p' => ⟨items.length - (i + 1), by omega, rfl, p'.1, p'.2⟩, fun x H3 y => ?_⟩
  obtain ⟨d', hd, G3, p3, gh3, ix⟩ := W.yld G2 H2 i x H3 g2 r2.sit.gh hlt y
  obtain ⟨h, hw, hs, hq⟩ := hg i d' hd σ2 G3 H3 x ix gh3
  refine hq _ ?_
  have r3 : Run c G0 H0 (f i (R i)) (h σ2) G3 H3 := ⟨hs _ _ _ (r2.sit.pl p3 gh3), r2.grow.trans p3.grow, fun k p ds e => by
    obtain ⟨j, es, e'⟩ := hf i (R i) k p ds e
    exact r2.new j p es e'⟩
  by_cases e : i = n
  · subst e
    exact he d' hd G0 H0 _ (h σ2) G3 H3 r3 fun v σ4 G4 H4 e4 r4 i4 => q v σ4 G4 H4 (((g1.gg.trans g2).trans p3.gg).trans e4) r4 i4
  · have hlt' : i < n := by omega
    exact hb i d' hlt' hd G0 H0 _ (h σ2) G3 H3 r3 fun σ4 G4 H4 e4 r4 => ⟨hlt', G4, (g2.trans p3.gg).trans e4, r4⟩
/-- while: R i the environment ahead of test i; n turns -/
theorem exs_while (R : Nat → Env) (n : Nat) (h0 : R 0 = ρ) (ht : ∀ i, i ≤ n → ∃ ρ', EvT c tt (R i) ρ' (decide (i < n)) ∧ OwnSub ρ' (R i) ∧ (i < n → ExS c t ρ' (.next (R (i + 1)))) ∧ (i = n → ρ' = ρ1)) : ExS c (tWhile tt t) ρ (.next ρ1) := fun G0 H0 Dn σ G H r q => by
  refine ⟨fun m σ2 H2 => ∃ i, m = n - i ∧ i ≤ n ∧ ∃ G2, Ex G G2 ∧ Run c G0 H0 (R i) σ2 G2 H2, ⟨n, 0, by simp, Nat.zero_le _, G, .refl _, by rw [h0]; exact r⟩, ?_⟩
  rintro m σ2 H2 ⟨i, rfl, hil, G2, g2, r2⟩
  obtain ⟨ρ', hT, hs, hb, he⟩ := ht i hil
  refine hT σ2 G2 H2 r2.sit _ fun G3 H3 g3 s3 => ?_
  have r3 := r2.step g3 s3 hs
  by_cases hlt : i < n
  · rw [if_pos (decide_eq_true hlt)]
    exact ⟨fun σ' H' => ∃ G2, Ex G G2 ∧ Run c G0 H0 (R (i + 1)) σ' G2 H', fun σ' H' p' => ⟨n - (i + 1), by omega, i + 1, rfl, hlt, p'⟩, hb hlt G0 H0 _ σ2 G3 H3 r3 fun σ4 G4 H4 e4 r4 => ⟨G4, (g2.trans g3.gg).trans e4, r4⟩⟩
  · rw [if_neg (by rw [decide_eq_false hlt]; exact Bool.false_ne_true)]
    have e : i = n := by omega
    rw [he e] at r3
    exact q σ2 G3 H3 (g2.trans g3.gg) r3
/-- while: at turn n it leaves by a return -/
theorem exs_while_ret (R : Nat → Env) (n : Nat) (h0 : R 0 = ρ) (ht : ∀ i, i ≤ n → ∃ ρ', EvT c tt (R i) ρ' true ∧ OwnSub ρ' (R i) ∧ (i < n → ExS c t ρ' (.next (R (i + 1)))) ∧ (i = n → ExS c t ρ' (.ret ρ1 d))) : ExS c (tWhile tt t) ρ (.ret ρ1 d) := fun G0 H0 Dn σ G H r q => by
  refine ⟨fun m σ2 H2 => ∃ i, m = n - i ∧ i ≤ n ∧ ∃ G2, Ex G G2 ∧ Run c G0 H0 (R i) σ2 G2 H2, ⟨n, 0, by simp, Nat.zero_le _, G, .refl _, by rw [h0]; exact r⟩, ?_⟩
  rintro m σ2 H2 ⟨i, rfl, hil, G2, g2, r2⟩
  obtain ⟨ρ', hT, hs, hb, he⟩ := ht i hil
  refine hT σ2 G2 H2 r2.sit _ fun G3 H3 g3 s3 => ?_
  have r3 := r2.step g3 s3 hs
  rw [if_pos rfl]
  refine ⟨fun σ' H' => i < n ∧ ∃ G2, Ex G G2 ∧ Run c G0 H0 (R (i + 1)) σ' G2 H', fun σ' H' p' => ⟨n - (i + 1), by omega, i + 1, rfl, p'.1, p'.2⟩, ?_⟩
  by_cases hlt : i < n
  · exact hb hlt G0 H0 _ σ2 G3 H3 r3 fun σ4 G4 H4 e4 r4 => ⟨hlt, G4, (g2.trans g3.gg).trans e4, r4⟩
  · exact he (by omega) G0 H0 _ σ2 G3 H3 r3 fun v σ4 G4 H4 e4 r4 i4 => q v σ4 G4 H4 ((g2.trans g3.gg).trans e4) r4 i4
end
end Fb

/-! The data layer 4: defs and their promises, operations by data. -/
namespace Fb
open PySem L2

/-! ### promises -/
/-- what a def told by data gives: a value, or an exception of the class at an address -/
abbrev Rz := D ⊕ Addr
def ResOk (G H : Hp) (Q : VK) (E : XK) : Rz → Prop
  | .inl d => ∀ v G' H', Grow [] G H G' H' → Ex G' H' → Is G' v d → Q v H'
  | .inr C => ∀ G' H', Grow [] G H G' H' → Ex G' H' → E (.ref C) none H'
/-- P: what arguments give what -/
def spF (P : List D → Rz → Prop) : Sp := fun vs H Q E => ∃ G ds r, Ex G H ∧ IsAll G vs ds ∧ P ds r ∧ ResOk G H Q E r
section
variable {c : Cfg} {ρ ρ' ρ1 ρ2 ρ3 : Env} {ta tb tc te tl : TE} {tr : TA} {t u : TS} {tt : TT} {x y z d : D} {r : R2} {o : Out} {g : TG}
theorem grow_nil {B : List Addr} {G H G' H' : Hp} (g : Grow [] G H G' H') : Grow B G H G' H' := g.weak (fun _ h => by cases h)
theorem ev_call {P : List D → Rz → Prop} {E : XK} {ds : List D} (h : EvA c tr ρ ρ1 ds) (p : P ds (.inl z)) : EvX c (tCall (spF P) [] E tr) ρ ρ1 z := fun σ G H s Q q =>
  h σ G H s _ fun vs G1 H1 g1 s1 i1 => ⟨G1, ds, .inl z, s1.gh, by rw [List.append_nil]; exact i1, p, fun v G2 H2 g2 gh2 i2 => q v G2 H2 (g1.trans (grow_nil g2)) (s1.grow0 g2 gh2) i2⟩
/-- an expression that raises -/
def EvE (c : Cfg) (te : TE) (ρ : Env) (C : Addr) : Prop := ∀ σ G H, Sit c.T ρ σ G H → ∀ Q : VK, (∀ G' H', Grow c.B G H G' H' → Ex G' H' → c.E (.ref C) none H') → te σ H Q
theorem ee_call {P : List D → Rz → Prop} {ds : List D} {C : Addr} (h : EvA c tr ρ ρ1 ds) (p : P ds (.inr C)) : EvE c (tCall (spF P) [] c.E tr) ρ C := fun σ G H s Q q =>
  h σ G H s _ fun vs G1 H1 g1 s1 i1 => ⟨G1, ds, .inr C, s1.gh, by rw [List.append_nil]; exact i1, p, fun G2 H2 g2 gh2 => q G2 H2 (g1.trans (grow_nil g2)) gh2⟩
theorem exs_drop_exc {C : Addr} (h : EvE c te ρ C) : ExS c (tDrop te) ρ (.exc C) := fun G0 H0 Dn σ G H r q => h σ G H r.sit _ fun G1 H1 g1 e1 => q G1 H1 (r.grow.trans g1) e1
theorem exs_ret_exc {C : Addr} (h : EvE c te ρ C) : ExS c (tRet te) ρ (.exc C) := fun G0 H0 Dn σ G H r q => h σ G H r.sit _ fun G1 H1 g1 e1 => q G1 H1 (r.grow.trans g1) e1
/-- raise X('..') -/
def tRaise (C : Addr) (E : XK) : TS := fun _ σ H => E (.ref C) none H
theorem exs_raise {C : Addr} : ExS c (tRaise C c.E) ρ (.exc C) := fun G0 H0 Dn σ G H r q => q G H r.grow r.sit.gh
end
/-- the environment at a def's entry -/
def env0 (N : List Str) (ds : List D) : Env := ds.map .dat ++ List.replicate (N.length - ds.length) .un
theorem start_sit {N : List Str} {vs : List V} {ds : List D} {G H : Hp} (gh : Ex G H) (h : IsAll G vs ds) : Sit [] (env0 N ds) (L2.start N vs) G H := by
  have hl := h.length
  refine ⟨gh, by simp [env0, L2.start, hl], fun i e hi => ?_, fun i j p e e' h1 h2 a1 a2 => ?_, tabsQ_nil, fun p hp => by cases hp⟩
  · unfold env0 at hi
    by_cases hlt : i < ds.length
    · rw [List.getElem?_append_left (by simpa using hlt), List.getElem?_map] at hi
      cases q : ds[i]? with
      | none => rw [q] at hi; cases hi
      | some d =>
        rw [q] at hi
        obtain rfl : Ent.dat d = e := Option.some.inj hi
        obtain ⟨v, hv, iv⟩ := h.at q
        refine ⟨v, ?_, iv⟩
        unfold L2.start
        rw [List.getElem?_append_left (by simpa [hl] using hlt), List.getElem?_map, hv]
        rfl
    · rw [List.getElem?_append_right (by simpa using hlt)] at hi
      have := List.mem_of_getElem? hi
      rw [List.mem_replicate] at this
      rw [this.2]
      trivial
  · have un : ∀ {k : Nat} {e : Ent}, (env0 N ds)[k]? = some e → e.addr = none := fun {k e} hk => by
      have := List.mem_of_getElem? hk
      unfold env0 at this
      rcases List.mem_append.mp this with m | m
      · obtain ⟨d, _, rfl⟩ := List.mem_map.mp m
        rfl
      · rw [(List.mem_replicate.mp m).2]; rfl
    rw [un h1] at a1
    cases a1
/-- the body's outcome that a promise's result wants -/
def outOf (o : Out) : Rz → Prop
  | .inl d => (∃ ρ, o = .ret ρ d) ∨ ((∃ ρ, o = .next ρ) ∧ d = .none)
  | .inr C => o = .exc C
/-- THE RULE for a def's reading -/
theorem pure_of {K : PySem.W.Frag} {N : List Str} {t : XK → TS} {P : List D → Rz → Prop} (body : ∀ (E : XK) (ds : List D) (r : Rz), P ds r → ∃ o, ExS ⟨K, [], [], E⟩ (t E) (env0 N ds) o ∧ outOf o r) {vs : List V} {H : Hp} {Q : VK} {E : XK} (h : spF P vs H Q E) :
    t E { nx := fun _ H' => Q .non H', rt := Q } (L2.start N vs) H := by
  obtain ⟨G, ds, r, gh, is, p, k⟩ := h
  obtain ⟨o, hb, ho⟩ := body E ds r p
  refine hb G H _ _ G H ⟨start_sit gh is, .refl _ _ _, fun i p es e => ?_⟩ ?_
  · have := List.mem_of_getElem? e
    unfold env0 at this
    rcases List.mem_append.mp this with m | m
    · obtain ⟨d, _, z⟩ := List.mem_map.mp m
      cases z
    · have := (List.mem_replicate.mp m).2
      cases this
  · cases r with
    | inl d =>
      rcases ho with ⟨ρ, rfl⟩ | ⟨⟨ρ, rfl⟩, rfl⟩
      · exact fun v σ G' H' e r i => k v G' H' r.grow r.sit.gh i
      · exact fun σ G' H' e r => k .non G' H' r.grow r.sit.gh .non
    | inr C =>
      have ho : o = .exc C := ho
      subst ho
      exact fun G' H' g e => k G' H' g e
theorem spF_len {P : List D → Rz → Prop} {n : Nat} (h : ∀ ds r, P ds r → ds.length = n) {vs : List V} {H : Hp} {Q : VK} {E : XK} (q : spF P vs H Q E) : vs.length = n := by
  obtain ⟨G, ds, r, _, is, p, _⟩ := q
  rw [is.length, h ds r p]

/-! ### operations -/
theorem rx_I {g : Int → Int → Int} {i j : Int} : RX (rI0 fun i j => .int (g i j)) (.int i) (.int j) (.int (g i j)) := fun a b G H gh ha hb Q q => by
  cases ha; cases hb
  exact ⟨i, j, rfl, rfl, q.here gh (.int _)⟩
theorem rx_IC {C : Int → Int → Prop} {g : Int → Int → Int} {i j : Int} (h : C i j) : RX (rI C fun i j => .int (g i j)) (.int i) (.int j) (.int (g i j)) := fun a b G H gh ha hb Q q => by
  cases ha; cases hb
  exact ⟨i, j, rfl, rfl, h, q.here gh (.int _)⟩
theorem rx_B {g : Int → Int → Bool} {i j : Int} : RX (rI0 fun i j => .bl (g i j)) (.int i) (.int j) (.bool (g i j)) := fun a b G H gh ha hb Q q => by
  cases ha; cases hb
  exact ⟨i, j, rfl, rfl, q.here gh (.bl _)⟩
theorem rx_eq {K : PySem.W.Frag} {x y : D} (hx : SeqAt.shaped x = true) (hy : SeqAt.shaped y = true) : RX (rEqD K) x y (.bool (PyData.eqv x y)) := fun a b G H gh ha hb Q q =>
  ⟨x, y, (ha.mono gh).dp, (hb.mono gh).dp, hx, hy, q.here gh (.bl _)⟩
theorem rx_ne {K : PySem.W.Frag} {x y : D} (hx : SeqAt.shaped x = true) (hy : SeqAt.shaped y = true) : RX (rNeD K) x y (.bool (!PyData.eqv x y)) := fun a b G H gh ha hb Q q =>
  ⟨x, y, (ha.mono gh).dp, (hb.mono gh).dp, hx, hy, q.here gh (.bl _)⟩
theorem rx_in {K : PySem.W.Frag} {x : D} {ds : List D} (hx : SeqAt.shaped x = true) (hy : SeqAt.shaped (.list ds) = true) : RX (rInD K) x (.list ds) (.bool (ds.any fun z => PyData.eqv z x)) := fun a b G H gh ha hb Q q =>
  ⟨x, ds, (ha.mono gh).dp, (hb.mono gh).dp, hx, hy, q.here gh (.bl _)⟩
theorem rx_nin {K : PySem.W.Frag} {x : D} {ds : List D} (hx : SeqAt.shaped x = true) (hy : SeqAt.shaped (.list ds) = true) : RX (rNotInD K) x (.list ds) (.bool (!ds.any fun z => PyData.eqv z x)) := fun a b G H gh ha hb Q q =>
  ⟨x, ds, (ha.mono gh).dp, (hb.mono gh).dp, hx, hy, q.here gh (.bl _)⟩
theorem rx_isN {x y : D} (hy : y = .none) : RX rIsN x y (.bool (match x with | .none => true | _ => false)) := fun a b G H gh ha hb Q q => by
  subst hy
  cases hb
  refine ⟨rfl, ?_⟩
  cases ha <;> exact q.here gh (.bl _)
theorem rx_notN {x y : D} (hy : y = .none) : RX rNotN x y (.bool (match x with | .none => false | _ => true)) := fun a b G H gh ha hb Q q => by
  subst hy
  cases hb
  refine ⟨rfl, ?_⟩
  cases ha <;> exact q.here gh (.bl _)
theorem rx_ixL {K : PySem.W.Frag} {ds : List D} {i : Int} {d : D} (h : atI ds i = some d) : RX (rIxL K) (.list ds) (.int i) d := fun a b G H gh ha hb Q q => by
  cases hb
  cases ha with
  | lst e is =>
    obtain ⟨j, hj, hd⟩ : ∃ j, ixN ds.length i = some j ∧ ds[j]? = some d := by
      unfold atI at h
      cases q : ixN ds.length i with
      | none => rw [q] at h; cases h
      | some j => rw [q] at h; exact ⟨j, rfl, h⟩
    obtain ⟨v, hv, iv⟩ := is.at hd
    exact ⟨_, _, i, v, rfl, rfl, .of (gh _ _ e), by unfold atI; rw [is.length, hj]; exact hv, q.here gh iv⟩
theorem rx_ixT {K : PySem.W.Frag} {ds : List D} {i : Int} {d : D} (h : atI ds i = some d) : RX (rIxT K) (.tuple ds) (.int i) d := fun a b G H gh ha hb Q q => by
  cases hb
  cases ha with
  | tup e is =>
    obtain ⟨j, hj, hd⟩ : ∃ j, ixN ds.length i = some j ∧ ds[j]? = some d := by
      unfold atI at h
      cases q : ixN ds.length i with
      | none => rw [q] at h; cases h
      | some j => rw [q] at h; exact ⟨j, rfl, h⟩
    obtain ⟨v, hv, iv⟩ := is.at hd
    exact ⟨_, _, i, v, rfl, rfl, .of (gh _ _ e), by unfold atI; rw [is.length, hj]; exact hv, q.here gh iv⟩
theorem rx_ixS {s : Str} {i : Int} {k : Nat} (hl : s.length ≤ 100000) (h : atI s.cps.toList i = some k) : RX rIxS (.str s) (.int i) (.str ⟨#[k]⟩) := fun a b G H gh ha hb Q q => by
  cases ha; cases hb
  exact ⟨s, i, k, rfl, rfl, by rw [sizeLine_eq]; omega, h, q.here gh (.str _)⟩
theorem rx_inS {k : Nat} {s : Str} : RX rInS (.str ⟨#[k]⟩) (.str s) (.bool (decide (k ∈ s.cps.toList))) := fun a b G H gh ha hb Q q => by
  cases ha; cases hb
  exact ⟨k, s, rfl, rfl, q.here gh (.bl _)⟩
theorem rx_addS {s u : Str} (h : s.length + u.length ≤ 100000) : RX (fun x y H Q => ∃ i j, x = .str i ∧ y = .str j ∧ i.length + j.length ≤ sizeLine ∧ Q (.str (i ++ j)) H) (.str s) (.str u) (.str (s ++ u)) := fun a b G H gh ha hb Q q => by
  cases ha; cases hb
  exact ⟨s, u, rfl, rfl, by rw [sizeLine_eq]; omega, q.here gh (.str _)⟩
theorem rx_cat {xs ys : List D} (h : xs.length + ys.length ≤ 100000) : RX rCat (.list xs) (.list ys) (.list (xs ++ ys)) := fun a b G H gh ha hb Q q => by
  cases ha with
  | lst e1 i1 =>
    cases hb with
    | lst e2 i2 => exact ⟨_, _, _, _, rfl, rfl, gh _ _ e1, gh _ _ e2, by rw [i1.length, i2.length, sizeLine_eq]; omega, fun p hp => q.lst gh (i1.append i2) hp⟩
theorem rx_catT {K : PySem.W.Frag} {xs ys : List D} (h : xs.length + ys.length ≤ 100000) : RX (rCatA K) (.tuple xs) (.tuple ys) (.tuple (xs ++ ys)) := fun a b G H gh ha hb Q q => by
  cases ha with
  | tup e1 i1 =>
    cases hb with
    | tup e2 i2 =>
      refine ⟨_, _, _, _, rfl, rfl, .of (gh _ _ e1), .of (gh _ _ e2), by rw [i1.length, i2.length, sizeLine_eq]; omega, fun z => ?_, fun z1 z2 => ?_, fun z1 z2 p hp => q.tup gh (i1.append i2) hp⟩
      · have e : xs = [] := by
          have := i1.length
          rw [z] at this
          exact List.length_eq_zero_iff.mp this.symm
        subst e
        exact q.here gh (.tup e2 i2)
      · have e : ys = [] := by
          have := i2.length
          rw [z2] at this
          exact List.length_eq_zero_iff.mp this.symm
        subst e
        rw [List.append_nil] at q
        exact q.here gh (.tup e1 i1)
theorem rx_rep {xs : List D} {k : Int} (h : -1000 ≤ k ∧ k ≤ 1000) (hl : xs.length ≤ 1000) : RX rRep (.list xs) (.int k) (.list (List.replicate k.toNat xs).flatten) := fun a b G H gh ha hb Q q => by
  cases hb
  cases ha with
  | lst e1 i1 =>
    refine ⟨_, k, _, rfl, rfl, gh _ _ e1, by omega, by omega, ?_, fun p hp => q.lst gh (i1.rep _) hp⟩
    rw [i1.length, sizeLine_eq]
    have h1 : k.toNat ≤ 1000 := by omega
    exact Nat.le_trans (Nat.mul_le_mul hl h1) (by decide)
theorem rx_repT {K : PySem.W.Frag} {xs : List D} {k : Int} (h : 2 ≤ k ∧ k ≤ 1000) (hl : xs.length ≤ 1000) (hn : xs ≠ []) : RX (rRepT K) (.tuple xs) (.int k) (.tuple (List.replicate k.toNat xs).flatten) := fun a b G H gh ha hb Q q => by
  cases hb
  cases ha with
  | tup e1 i1 =>
    refine ⟨_, k, _, rfl, rfl, .of (gh _ _ e1), fun z => ?_, h.1, h.2, by rw [i1.length]; exact hl, fun p hp => q.tup gh (i1.rep _) hp⟩
    have := i1.length
    rw [z] at this
    exact hn (List.length_eq_zero_iff.mp this.symm)
theorem ru_neg {i : Int} : RU1 (rU fun i => .int (-i)) (.int i) (.int (-i)) := fun a G H gh ha Q q => by
  cases ha
  exact ⟨i, rfl, q.here gh (.int _)⟩

/-! ### calls of built-ins -/
def dlen : D → Option Nat
  | .list xs => some xs.length
  | .tuple xs => some xs.length
  | .str s => some s.length
  | _ => none
theorem rc_len {K : PySem.W.Frag} {d : D} {n : Nat} (h : dlen d = some n) (hs : n ≤ 100000) : RC (fun xs H Q => ∃ x n, xs = [x] ∧ LenV K x H n ∧ Q (.int (n : Nat)) H) [d] (.int (n : Nat)) := fun vs G H gh hv Q q => by
  cases hv with
  | cons hd t =>
    cases t
    cases hd with
    | non => cases h
    | bl _ => cases h
    | int _ => cases h
    | str x =>
      obtain rfl : x.length = n := Option.some.inj h
      exact ⟨_, x.length, rfl, ⟨by rw [sizeLine_eq]; omega, rfl⟩, q.here gh (.int _)⟩
    | lst e is =>
      obtain rfl : _ = n := Option.some.inj h
      exact ⟨_, _, rfl, .inl ⟨_, .of (gh _ _ e), is.length.symm⟩, q.here gh (.int _)⟩
    | tup e is =>
      obtain rfl : _ = n := Option.some.inj h
      exact ⟨_, _, rfl, .inr ⟨_, .of (gh _ _ e), is.length.symm⟩, q.here gh (.int _)⟩
theorem rc_all {K : PySem.W.Frag} {bs : List Bool} : RC (rAll K) [.list (bs.map .bool)] (.bool (bs.all id)) := fun vs G H gh hv Q q => by
  cases hv with
  | cons hd t =>
    cases t
    cases hd with
    | lst e is =>
      have e2 := is.bools
      subst e2
      exact ⟨_, bs, rfl, .of (gh _ _ e), q.here gh (.bl _)⟩
theorem rc_any {K : PySem.W.Frag} {bs : List Bool} : RC (rAny K) [.list (bs.map .bool)] (.bool (bs.any id)) := fun vs G H gh hv Q q => by
  cases hv with
  | cons hd t =>
    cases t
    cases hd with
    | lst e is =>
      have e2 := is.bools
      subst e2
      exact ⟨_, bs, rfl, .of (gh _ _ e), q.here gh (.bl _)⟩
theorem rc_sum {K : PySem.W.Frag} {ns : List Int} : RC (rSum K) [.list (ns.map .int)] (.int ns.sum) := fun vs G H gh hv Q q => by
  cases hv with
  | cons hd t =>
    cases t
    cases hd with
    | lst e is =>
      have e2 := is.ints
      subst e2
      exact ⟨_, ns, rfl, .of (gh _ _ e), q.here gh (.int _)⟩
theorem rc_tupleL {K : PySem.W.Frag} {ds : List D} : RC (fun xs H Q => ∃ p ys, xs = [.ref p] ∧ ((SqL K H p ys ∧ ∀ l, H l = none → Q (.ref l) (upd H l (.tup ys))) ∨ (SqT K H p ys ∧ Q (.ref p) H))) [.list ds] (.tuple ds) := fun vs G H gh hv Q q => by
  cases hv with
  | cons hd t =>
    cases t
    cases hd with
    | lst e is => exact ⟨_, _, rfl, .inl ⟨.of (gh _ _ e), fun l hl => q.tup gh is hl⟩⟩
theorem rc_listL {K : PySem.W.Frag} {ds : List D} : RC (fun xs H Q => ∃ p ys, xs = [.ref p] ∧ (SqL K H p ys ∨ SqT K H p ys) ∧ ∀ l, H l = none → Q (.ref l) (upd H l (.lst ys))) [.list ds] (.list ds) := fun vs G H gh hv Q q => by
  cases hv with
  | cons hd t =>
    cases t
    cases hd with
    | lst e is => exact ⟨_, _, rfl, .inl (.of (gh _ _ e)), fun l hl => q.lst gh is hl⟩
theorem rc_listT {K : PySem.W.Frag} {ds : List D} : RC (fun xs H Q => ∃ p ys, xs = [.ref p] ∧ (SqL K H p ys ∨ SqT K H p ys) ∧ ∀ l, H l = none → Q (.ref l) (upd H l (.lst ys))) [.tuple ds] (.list ds) := fun vs G H gh hv Q q => by
  cases hv with
  | cons hd t =>
    cases t
    cases hd with
    | tup e is => exact ⟨_, _, rfl, .inr (.of (gh _ _ e)), fun l hl => q.lst gh is hl⟩
theorem rc_max2 {i j : Int} : RC (fun xs H Q => ∃ i j, xs = [.int i, .int j] ∧ Q (.int (if j > i then j else i)) H) [.int i, .int j] (.int (if j > i then j else i)) := fun vs G H gh hv Q q => by
  cases hv with
  | cons h1 t =>
    cases t with
    | cons h2 t =>
      cases t
      cases h1
      cases h2
      exact ⟨i, j, rfl, q.here gh (.int _)⟩
theorem rc_abs {i : Int} : RC (fun xs H Q => ∃ i, xs = [.int i] ∧ Q (.int (if i < 0 then -i else i)) H) [.int i] (.int (if i < 0 then -i else i)) := fun vs G H gh hv Q q => by
  cases hv with
  | cons h1 t =>
    cases t
    cases h1
    exact ⟨i, rfl, q.here gh (.int _)⟩
theorem rc_intB {k : Bool} : RC (fun xs H Q => (∃ i, xs = [.int i] ∧ Q (.int i) H) ∨ ∃ k, xs = [.bl k] ∧ Q (.int (if k then 1 else 0)) H) [.bool k] (.int (if k then 1 else 0)) := fun vs G H gh hv Q q => by
  cases hv with
  | cons h1 t =>
    cases t
    cases h1
    exact .inr ⟨k, rfl, q.here gh (.int _)⟩
/-- the name of a datum's type -/
def dty : D → String
  | .none => "NoneType"
  | .bool _ => "bool"
  | .int _ => "int"
  | .str _ => "str"
  | .list _ => "list"
  | .tuple _ => "tuple"
  | .dict _ => "dict"
theorem Is.ty {K : PySem.W.Frag} {H : Hp} {v : V} {d : D} (h : Is H v d) : TyX K H v (.type (dty d)) := by
  cases h with
  | non => exact .base .non
  | bl _ => exact .base (.bl _)
  | int _ => exact .base (.int _)
  | str _ => exact .base (.str _)
  | lst e _ => exact .base (.lst e)
  | tup e _ => exact .base (.tup e)
section
variable {c : Cfg} {ρ ρ' ρ1 ρ2 ρ3 : Env} {ta tb tc te tl : TE} {tr : TA} {x y z d : D}
theorem ev_isi {n : String} {b : Bool} (h : EvX c te ρ ρ1 d) (k : kitB (dty d) n = some b) : EvX c (tCB (rIsi c.K) (tCons te (tCons (tC (.ty n)) tNil))) ρ ρ1 (.bool b) := fun σ G H s Q q =>
  h σ G H s _ fun v G1 H1 g1 s1 i1 => ⟨v, .ty n, _, _, b, rfl, .ty n, (i1.mono s1.gh).ty, kit_ty k, q _ G1 H1 g1 s1 (.bl b)⟩
/-- methods of built-in types -/
theorem tyV_list {K : PySem.W.Frag} {G H : Hp} {v : V} {ds : List D} (gh : Ex G H) (h : Is G v (.list ds)) : tyV K "list" v H := by
  cases h with
  | lst e _ => exact .inl ⟨rfl, _, .of (gh _ _ e)⟩
theorem ev_bmL {r : V → List V → Hp → VK → Prop} {ds es : List D} (h : EvX c te ρ ρ1 (.list ds)) (ha : EvA c tr ρ1 ρ2 es) (hr : RM r (.list ds) es z) : EvX c (tBM c.K "list" r te tr) ρ ρ2 z := fun σ G H s Q q =>
  h σ G H s _ fun v G1 H1 g1 s1 i1 => ⟨tyV_list s1.gh i1, ha σ G1 H1 s1 _ fun vs G2 H2 g2 s2 i2 => hr v vs G2 H2 s2.gh (i1.mono g2.gg) i2 Q (End1.of s2 fun v' G3 H3 g3 s3 i3 => q v' G3 H3 ((g1.trans g2).trans g3) s3 i3)⟩
/-- methods of a text with one argument -/
theorem ev_m1 {r : V → List V → Hp → VK → Prop} {a : Str} {y : D} (h : EvX c ta ρ ρ1 (.str a)) (ha : EvX c tb ρ1 ρ2 y) (hr : RM r (.str a) [y] z) : EvX c (tM1 r ta tb) ρ ρ2 z := fun σ G H s Q q =>
  h σ G H s _ fun v G1 H1 g1 s1 i1 => by
    cases i1
    exact ⟨⟨a, rfl⟩, ha σ G1 H1 s1 _ fun w G2 H2 g2 s2 i2 => hr _ [w] G2 H2 s2.gh (.str a) (.cons i2 .nil) Q (End1.of s2 fun v' G3 H3 g3 s3 i3 => q v' G3 H3 ((g1.trans g2).trans g3) s3 i3)⟩
end
theorem rm_join {K : PySem.W.Frag} {a : Str} {ys : List Str} (h : (ys.map (·.length)).sum + ys.length * a.length ≤ 100000) : RM (fun x xs H Q => ∃ a p, ∃ ys : List Str, x = .str a ∧ xs = [.ref p] ∧ (SqL K H p (ys.map V.str) ∨ SqT K H p (ys.map V.str)) ∧ (ys.map (·.length)).sum + ys.length * a.length ≤ 16777216 ∧ Q (.str (Txt.join a ys)) H)
    (.str a) [.list (ys.map .str)] (.str (Txt.join a ys)) := fun x vs G H gh hx hv Q q => by
  cases hx
  cases hv with
  | cons h1 t =>
    cases t
    cases h1 with
    | lst e is =>
      have e2 := is.strs
      subst e2
      exact ⟨a, _, ys, rfl, rfl, .inl (.of (gh _ _ e)), by omega, q.here gh (.str _)⟩
theorem rm_joinT {K : PySem.W.Frag} {a : Str} {ys : List Str} (h : (ys.map (·.length)).sum + ys.length * a.length ≤ 100000) : RM (fun x xs H Q => ∃ a p, ∃ ys : List Str, x = .str a ∧ xs = [.ref p] ∧ (SqL K H p (ys.map V.str) ∨ SqT K H p (ys.map V.str)) ∧ (ys.map (·.length)).sum + ys.length * a.length ≤ 16777216 ∧ Q (.str (Txt.join a ys)) H)
    (.str a) [.tuple (ys.map .str)] (.str (Txt.join a ys)) := fun x vs G H gh hx hv Q q => by
  cases hx
  cases hv with
  | cons h1 t =>
    cases t
    cases h1 with
    | tup e is =>
      have e2 := is.strs
      subst e2
      exact ⟨a, _, ys, rfl, rfl, .inr (.of (gh _ _ e)), by omega, q.here gh (.str _)⟩
theorem rm_count {a b : Str} : RM (fun x xs H Q => ∃ a b, x = .str a ∧ xs = [.str b] ∧ Q (.int (Txt.count a b)) H) (.str a) [.str b] (.int (Txt.count a b)) := fun x vs G H gh hx hv Q q => by
  cases hx
  cases hv with
  | cons h1 t =>
    cases t
    cases h1
    exact ⟨a, b, rfl, rfl, q.here gh (.int _)⟩
theorem rm_split {a b : Str} (hb : (b.length == 0) = false) (ha : a.length ≤ 100000) : RM (fun x xs H Q => ∃ a b, x = .str a ∧ xs = [.str b] ∧ (b.length == 0) = false ∧ a.length + 2 ≤ sizeLine ∧ rNewStrs (Txt.split a b) H Q) (.str a) [.str b] (.list ((Txt.split a b).map .str)) := fun x vs G H gh hx hv Q q => by
  cases hx
  cases hv with
  | cons h1 t =>
    cases t
    cases h1
    exact ⟨a, b, rfl, rfl, hb, by rw [sizeLine_eq]; omega, fun p hp => q.lst gh (isAll_strs _) hp⟩

/-! ### slices -/
def cutD (xs : List D) (lo hi : Option Int) : List D := (xs.drop (HT.sIx xs.length 0 lo)).take (HT.sIx xs.length xs.length hi - HT.sIx xs.length 0 lo)
theorem rs_list {K : PySem.W.Frag} {ds : List D} {lo hi : Option Int} : RS (rSlL K) (.list ds) lo hi (.list (cutD ds lo hi)) := fun a G H gh ha Q q => by
  cases ha with
  | lst e is =>
    refine ⟨_, _, rfl, .of (gh _ _ e), fun p hp => q.lst gh ?_ hp⟩
    unfold cutV cutD
    rw [is.length]
    exact (is.drop _).take _
theorem rs_tup {K : PySem.W.Frag} {ds : List D} {lo hi : Option Int} : RS (rSlA K) (.tuple ds) lo hi (.tuple (cutD ds lo hi)) := fun a G H gh ha Q q => by
  cases ha with
  | tup e is =>
    refine ⟨_, _, rfl, .of (gh _ _ e), fun z => ?_, fun z p hp => q.tup gh ?_ hp⟩
    · obtain ⟨z1, z2⟩ := z
      rw [is.length] at z1 z2
      have e2 : cutD ds lo hi = ds := by
        unfold cutD
        rw [z1, z2]
        simp
      rw [e2] at q
      exact q.here gh (.tup e is)
    · unfold cutV cutD
      rw [is.length]
      exact (is.drop _).take _
theorem rs_str {s : Str} {lo hi : Option Int} (hl : s.length ≤ 100000) : RS rSlS (.str s) lo hi (.str (cutS s lo hi)) := fun a G H gh ha Q q => by
  cases ha
  exact ⟨s, rfl, by rw [sizeLine_eq]; omega, q.here gh (.str _)⟩
end Fb

/-! New rules of the hand layer: order of data, sorted. -/
namespace Fb
open PySem PySem.Spec PyProof.Rows L2
section
variable {X : Cx}
def rLtD (K : PySem.W.Frag) : R2 := fun x y H Q => ∃ d e, Dp K H x d ∧ Dp K H y e ∧ PySem.W.alike d e = true ∧ d ≠ .none ∧ d.depth ≤ 60 ∧ Q (.bl (PySem.W.dataLt d e)) H
def rGtD (K : PySem.W.Frag) : R2 := fun x y H Q => ∃ d e, Dp K H x d ∧ Dp K H y e ∧ PySem.W.alike d e = true ∧ d ≠ .none ∧ d.depth ≤ 60 ∧ Q (.bl (PySem.W.dataLt e d)) H
theorem op_ltD (hu : X.A.units + 64 < cLine) : OpR X (compareOp .Lt) (rLtD X.K) := by
  intro pins s σ H x y v u Q I rx ry h
  obtain ⟨d, e, hd, he, ha, hn, hz, q⟩ := h
  obtain ⟨as, r1⟩ := Dp.reads I d x v hd rx
  obtain ⟨bs, r2⟩ := Dp.reads I e y u he ry
  exact PySem.W.lt_data r1 r2 ha hn (by omega) ⟨.bl _, H, I, rfl, q⟩
theorem op_gtD (hu : X.A.units + 64 < cLine) : OpR X (compareOp .Gt) (rGtD X.K) := by
  intro pins s σ H x y v u Q I rx ry h
  obtain ⟨d, e, hd, he, ha, hn, hz, q⟩ := h
  obtain ⟨as, r1⟩ := Dp.reads I d x v hd rx
  obtain ⟨bs, r2⟩ := Dp.reads I e y u he ry
  exact PySem.W.gt_data r1 r2 ha hn (by omega) ⟨.bl _, H, I, rfl, q⟩
/-- sorted(xs), xs a list of data that are alike -/
def rSortedD (K : PySem.W.Frag) : List V → Hp → VK → Prop := fun vs H Q => ∃ (a : Addr) (bs : List (D × V)), vs = [.ref a] ∧ SqL K H a (bs.map (·.2)) ∧ (∀ b ∈ bs, Dp K H b.2 b.1) ∧ PySem.W.AllAlike (bs.map (·.1)) ∧ PySem.W.Sortable (bs.map (·.1)) ∧
  bs.length ≤ 100000 ∧ (∀ b ∈ bs, b.1.depth ≤ 60) ∧ ∀ p, H p = none → Q (.ref p) (upd H p (.lst ((bs.mergeSort (PySem.W.dataLe false (·.1))).map (·.2))))
theorem each_of_vals {α : Type} {R : Value → α → Prop} {f : α → V} (h : ∀ a u, RelV (f a) u → R u a) : ∀ {bs : List α} {us : List Value}, Vals (bs.map f) us → PySem.W.EachIs R us bs
  | [], us, r => by
    have r' : Vals [] us := r
    cases r'
    exact .nil
  | b :: bs, us, r => by
    have r' : Vals (f b :: bs.map f) us := r
    cases r' with
    | cons h1 t => exact .cons (h b _ h1) (each_of_vals h t)
theorem vals_of_each {α : Type} {f : α → V} : ∀ {us : List Value} {bs : List α}, PySem.W.EachIs (fun u a => RelV (f a) u) us bs → Vals (bs.map f) us
  | _, _, .nil => .nil
  | _, _, .cons h t => .cons h (vals_of_each t)
theorem each_mem2 {α : Type} {R S : Value → α → Prop} : ∀ {us : List Value} {bs : List α}, (∀ b ∈ bs, ∀ u, R u b → S u b) → PySem.W.EachIs R us bs → PySem.W.EachIs S us bs
  | _, _, _, .nil => .nil
  | _, _, h, .cons h1 t => .cons (h _ List.mem_cons_self _ h1) (each_mem2 (fun b hb => h b (List.mem_cons_of_mem _ hb)) t)
theorem cr_sortedD (hu : X.A.units + 64 < cLine) : CallR X (.builtin "sorted") (rSortedD X.K) := by
  intro pins s σ H vs us Q I r h
  obtain ⟨a, bs, rfl, hs, hd, hal, hk, hl, hdep, q⟩ := h
  obtain ⟨its, rv, hL, hz⟩ := I.list hs
  rw [Vals.ref1 r]
  have e1 : PySem.W.EachIs (fun u (b : D × V) => RelV b.2 u) its bs := each_of_vals (fun _ _ h => h) rv
  have e2 : PySem.W.EachIs (fun u (b : D × V) => ∃ as, Reads s.heap u b.1 as) its bs := each_mem2 (fun b hb u hu => Dp.reads I b.1 b.2 u (hd b hb) hu) e1
  refine PySem.W.sorted_data (enc := fun b : D × V => b.1) hL.isList e1 e2 hal hk (by rw [sizeLine_eq]; omega) (fun b hb => by have := hdep b hb; omega) fun out ho he => ?_
  obtain ⟨ep, he'⟩ := PyProof.Rows.sortedAll_at s.heap its out.toArray
  have hlen : ((bs.mergeSort (PySem.W.dataLe false (·.1))).map (·.2)).length ≤ sizeLine := by
    rw [List.length_map, List.length_mergeSort, sizeLine_eq]
    omega
  exact ⟨.ref _, upd H (s.heap.objs.size + 1) (.lst ((bs.mergeSort (PySem.W.dataLe false (·.1))).map (·.2))), I.laid (t' := s.toks) (fun _ _ => PyProof.Rows.sortedAll_old) (Nat.le_succ _) ⟨hlen, out, ep, vals_of_each he, he'⟩, rfl, q _ (I.hok.fresh (Nat.le_succ _))⟩
end
theorem rx_lt {K : PySem.W.Frag} {x y : D} (ha : PySem.W.alike x y = true) (hn : x ≠ .none) (hz : x.depth ≤ 60) : RX (rLtD K) x y (.bool (PySem.W.dataLt x y)) := fun a b G H gh h1 h2 Q q =>
  ⟨x, y, (h1.mono gh).dp, (h2.mono gh).dp, ha, hn, hz, q.here gh (.bl _)⟩
theorem rx_gt {K : PySem.W.Frag} {x y : D} (ha : PySem.W.alike x y = true) (hn : x ≠ .none) (hz : x.depth ≤ 60) : RX (rGtD K) x y (.bool (PySem.W.dataLt y x)) := fun a b G H gh h1 h2 Q q =>
  ⟨x, y, (h1.mono gh).dp, (h2.mono gh).dp, ha, hn, hz, q.here gh (.bl _)⟩
theorem isAll_zip {H : Hp} : ∀ {vs : List V} {ds : List D}, IsAll H vs ds → (ds.zip vs).map (·.1) = ds ∧ (ds.zip vs).map (·.2) = vs ∧ ∀ b ∈ ds.zip vs, Is H b.2 b.1 := by
  intro vs
  induction vs with
  | nil => intro ds h; cases h; exact ⟨rfl, rfl, fun b hb => by cases hb⟩
  | cons v vs ih =>
    intro ds h
    cases h with
    | cons h1 t =>
      obtain ⟨e1, e2, e3⟩ := ih t
      refine ⟨by simp [e1], by simp [e2], fun b hb => ?_⟩
      rcases List.mem_cons.mp (by simpa using hb) with z | z
      · rw [z]; exact h1
      · exact e3 b z
theorem isAll_of {H : Hp} : ∀ {bs : List (D × V)}, (∀ b ∈ bs, Is H b.2 b.1) → IsAll H (bs.map (·.2)) (bs.map (·.1))
  | [], _ => .nil
  | b :: bs, h => .cons (h b List.mem_cons_self) (isAll_of fun b hb => h b (List.mem_cons_of_mem _ hb))
theorem rc_sorted {K : PySem.W.Frag} {ds : List D} (hal : PySem.W.AllAlike ds) (hk : PySem.W.Sortable ds) (hl : ds.length ≤ 100000) (hz : ∀ d ∈ ds, d.depth ≤ 60) : RC (rSortedD K) [.list ds] (.list (ds.mergeSort (PySem.W.dataLe false id))) := fun vs G H gh hv Q q => by
  cases hv with
  | cons hd t =>
    cases t
    cases hd with
    | lst e is =>
      rename_i a0 xs0
      obtain ⟨e1, e2, e3⟩ := isAll_zip is
      have hm : ∀ b ∈ ds.zip xs0, b.1 ∈ ds := fun b hb => by rw [← e1]; exact List.mem_map.mpr ⟨b, hb, rfl⟩
      refine ⟨_, ds.zip xs0, rfl, .of (by rw [e2]; exact gh _ _ e), fun b hb => ((e3 b hb).mono gh).dp, by rw [e1]; exact hal, by rw [e1]; exact hk, by rw [List.length_zip, is.length]; omega, fun b hb => hz _ (hm b hb), fun p hp => ?_⟩
      have key : (((ds.zip xs0).mergeSort (PySem.W.dataLe false (fun b : D × V => b.1))).map (fun b : D × V => b.1)) = ds.mergeSort (PySem.W.dataLe false id) := by
        rw [List.map_mergeSort (r := PySem.W.dataLe false (fun b : D × V => b.1)) (s := PySem.W.dataLe false id) (f := fun b : D × V => b.1) (fun a _ b _ => rfl), e1]
      rw [← key] at q
      exact q.lst gh (isAll_of fun b hb => e3 b ((List.mergeSort_perm _ _).mem_iff.mp hb)) hp
end Fb

/-! Universal operations: one reading for all the kinds of data that an operator may meet. -/
namespace Fb
open PySem PySem.Spec PyProof.Rows L2

/-! ### readings -/
abbrev r2or (r r' : R2) : R2 := fun x y H Q => r x y H Q ∨ r' x y H Q
theorem RX.l {r r' : R2} {x y z : D} (h : RX r x y z) : RX (r2or r r') x y z := fun a b G H gh ha hb Q q => .inl (h a b G H gh ha hb Q q)
theorem RX.r {r r' : R2} {x y z : D} (h : RX r' x y z) : RX (r2or r r') x y z := fun a b G H gh ha hb Q q => .inr (h a b G H gh ha hb Q q)
def rAddS : R2 := fun x y H Q => ∃ i j, x = .str i ∧ y = .str j ∧ i.length + j.length ≤ sizeLine ∧ Q (.str (i ++ j)) H
def rAddU (K : PySem.W.Frag) : R2 := r2or (rI0 fun i j => .int (i + j)) (r2or rAddS (r2or rCat (rCatA K)))
def rInT (K : PySem.W.Frag) : R2 := fun x y H Q => ∃ d ds, Dp K H x d ∧ Dp K H y (.tuple ds) ∧ SeqAt.shaped d = true ∧ SeqAt.shaped (.tuple ds) = true ∧ Q (.bl (ds.any fun z => PyData.eqv z d)) H
def rNotInT (K : PySem.W.Frag) : R2 := fun x y H Q => ∃ d ds, Dp K H x d ∧ Dp K H y (.tuple ds) ∧ SeqAt.shaped d = true ∧ SeqAt.shaped (.tuple ds) = true ∧ Q (.bl (!ds.any fun z => PyData.eqv z d)) H
def rInU (K : PySem.W.Frag) : R2 := r2or rInS (r2or (rInD K) (rInT K))
def rNinU (K : PySem.W.Frag) : R2 := r2or rNotInS (r2or (rNotInD K) (rNotInT K))
def rMulB : R2 := rI IntMulOk fun i j => .int (i * j)
/-- text * n -/
def repS (x : Str) (n : Nat) : Str := ⟨(List.replicate n x.cps.toList).flatten.toArray⟩
def rMulS : R2 := fun x y H Q => ∃ (z : Str) (n : Int), x = .str z ∧ y = .int n ∧ 0 ≤ n ∧ n ≤ 1000 ∧ z.length ≤ 1000 ∧ Q (.str (repS z n.toNat)) H
def rMulU (K : PySem.W.Frag) : R2 := r2or rMulB (r2or rRep (r2or (rRepT K) rMulS))
def rLtU (K : PySem.W.Frag) : R2 := r2or (rI0 fun i j => .bl (decide (i < j))) (rLtD K)
def rGtU (K : PySem.W.Frag) : R2 := r2or (rI0 fun i j => .bl (decide (j < i))) (rGtD K)
def rFdivU : R2 := rI CDivW fun i j => .int (i / j)
section
variable {X : Cx}
theorem op_inT (hu : X.A.units + 65 < cLine) : OpR X (compareOp .In) (rInT X.K) := by
  intro pins s σ H x y v u Q I rx ry h
  obtain ⟨d, ds, hd, he, sd, se, q⟩ := h
  obtain ⟨as, r1⟩ := Dp.reads I d x v hd rx
  obtain ⟨bs, r2⟩ := Dp.reads I (.tuple ds) y u he ry
  exact SeqAt.in_tuple_reads r2 r1 (SeqAt.canLay_of_shaped se) (SeqAt.canLay_of_shaped sd) (room_in_shaped sd hu) ⟨.bl _, H, I, rfl, q⟩
theorem op_notInT (hu : X.A.units + 65 < cLine) : OpR X (compareOp .NotIn) (rNotInT X.K) := by
  intro pins s σ H x y v u Q I rx ry h
  obtain ⟨d, ds, hd, he, sd, se, q⟩ := h
  obtain ⟨as, r1⟩ := Dp.reads I d x v hd rx
  obtain ⟨bs, r2⟩ := Dp.reads I (.tuple ds) y u he ry
  exact SeqAt.notIn_tuple_reads r2 r1 (SeqAt.canLay_of_shaped se) (SeqAt.canLay_of_shaped sd) (room_in_shaped sd hu) ⟨.bl _, H, I, rfl, q⟩
theorem op_addU : OpR X (binaryOp .Add) (rAddU X.K) := op_add.or (OpR.or op_add_str (op_cat.or op_catA))
theorem op_inU {k : Nat} (hr : Room k X.A) : OpR X (compareOp .In) (rInU X.K) := OpR.or op_inS ((op_inD (by have := hr.un; omega)).or (op_inT (by have := hr.un; omega)))
theorem op_ninU {k : Nat} (hr : Room k X.A) : OpR X (compareOp .NotIn) (rNinU X.K) := OpR.or op_notInS ((op_notInD (by have := hr.un; omega)).or (op_notInT (by have := hr.un; omega)))
theorem op_eqU {k : Nat} (hr : Room k X.A) : OpR X (compareOp .Eq) (rEqD X.K) := op_eqD (by have := hr.un; omega)
theorem op_neU {k : Nat} (hr : Room k X.A) : OpR X (compareOp .NotEq) (rNeD X.K) := op_neD (by have := hr.un; omega)
theorem op_ltU {k : Nat} (hr : Room k X.A) : OpR X (compareOp .Lt) (rLtU X.K) := op_lt.or (op_ltD (by have := hr.un; omega))
theorem op_gtU {k : Nat} (hr : Room k X.A) : OpR X (compareOp .Gt) (rGtU X.K) := op_gt.or (op_gtD (by have := hr.un; omega))
theorem op_mulB : OpR X (binaryOp .Mult) rMulB := opI fun _ _ _ _ _ _ _ hc q => mul_int q hc
theorem fold_flat : ∀ (n : Nat) (c acc : Array Nat), (List.replicate n c).foldl (· ++ ·) acc = acc ++ (List.replicate n c.toList).flatten.toArray
  | 0, c, acc => by simp
  | n + 1, c, acc => by
    rw [List.replicate_succ, List.foldl_cons, fold_flat n c, List.replicate_succ, List.flatten_cons]
    apply Array.toList_inj.mp
    simp
theorem flat_len (n : Nat) (c : List Nat) : (List.replicate n c).flatten.length = n * c.length := by
  induction n with
  | zero => simp
  | succ n ih => rw [List.replicate_succ, List.flatten_cons, List.length_append, ih, Nat.succ_mul]; omega
theorem op_mulS : OpR X (binaryOp .Mult) rMulS := by
  intro pins s σ H x y v u Q I rx ry h
  obtain ⟨z, n, rfl, rfl, h0, h1, h2, q⟩ := h
  obtain ⟨t, rfl⟩ := rx
  obtain ⟨t', rfl⟩ := ry
  have hn : n.toNat ≤ 1000 := by omega
  have hm : z.length * n.toNat ≤ 1000 * 1000 := Nat.mul_le_mul h2 hn
  have hlen : (repS z n.toNat).length = z.length * n.toNat := by
    show (List.replicate n.toNat z.cps.toList).flatten.toArray.size = z.cps.size * n.toNat
    rw [List.size_toArray, flat_len, Array.length_toList, Nat.mul_comm]
  refine PySem.P.mul_str (by
    have e1 : ¬ n < -(2 ^ 63 : Int) := by omega
    have e2 : ¬ n ≥ 2 ^ 63 := by omega
    rw [decide_eq_false e1, decide_eq_false e2]; rfl) (fun hc _ => ?_) (fun _ _ => ?_) ?_
  · have hn1 : (2 ^ 63 - 1 : Int) / n ≥ (2 ^ 63 - 1 : Int) / 1000 := Int.le_ediv_of_mul_le (by omega) (by
      have := Int.mul_le_mul_of_nonneg_left h1 (show (0 : Int) ≤ (2 ^ 63 - 1) / 1000 by decide)
      have e3 : ((2 ^ 63 - 1 : Int) / 1000) * 1000 ≤ 2 ^ 63 - 1 := by decide
      omega)
    have e4 : (1000 : Int) ≤ (2 ^ 63 - 1 : Int) / 1000 := by decide
    omega
  · unfold Builtin.Str.tooLong
    rw [decide_eq_false]
    simp only [sizeLine_eq]
    omega
  · by_cases c1 : n < 1
    · rw [if_pos c1]
      have en : n = 0 := by omega
      subst en
      refine ⟨by decide, .str _, H, I.tok _, ⟨_, rfl⟩, ?_⟩
      exact q
    · rw [if_neg c1]
      by_cases c2 : (n == 1 || z.length == 0) = true
      · rw [if_pos c2]
        have e : repS z n.toNat = z := by
          unfold repS
          rcases (Bool.or_eq_true _ _).mp c2 with c | c
          · have := eq_of_beq c
            subst this
            simp
          · have c' : z.cps.size = 0 := eq_of_beq c
            have : z.cps = #[] := Array.eq_empty_of_size_eq_zero c'
            cases z
            simp only at this
            subst this
            simp
        rw [e] at q
        exact ⟨.str z, H, I, ⟨t, rfl⟩, q⟩
      · rw [if_neg c2]
        have e : (⟨(List.replicate n.toNat z.cps).foldl (· ++ ·) #[]⟩ : Str) = repS z n.toNat := by
          unfold repS
          rw [fold_flat]
          simp
        rw [e]
        refine ⟨by rw [hlen, sizeLine_eq]; omega, .str _, H, I.tok _, ⟨_, rfl⟩, q⟩
theorem op_mulU : OpR X (binaryOp .Mult) (rMulU X.K) := op_mulB.or (op_rep.or (op_repT.or op_mulS))
/-! ### text[::-1] -/
def revS (z : Str) : Str := ⟨z.cps.toList.reverse.toArray⟩
def tRevS (te : TE) : TE := fun σ H Q => te σ H fun x H1 => ∃ z : Str, x = .str z ∧ z.length ≤ sizeLine ∧ Q (.str (revS z)) H1
theorem pe_revS {e : Expr} {te : TE} {k : Nat} {p1 p2 p3 pos : Pos} (he : PE X e te) : PE X (.Subscript e (.Slice none none (some (.UnaryOp .USub (.Constant (.int 1) k p1) p2)) p3) pos) (tRevS te) := by
  refine ⟨fun pins s σ H Q I h => ?_⟩
  refine Subscript_ (thn (he.run pins s σ H _ I h) fun v s1 ⟨x, H1, I1, r1, q1⟩ => ?_)
  obtain ⟨z, ex, hz, q⟩ := q1
  subst ex
  obtain ⟨tz, rfl⟩ := r1
  have hst : PO X (some (.UnaryOp .USub (.Constant (.int 1) k p1) p2)) (tPart (tUn (rU fun i => .int (-i)) (tC (.int 1)))) := po_some (pe_un un_neg pe_int)
  refine wpAny_Slice (thn (po_none.run pins s1 σ H1 (fun o H2 => o = none ∧ H2 = H1) I1 ⟨rfl, rfl⟩) fun vl s2 ⟨l, H2, I2, pl, el, e2⟩ => ?_)
  subst el e2
  refine thn (po_none.run pins s2 σ H2 (fun o H3 => o = none ∧ H3 = H2) I2 ⟨rfl, rfl⟩) fun vu s3 ⟨u, H3, I3, pu, eu, e3⟩ => ?_
  subst eu e3
  refine thn (hst.run pins s3 σ H3 (fun o H4 => o = some (-1) ∧ H4 = H3) I3 ⟨1, rfl, -1, rfl, rfl, rfl⟩) fun vs s4 ⟨o, H4, I4, ps, eo, e4⟩ => ?_
  subst eo e4
  obtain ⟨l, rfl, el⟩ := IsPart.raw pl
  obtain ⟨u, rfl, eu⟩ := IsPart.raw pu
  obtain ⟨st, rfl, est⟩ := IsPart.raw ps
  have I5 : Inv X pins σ H4 { s4 with heap := s4.heap.push { cls := .type "slice", data := .fields #[partValue l, partValue u, partValue st] } } := I4.kept (t' := s4.toks) fun b ob q => Heap.get?_push_of_some _ q
  have elN : l = none := by
    cases l with
    | none => rfl
    | some _ => cases el
  have euN : u = none := by
    cases u with
    | none => rfl
    | some _ => cases eu
  subst elN euN
  obtain ⟨ts, rfl⟩ : ∃ ts, st = some (-1, ts) := by
    cases st with
    | none => cases est
    | some p =>
      obtain ⟨a, b⟩ := p
      have : a = -1 := (Option.some.inj est).symm ▸ rfl
      subst this
      exact ⟨b, rfl⟩
  show wpAny (model X.prog X.w) X.A (subscriptTail e (.Slice none none (some (.UnaryOp .USub (.Constant (.int 1) k p1) p2)) p3) (.str z tz) (.ref s4.heap.objs.size)) (EP X pins σ Q) X.xe { s4 with heap := s4.heap.push { cls := .type "slice", data := .fields #[partValue none, partValue none, partValue (some (-1, ts))] } }
  refine tail_any (ops := [.str z tz, .ref s4.heap.objs.size]) (typeIs_str _ _ _) (F.slot_str_getitem.lookup) ?_ (by with_unfolding_all rfl)
  refine wpAny_getItem_str_slice (l := none) (u := none) (st := some (-1, ts)) ⟨_, Heap.get?_push_size _ rfl, rfl, rfl⟩ rfl ?_
  have hlist : ((Builtin.Str.strSliceIndices none none (-1) z.length).filterMap (z.cps[·]?)).toArray = (revS z).cps := by
    have hp : Builtin.Str.strSliceIndices none none (-1) z.length = (List.range z.length).map (z.length - 1 - ·) := picked_rev z.length
    have hf := filterMap_get z.cps (Builtin.Str.strSliceIndices none none (-1) z.length) (fun i hi => by
      rw [hp] at hi
      obtain ⟨k, hk, rfl⟩ := List.mem_map.mp hi
      have hk' : k < z.length := List.mem_range.mp hk
      show z.length - 1 - k < z.length
      omega)
    rw [hf, hp, List.map_map]
    unfold revS
    congr 1
    apply List.ext_getElem
    · rw [List.length_map, List.length_range, List.length_reverse]; rfl
    · intro i h1 h2
      rw [List.length_reverse, Array.length_toList] at h2
      have hs : z.length = z.cps.size := rfl
      rw [List.getElem_map, List.getElem_range, List.getElem_reverse]
      show z.cps.getD (z.length - 1 - i) 0 = _
      have hi : z.cps.size - 1 - i < z.cps.size := by omega
      simp [Array.getD, hs, hi]
  show Made.post (if ((-1 : Int) == 1 && (Builtin.Str.strSliceIndices none none (-1) z.length).length == z.length) = true then Made.val (.str z tz)
    else Made.str ⟨((Builtin.Str.strSliceIndices none none (-1) z.length).filterMap (z.cps[·]?)).toArray⟩) (EP X pins σ Q) _
  rw [if_neg (by simp), hlist]
  exact ⟨by show (z.cps.toList.reverse.toArray).size ≤ sizeLine; rw [List.size_toArray, List.length_reverse]; exact hz, .str _, H4, I5.tok _, ⟨_, rfl⟩, q⟩
end
end Fb

/-! The universal operations by data; defs of the text as they stand. -/
namespace Fb
open PySem PySem.Spec PyProof.Rows L2

theorem ux_addI {K : PySem.W.Frag} {i j : Int} : RX (rAddU K) (.int i) (.int j) (.int (i + j)) := .l rx_I
theorem ux_addS {K : PySem.W.Frag} {s u : Str} (h : s.length + u.length ≤ 100000) : RX (rAddU K) (.str s) (.str u) (.str (s ++ u)) := .r (.l (rx_addS h))
theorem ux_addL {K : PySem.W.Frag} {xs ys : List D} (h : xs.length + ys.length ≤ 100000) : RX (rAddU K) (.list xs) (.list ys) (.list (xs ++ ys)) := .r (.r (.l (rx_cat h)))
theorem ux_addT {K : PySem.W.Frag} {xs ys : List D} (h : xs.length + ys.length ≤ 100000) : RX (rAddU K) (.tuple xs) (.tuple ys) (.tuple (xs ++ ys)) := .r (.r (.r (rx_catT h)))
theorem rx_inT {K : PySem.W.Frag} {x : D} {ds : List D} (hx : SeqAt.shaped x = true) (hy : SeqAt.shaped (.tuple ds) = true) : RX (rInT K) x (.tuple ds) (.bool (ds.any fun z => PyData.eqv z x)) := fun a b G H gh ha hb Q q =>
  ⟨x, ds, (ha.mono gh).dp, (hb.mono gh).dp, hx, hy, q.here gh (.bl _)⟩
theorem rx_ninT {K : PySem.W.Frag} {x : D} {ds : List D} (hx : SeqAt.shaped x = true) (hy : SeqAt.shaped (.tuple ds) = true) : RX (rNotInT K) x (.tuple ds) (.bool (!ds.any fun z => PyData.eqv z x)) := fun a b G H gh ha hb Q q =>
  ⟨x, ds, (ha.mono gh).dp, (hb.mono gh).dp, hx, hy, q.here gh (.bl _)⟩
theorem rx_ninS {k : Nat} {s : Str} : RX rNotInS (.str ⟨#[k]⟩) (.str s) (.bool (!decide (k ∈ s.cps.toList))) := fun a b G H gh ha hb Q q => by
  cases ha; cases hb
  exact ⟨k, s, rfl, rfl, q.here gh (.bl _)⟩
theorem ux_inS {K : PySem.W.Frag} {k : Nat} {s : Str} : RX (rInU K) (.str ⟨#[k]⟩) (.str s) (.bool (decide (k ∈ s.cps.toList))) := .l rx_inS
theorem ux_inL {K : PySem.W.Frag} {x : D} {ds : List D} (hx : SeqAt.shaped x = true) (hy : SeqAt.shaped (.list ds) = true) : RX (rInU K) x (.list ds) (.bool (ds.any fun z => PyData.eqv z x)) := .r (.l (rx_in hx hy))
theorem ux_inT {K : PySem.W.Frag} {x : D} {ds : List D} (hx : SeqAt.shaped x = true) (hy : SeqAt.shaped (.tuple ds) = true) : RX (rInU K) x (.tuple ds) (.bool (ds.any fun z => PyData.eqv z x)) := .r (.r (rx_inT hx hy))
theorem ux_ninS {K : PySem.W.Frag} {k : Nat} {s : Str} : RX (rNinU K) (.str ⟨#[k]⟩) (.str s) (.bool (!decide (k ∈ s.cps.toList))) := .l rx_ninS
theorem ux_ninL {K : PySem.W.Frag} {x : D} {ds : List D} (hx : SeqAt.shaped x = true) (hy : SeqAt.shaped (.list ds) = true) : RX (rNinU K) x (.list ds) (.bool (!ds.any fun z => PyData.eqv z x)) := .r (.l (rx_nin hx hy))
theorem ux_ninT {K : PySem.W.Frag} {x : D} {ds : List D} (hx : SeqAt.shaped x = true) (hy : SeqAt.shaped (.tuple ds) = true) : RX (rNinU K) x (.tuple ds) (.bool (!ds.any fun z => PyData.eqv z x)) := .r (.r (rx_ninT hx hy))
theorem ux_mulI {K : PySem.W.Frag} {i j : Int} (h : IntMulOk i j) : RX (rMulU K) (.int i) (.int j) (.int (i * j)) := .l (rx_IC h)
theorem ux_mulL {K : PySem.W.Frag} {xs : List D} {k : Int} (h : -1000 ≤ k ∧ k ≤ 1000) (hl : xs.length ≤ 1000) : RX (rMulU K) (.list xs) (.int k) (.list (List.replicate k.toNat xs).flatten) := .r (.l (rx_rep h hl))
theorem ux_mulT {K : PySem.W.Frag} {xs : List D} {k : Int} (h : 2 ≤ k ∧ k ≤ 1000) (hl : xs.length ≤ 1000) (hn : xs ≠ []) : RX (rMulU K) (.tuple xs) (.int k) (.tuple (List.replicate k.toNat xs).flatten) := .r (.r (.l (rx_repT h hl hn)))
theorem ux_mulS {K : PySem.W.Frag} {z : Str} {n : Int} (h0 : 0 ≤ n) (h1 : n ≤ 1000) (h2 : z.length ≤ 1000) : RX (rMulU K) (.str z) (.int n) (.str (repS z n.toNat)) := .r (.r (.r fun a b G H gh ha hb Q q => by
  cases ha; cases hb
  exact ⟨z, n, rfl, rfl, h0, h1, h2, q.here gh (.str _)⟩))
theorem ux_ltI {K : PySem.W.Frag} {i j : Int} : RX (rLtU K) (.int i) (.int j) (.bool (decide (i < j))) := .l rx_B
theorem ux_gtI {K : PySem.W.Frag} {i j : Int} : RX (rGtU K) (.int i) (.int j) (.bool (decide (j < i))) := .l rx_B
theorem ux_gtD {K : PySem.W.Frag} {x y : D} (ha : PySem.W.alike x y = true) (hn : x ≠ .none) (hz : x.depth ≤ 60) : RX (rGtU K) x y (.bool (PySem.W.dataLt y x)) := .r (rx_gt ha hn hz)
theorem ux_ltD {K : PySem.W.Frag} {x y : D} (ha : PySem.W.alike x y = true) (hn : x ≠ .none) (hz : x.depth ≤ 60) : RX (rLtU K) x y (.bool (PySem.W.dataLt x y)) := .r (rx_lt ha hn hz)
/-- any kind of subscript -/
theorem ux_ixL {K : PySem.W.Frag} {ds : List D} {i : Int} {d : D} (h : atI ds i = some d) : RX (rIx K) (.list ds) (.int i) d := fun a b G H gh ha hb Q q => .inl (rx_ixL (K := K) h a b G H gh ha hb Q q)
theorem ux_ixT {K : PySem.W.Frag} {ds : List D} {i : Int} {d : D} (h : atI ds i = some d) : RX (rIx K) (.tuple ds) (.int i) d := fun a b G H gh ha hb Q q => .inr (.inl (rx_ixT (K := K) h a b G H gh ha hb Q q))
theorem ux_ixS {K : PySem.W.Frag} {s : Str} {i : Int} {k : Nat} (hl : s.length ≤ 100000) (h : atI s.cps.toList i = some k) : RX (rIx K) (.str s) (.int i) (.str ⟨#[k]⟩) := fun a b G H gh ha hb Q q => .inr (.inr (rx_ixS hl h a b G H gh ha hb Q q))
/-- any kind of slice -/
def rSlU (K : PySem.W.Frag) : V → Option Int → Option Int → Hp → VK → Prop := fun x lo hi H Q => rSlL K x lo hi H Q ∨ (rSlA K x lo hi H Q ∨ rSlS x lo hi H Q)
theorem sl_u {X : Cx} : SlR X (rSlU X.K) := sl_list.or (sl_tupA.or sl_str)
theorem us_list {K : PySem.W.Frag} {ds : List D} {lo hi : Option Int} : RS (rSlU K) (.list ds) lo hi (.list (cutD ds lo hi)) := fun a G H gh ha Q q => .inl (rs_list (K := K) a G H gh ha Q q)
theorem us_tup {K : PySem.W.Frag} {ds : List D} {lo hi : Option Int} : RS (rSlU K) (.tuple ds) lo hi (.tuple (cutD ds lo hi)) := fun a G H gh ha Q q => .inr (.inl (rs_tup (K := K) a G H gh ha Q q))
theorem us_str {K : PySem.W.Frag} {s : Str} {lo hi : Option Int} (hl : s.length ≤ 100000) : RS (rSlU K) (.str s) lo hi (.str (cutS s lo hi)) := fun a G H gh ha Q q => .inr (.inr (rs_str hl a G H gh ha Q q))

/-! ### walks of any kind -/
abbrev tior (w w' : TI) : TI := fun σ H R => w σ H R ∨ w' σ H R
theorem pi_or {X : Cx} {tg it : Expr} {w w' : TI} (h : PI X tg it w) (h' : PI X tg it w') : PI X tg it (tior w w') := ⟨fun pins s σ H R I q => by
  rcases q with q | q
  · exact h.run pins s σ H R I q
  · exact h'.run pins s σ H R I q⟩
/-- a list, a tuple, a text -/
def iAny (K : PySem.W.Frag) (te : TE) : TI := tior (iList K te) (tior (iTup K te) (iStr te))
def iEnumU (K : PySem.W.Frag) (ta : TA) : TI := tior (iEnum K ta) (tior (iEnumT K ta) (iEnumS ta))
section
variable {c : Cfg} {ρ ρ' ρ1 ρ2 ρ3 : Env} {ta tb tc te tl : TE} {tr : TA} {t u : TS} {tt : TT} {x y z d : D} {r : R2} {o : Out} {g : TG}
theorem ui_l {w w' : TI} {items : List D} (h : EvI c w ρ ρ1 items) : EvI c (tior w w') ρ ρ1 items := fun σ G H s R q => .inl (h σ G H s R q)
theorem ui_r {w w' : TI} {items : List D} (h : EvI c w' ρ ρ1 items) : EvI c (tior w w') ρ ρ1 items := fun σ G H s R q => .inr (h σ G H s R q)
theorem ui_list {ds : List D} (h : EvX c te ρ ρ1 (.list ds)) : EvI c (iAny c.K te) ρ ρ1 ds := ui_l (ei_list h)
theorem ui_tup {ds : List D} (h : EvX c te ρ ρ1 (.tuple ds)) : EvI c (iAny c.K te) ρ ρ1 ds := ui_r (ui_l (ei_tup h))
theorem ui_str {x : Str} (h : EvX c te ρ ρ1 (.str x)) : EvI c (iAny c.K te) ρ ρ1 (signs x) := ui_r (ui_r (ei_str h))
theorem ui_enumL {ds : List D} (h : EvA c tr ρ ρ1 [.list ds]) : EvI c (iEnumU c.K tr) ρ ρ1 (enum ds) := ui_l (ei_enumL h)
theorem ui_enumT {ds : List D} (h : EvA c tr ρ ρ1 [.tuple ds]) : EvI c (iEnumU c.K tr) ρ ρ1 (enum ds) := ui_r (ui_l (ei_enumT h))
theorem ui_enumS {x : Str} (h : EvA c tr ρ ρ1 [.str x]) : EvI c (iEnumU c.K tr) ρ ρ1 (enum (signs x)) := ui_r (ui_r (ei_enumS h))

/-! ### more expressions -/
theorem ev_revS {s : Str} (h : EvX c te ρ ρ1 (.str s)) (hl : s.length ≤ 100000) : EvX c (tRevS te) ρ ρ1 (.str (revS s)) := fun σ G H s Q q =>
  h σ G H s _ fun v G1 H1 g1 s1 i1 => by
    cases i1
    exact ⟨_, rfl, by rw [sizeLine_eq]; omega, q _ G1 H1 g1 s1 (.str _)⟩
theorem ev_revL {ds : List D} (h : EvX c te ρ ρ1 (.list ds)) : EvX c (tRevL c.K te) ρ ρ1 (.list ds.reverse) := fun σ G H s Q q =>
  h σ G H s _ fun v G1 H1 g1 s1 i1 => by
    cases i1 with
    | lst e is => exact ⟨_, _, rfl, .of (s1.gh _ _ e), fun p hp => (End1.of s1 fun v G2 H2 g2 s2 i2 => q v G2 H2 (g1.trans g2) s2 i2).lst s1.gh is.rev hp⟩
/-- a written dict of texts -/
theorem ev_kd {w : World} {p : Addr} {k z : Str} (h : EvX c te ρ ρ1 (.str k)) (kd : KDct c.K w p k (.str z)) : EvX c (tOp (rIxD c.K w) (tC (.ref p)) te) ρ ρ1 (.str z) := fun σ G H s Q q =>
  h σ G H s _ fun v G1 H1 g1 s1 i1 => by
    cases i1
    exact ⟨p, k, .str z, rfl, rfl, kd, q _ G1 H1 g1 s1 (.str _)⟩
/-- name op= e, the name's value data -/
theorem exs_aug {i : Nat} {ti : TIp} (h0 : ρ[i]? = some (.dat x)) (h : EvX c te ρ ρ1 y) (s : OwnSub ρ1 ρ) (hr : RX ti x y z) : ExS c (tAug i te ti) ρ (.next (ρ1.set i (.dat z))) := fun G0 H0 Dn σ G H r q => by
  obtain ⟨v, hv, iv⟩ := r.sit.var h0
  refine ⟨v, hv, h σ G H r.sit _ fun w G1 H1 g1 s1 i1 => ?_⟩
  refine hr v w G1 H1 s1.gh (iv.mono g1.gg) i1 _ fun v' G2 H2 p2 gh2 i2 => ?_
  have s2 := s1.pl p2 gh2
  exact q _ G2 H2 (g1.gg.trans p2.gg) ⟨s2.setDat i2, r.grow.trans (g1.trans p2.grow), fun k p ds e => by
    rcases getset e with ⟨_, e, _⟩ | ⟨_, e⟩
    · cases e
    · obtain ⟨j, es, e'⟩ := s k p ds e
      exact r.new j p es e'⟩
end
/-! ### further words of the printed readings -/
def rIaddU : TIp := r2or (rI0 fun i j => .int (i + j)) rAddS
theorem iop_addU {X : Cx} : PIp X .Add rIaddU := OpR.or iop_add iop_add_str
def rJoin (K : PySem.W.Frag) : V → List V → Hp → VK → Prop := fun x xs H Q => ∃ a p, ∃ ys : List Str, x = .str a ∧ xs = [.ref p] ∧ (SqL K H p (ys.map V.str) ∨ SqT K H p (ys.map V.str)) ∧ (ys.map (·.length)).sum + ys.length * a.length ≤ 16777216 ∧ Q (.str (Txt.join a ys)) H
def rAbs : List V → Hp → VK → Prop := fun xs H Q => ∃ i, xs = [.int i] ∧ Q (.int (if i < 0 then -i else i)) H
def rMax2 : List V → Hp → VK → Prop := fun xs H Q => ∃ i j, xs = [.int i, .int j] ∧ Q (.int (if j > i then j else i)) H
def rMin2 : List V → Hp → VK → Prop := fun xs H Q => ∃ i j, xs = [.int i, .int j] ∧ Q (.int (if j < i then j else i)) H
def rTupleOf (K : PySem.W.Frag) : List V → Hp → VK → Prop := fun xs H Q => ∃ p ys, xs = [.ref p] ∧ ((SqL K H p ys ∧ ∀ l, H l = none → Q (.ref l) (upd H l (.tup ys))) ∨ (SqT K H p ys ∧ Q (.ref p) H))
def rListOf (K : PySem.W.Frag) : List V → Hp → VK → Prop := fun xs H Q => ∃ p ys, xs = [.ref p] ∧ (SqL K H p ys ∨ SqT K H p ys) ∧ ∀ l, H l = none → Q (.ref l) (upd H l (.lst ys))
def rInt1 : List V → Hp → VK → Prop := fun xs H Q => (∃ i, xs = [.int i] ∧ Q (.int i) H) ∨ ∃ k, xs = [.bl k] ∧ Q (.int (if k then 1 else 0)) H
def tRevU (K : PySem.W.Frag) (te : TE) : TE := fun σ H Q => tRevS te σ H Q ∨ tRevL K te σ H Q
theorem pe_revU {X : Cx} {e : Expr} {te : TE} {k : Nat} {p1 p2 p3 pos : Pos} (he : PE X e te) : PE X (.Subscript e (.Slice none none (some (.UnaryOp .USub (.Constant (.int 1) k p1) p2)) p3) pos) (tRevU X.K te) := ⟨fun pins s σ H Q I q => by
  rcases q with q | q
  · exact (pe_revS he).run pins s σ H Q I q
  · exact (pe_revL he).run pins s σ H Q I q⟩
theorem pi_any {X : Cx} {tg e : Expr} {te : TE} (he : PE X e te) : PI X tg e (iAny X.K te) := pi_or (pi_list he) (pi_or (pi_tup he) (pi_str he))
theorem pi_enumU {X : Cx} {e : Expr} {ta : TA} {p pos tpos : Pos} {elts : List Expr} {kk : Nat} (hg : Gl X "enumerate") (hm : X.mg "enumerate" = none) (ha : PA X [e] ta) (hs : starEach [e] X.env = [(false, eval e X.env)] := by rfl) :
    PI X (.Tuple elts kk tpos) (.Call (.Name "enumerate" p) [e] [] pos) (iEnumU X.K ta) := pi_or (pi_enum hg hm ha hs) (pi_or (pi_enumT hg hm ha hs) (pi_enumS hg hm ha hs))
abbrev FnP (K : PySem.W.Frag) (x : Str) (st : Stmt) (f : Addr) (fd : FuncData) : Prop := FunD K x x (defArgs st) (defBody st) (defScope st) [] [] f fd
/-! ### a def of the text, its promise -/
def Has (P : Program) (w : World) (K : PySem.W.Frag) (mg : Str → Option Value) (base : Heap) (x : Str) (ps : List Str) (k : Nat) (sp : Sp) : Prop :=
  ∃ f fd, mg x = some (.ref f) ∧ PySem.W.keepIn K (.ref f) = true ∧ Binds K fd ps [] ∧ FnOk P w K mg base (L2N.CX P w) k f fd ps sp
theorem passN {X : Cx} : Passes (L2N.CX X.prog X.w) X E0 := fun _ _ _ _ _ _ _ h => by
  obtain ⟨_, _, _, _, _, _, _, _, _, _, _, _, z⟩ := h
  exact (show False from z).elim
theorem pe_callH {X : Cx} {x : Str} {ps : List Str} {k : Nat} {sp : Sp} {E : XK} {e : Expr} {es : List Expr} {t : TA} {p pos : Pos} (h : Has X.prog X.w X.K X.mg X.base x ps k sp) (hr : Room k X.A) (hx : Passes (L2N.CX X.prog X.w) X E) (ha : PA X (e :: es) t) (hg : Gl X x := by rfl)
    (hdb : (x == ("__debug__" : Str)) = false := by decide) (he : starEach (e :: es) X.env = (false, eval e X.env) :: starEach es X.env := by rfl) (hpl : (backTo pos (starEach es X.env)).any (·.1) = false := by rfl) :
    PE X (.Call (.Name x p) (e :: es) [] pos) (tCall sp [] E t) := by
  obtain ⟨f, fd, h1, h2, h3, h4⟩ := h
  exact pe_call h4 hr hg h1 h2 h3 .nil hx ha hdb he hpl
end Fb

/-! Mirrors of the program's defs in plain Lean; how their values stand as data. -/
namespace Fb
open PySem PySem.Spec PyProof.Rows L2

/-! ### how values stand as data -/
structure Good {α : Type} [DecidableEq α] (enc : α → D) (ok : α → Prop) (k : Nat) : Prop where
  eqv : ∀ a b, PyData.eqv (enc a) (enc b) = decide (a = b)
  lay : ∀ a, ok a → (enc a).canLay0 = true
  dep : ∀ a, (enc a).depth ≤ k
abbrev All1 {α : Type} : α → Prop := fun _ => True
theorem beq_dec {α : Type} [BEq α] [LawfulBEq α] [DecidableEq α] (a b : α) : (a == b) = decide (a = b) := by
  rw [Bool.eq_iff_iff, beq_iff_eq, decide_eq_true_eq]
section
variable {α β : Type} [DecidableEq α] [DecidableEq β] {enc : α → D} {enc2 : β → D} {ok : α → Prop} {ok2 : β → Prop} {k j : Nat}
theorem Good.inj (g : Good enc ok k) {a b : α} (h : enc a = enc b) : a = b := by
  have := g.eqv a b
  rw [h, g.eqv b b] at this
  simpa using this.symm
theorem Good.shaped (g : Good enc ok k) (hk : k ≤ 64) (a : α) (o : ok a) : SeqAt.shaped (enc a) = true := by
  unfold SeqAt.shaped
  rw [g.lay a o, decide_eq_true (Nat.le_trans (g.dep a) hk)]
  rfl
theorem Good.any (g : Good enc ok k) (xs : List α) (x : α) : ((xs.map enc).any fun d => PyData.eqv d (enc x)) = decide (x ∈ xs) := by
  rw [List.any_map, Bool.eq_iff_iff, List.any_eq_true, decide_eq_true_eq]
  constructor
  · rintro ⟨y, hy, e⟩
    have e' : PyData.eqv (enc y) (enc x) = true := e
    rw [g.eqv, decide_eq_true_eq] at e'
    exact e' ▸ hy
  · intro hx
    refine ⟨x, hx, ?_⟩
    show PyData.eqv (enc x) (enc x) = true
    rw [g.eqv, decide_eq_true_eq]
theorem good_int : Good (fun i : Int => PyData.int i) All1 0 := ⟨fun a b => by simp only [PyData.eqv]; exact beq_dec a b, fun _ _ => by simp only [PyData.canLay0], fun _ => Nat.le_refl _⟩
theorem good_bool : Good (fun i : Bool => PyData.bool i) All1 0 := ⟨fun a b => by simp only [PyData.eqv]; exact beq_dec a b, fun _ _ => by simp only [PyData.canLay0], fun _ => Nat.le_refl _⟩
theorem good_str : Good (fun i : Str => PyData.str i) (fun i => PySem.PyData.strOk i = true) 0 := ⟨fun a b => by simp only [PyData.eqv]; exact beq_dec a b, fun _ h => by simp only [PyData.canLay0]; exact h, fun _ => Nat.le_refl _⟩
theorem Good.comp {f : β → α} (g : Good enc ok k) (hf : ∀ a b, f a = f b → a = b) : Good (fun b => enc (f b)) (fun b => ok (f b)) k := ⟨fun a b => by
  rw [g.eqv]
  exact decide_eq_decide.mpr ⟨hf a b, fun e => by rw [e]⟩, fun a h => g.lay _ h, fun a => g.dep _⟩
theorem Good.weak {ok' : α → Prop} (g : Good enc ok k) (h : ∀ a, ok' a → ok a) : Good enc ok' k := ⟨g.eqv, fun a o => g.lay a (h a o), g.dep⟩
theorem Good.lays (g : Good enc ok k) : ∀ xs : List α, (∀ x ∈ xs, ok x) → PyData.canLayAll0 (xs.map enc) = true
  | [], _ => by simp only [List.map_nil, PyData.canLayAll0]
  | x :: xs, h => by rw [List.map_cons, PyData.canLayAll0, g.lay x (h x List.mem_cons_self), g.lays xs fun y hy => h y (List.mem_cons_of_mem _ hy)]; rfl
theorem Good.deps (g : Good enc ok k) : ∀ xs : List α, PyData.depthAll (xs.map enc) ≤ k
  | [] => Nat.zero_le _
  | x :: xs => by
    rw [List.map_cons, PyData.depthAll]
    exact Nat.max_le.mpr ⟨g.dep x, g.deps xs⟩
theorem Good.eqvs (g : Good enc ok k) : ∀ xs ys : List α, PyData.eqvAll (xs.map enc) (ys.map enc) = decide (xs = ys)
  | [], [] => by simp only [List.map_nil, PyData.eqvAll, decide_true]
  | [], _ :: _ => by simp [PyData.eqvAll]
  | _ :: _, [] => by simp [PyData.eqvAll]
  | x :: xs, y :: ys => by
    rw [List.map_cons, List.map_cons, PyData.eqvAll, g.eqv x y, g.eqvs xs ys, ← Bool.decide_and]
    exact decide_eq_decide.mpr (by rw [List.cons.injEq])
abbrev Ev {α : Type} (ok : α → Prop) : List α → Prop := fun xs => ∀ x ∈ xs, ok x
theorem good_tup (g : Good enc ok k) : Good (fun xs : List α => PyData.tuple (xs.map enc)) (Ev ok) (k + 1) := ⟨fun xs ys => by simp only [PyData.eqv]; exact g.eqvs xs ys, fun xs h => by simp only [PyData.canLay0]; exact g.lays xs h, fun xs => by simp only [PyData.depth]; exact Nat.succ_le_succ (g.deps xs)⟩
theorem good_lst (g : Good enc ok k) : Good (fun xs : List α => PyData.list (xs.map enc)) (Ev ok) (k + 1) := ⟨fun xs ys => by simp only [PyData.eqv]; exact g.eqvs xs ys, fun xs h => by simp only [PyData.canLay0]; exact g.lays xs h, fun xs => by simp only [PyData.depth]; exact Nat.succ_le_succ (g.deps xs)⟩
theorem good_pair (g : Good enc ok k) (h : Good enc2 ok2 j) : Good (fun p : α × β => PyData.tuple [enc p.1, enc2 p.2]) (fun p => ok p.1 ∧ ok2 p.2) (max k j + 1) := ⟨fun p q => by
  simp only [PyData.eqv, PyData.eqvAll]
  rw [g.eqv, h.eqv, Bool.and_true, ← Bool.decide_and]
  exact decide_eq_decide.mpr ⟨fun e => Prod.ext e.1 e.2, fun e => by rw [e]; exact ⟨rfl, rfl⟩⟩, fun p o => by
  simp only [PyData.canLay0, PyData.canLayAll0, g.lay _ o.1, h.lay _ o.2, Bool.and_self], fun p => by
  simp only [PyData.depth, PyData.depthAll]
  exact Nat.succ_le_succ (Nat.max_le.mpr ⟨Nat.le_trans (g.dep p.1) (Nat.le_max_left _ _), Nat.max_le.mpr ⟨Nat.le_trans (h.dep p.2) (Nat.le_max_right _ _), Nat.zero_le _⟩⟩)⟩
/-! operations on such -/
theorem gx_eq {K : PySem.W.Frag} (g : Good enc ok k) (hk : k ≤ 64) {a b : α} (oa : ok a) (ob : ok b) : RX (rEqD K) (enc a) (enc b) (.bool (decide (a = b))) := by
  have := rx_eq (K := K) (g.shaped hk a oa) (g.shaped hk b ob)
  rwa [g.eqv] at this
theorem gx_ne {K : PySem.W.Frag} (g : Good enc ok k) (hk : k ≤ 64) {a b : α} (oa : ok a) (ob : ok b) : RX (rNeD K) (enc a) (enc b) (.bool (!decide (a = b))) := by
  have := rx_ne (K := K) (g.shaped hk a oa) (g.shaped hk b ob)
  rwa [g.eqv] at this
theorem gx_inL {K : PySem.W.Frag} (g : Good enc ok k) (hk : k < 64) {a : α} {xs : List α} (oa : ok a) (ob : Ev ok xs) : RX (rInU K) (enc a) (.list (xs.map enc)) (.bool (decide (a ∈ xs))) := by
  have := ux_inL (K := K) (g.shaped (by omega) a oa) ((good_lst g).shaped (by omega) xs ob)
  rwa [g.any] at this
theorem gx_inT {K : PySem.W.Frag} (g : Good enc ok k) (hk : k < 64) {a : α} {xs : List α} (oa : ok a) (ob : Ev ok xs) : RX (rInU K) (enc a) (.tuple (xs.map enc)) (.bool (decide (a ∈ xs))) := by
  have := ux_inT (K := K) (g.shaped (by omega) a oa) ((good_tup g).shaped (by omega) xs ob)
  rwa [g.any] at this
theorem gx_ninL {K : PySem.W.Frag} (g : Good enc ok k) (hk : k < 64) {a : α} {xs : List α} (oa : ok a) (ob : Ev ok xs) : RX (rNinU K) (enc a) (.list (xs.map enc)) (.bool (!decide (a ∈ xs))) := by
  have := ux_ninL (K := K) (g.shaped (by omega) a oa) ((good_lst g).shaped (by omega) xs ob)
  rwa [g.any] at this
theorem gx_ninT {K : PySem.W.Frag} (g : Good enc ok k) (hk : k < 64) {a : α} {xs : List α} (oa : ok a) (ob : Ev ok xs) : RX (rNinU K) (enc a) (.tuple (xs.map enc)) (.bool (!decide (a ∈ xs))) := by
  have := ux_ninT (K := K) (g.shaped (by omega) a oa) ((good_tup g).shaped (by omega) xs ob)
  rwa [g.any] at this
end
theorem gx_eqI {K : PySem.W.Frag} {i j : Int} : RX (rEqD K) (.int i) (.int j) (.bool (decide (i = j))) := gx_eq good_int (by decide) trivial trivial
theorem gx_neI {K : PySem.W.Frag} {i j : Int} : RX (rNeD K) (.int i) (.int j) (.bool (!decide (i = j))) := gx_ne good_int (by decide) trivial trivial
theorem gx_eqB {K : PySem.W.Frag} {i j : Bool} : RX (rEqD K) (.bool i) (.bool j) (.bool (decide (i = j))) := gx_eq good_bool (by decide) trivial trivial
theorem gx_neB {K : PySem.W.Frag} {i j : Bool} : RX (rNeD K) (.bool i) (.bool j) (.bool (!decide (i = j))) := gx_ne good_bool (by decide) trivial trivial

/-! ### boards -/
abbrev Bd := List (List Nat)
abbrev Cl := Nat × Nat
def tx (r : List Nat) : Str := ⟨r.toArray⟩
def dR (r : List Nat) : D := .str (tx r)
def dB (b : Bd) : D := .tuple (b.map dR)
def dC (c : Cl) : D := .tuple [.int c.1, .int c.2]
theorem tx_list (r : List Nat) : (tx r).cps.toList = r := rfl
theorem tx_len (r : List Nat) : (tx r).length = r.length := by show r.toArray.size = r.length; simp
theorem tx_inj {r u : List Nat} (h : tx r = tx u) : r = u := by rw [← tx_list r, h]; rfl
theorem tx_of (s : Str) : tx s.cps.toList = s := by cases s; rfl
abbrev okR (r : List Nat) : Prop := PySem.PyData.strOk (tx r) = true
theorem good_row : Good dR okR 0 := good_str.comp (f := tx) fun _ _ => tx_inj
theorem good_bd : Good dB (Ev okR) 1 := good_tup good_row
theorem good_cl : Good dC All1 1 := (good_pair (good_int.comp (f := fun n : Nat => (n : Int)) fun _ _ h => Int.ofNat.inj h) (good_int.comp (f := fun n : Nat => (n : Int)) fun _ _ h => Int.ofNat.inj h)).weak fun _ _ => ⟨trivial, trivial⟩
/-- a sign: free ice 35, free water 46, frozen ice 42, frozen water 111 -/
abbrev isSign (k : Nat) : Bool := k == 35 || k == 46 || k == 42 || k == 111
abbrev isFree (k : Nat) : Bool := k == 35 || k == 46
abbrev isStone (k : Nat) : Bool := k == 42 || k == 111
abbrev isIce (k : Nat) : Bool := k == 35 || k == 42
abbrev hgt (b : Bd) : Nat := b.length
abbrev wid (b : Bd) : Nat := (b.headD []).length
structure Wf (b : Bd) : Prop where
  h1 : 1 ≤ b.length
  h4 : b.length ≤ 4
  w1 : 1 ≤ wid b
  w4 : wid b ≤ 4
  le : wid b * b.length ≤ 12
  rows : ∀ r ∈ b, r.length = wid b ∧ ∀ k ∈ r, isSign k = true
instance (b : Bd) : Decidable (Wf b) :=
  if h : 1 ≤ b.length ∧ b.length ≤ 4 ∧ 1 ≤ wid b ∧ wid b ≤ 4 ∧ wid b * b.length ≤ 12 ∧ ∀ r ∈ b, r.length = wid b ∧ ∀ k ∈ r, isSign k = true
  then .isTrue ⟨h.1, h.2.1, h.2.2.1, h.2.2.2.1, h.2.2.2.2.1, h.2.2.2.2.2⟩
  else .isFalse fun w => h ⟨w.h1, w.h4, w.w1, w.w4, w.le, w.rows⟩
def sgn (b : Bd) (p : Cl) : Nat := (b.getD p.1 []).getD p.2 0
def iceAt (b : Bd) (p : Cl) : Bool := isIce (sgn b p)
/-- neighbours within h rows, w columns, in the program's order -/
def nb (h w : Nat) (p : Cl) : List Cl :=
  (if 1 ≤ p.1 then [(p.1 - 1, p.2)] else []) ++ (if 1 ≤ p.2 then [(p.1, p.2 - 1)] else []) ++ (if p.2 + 1 < w then [(p.1, p.2 + 1)] else []) ++ (if p.1 + 1 < h then [(p.1 + 1, p.2)] else [])
def nextAt (b : Bd) (p : Cl) : Nat :=
  let s := sgn b p
  if isStone s then s else
    let ns := nb (hgt b) (wid b) p
    let k := ns.countP fun q => iceAt b q
    if 2 * k = ns.length then s else if ns.length < 2 * k then 35 else 46
def tick (b : Bd) : Bd := (List.range (hgt b)).map fun r => (List.range (wid b)).map fun c => nextAt b (r, c)
def later : Nat → Bd → Bd
  | 0, b => b
  | n + 1, b => later n (tick b)
def freeRow (r : Nat) (row : List Nat) : List Cl := ((List.range row.length).filter fun c => isFree (row.getD c 0)).map fun c => (r, c)
def freeFrom : Nat → Bd → List Cl
  | _, [] => []
  | r, row :: rest => freeRow r row ++ freeFrom (r + 1) rest
def free (b : Bd) : List Cl := freeFrom 0 b
def other (k : Nat) : Nat := if k = 35 then 46 else if k = 46 then 35 else if k = 42 then 111 else 42
def exch (b : Bd) : Bd := b.map fun r => r.map other
def drawRow (some : List Cl) (r : Nat) (row : List Nat) : List Nat := (List.range row.length).map fun c => if isStone (row.getD c 0) then row.getD c 0 else if (r, c) ∈ some then 35 else 46
def drawn (b : Bd) (some : List Cl) : Bd := (List.range (hgt b)).map fun r => drawRow some r (b.getD r [])
def allIce (b : Bd) : Bd := drawn b (free b)
def settled (b : Bd) (n : Nat) : Prop := tick (later n b) = later n b ∨ tick (tick (later n b)) = later n b
instance (b : Bd) (n : Nat) : Decidable (settled b n) := inferInstanceAs (Decidable (_ ∨ _))
/-- it settles after n ticks, no sooner -/
structure Fate (b : Bd) (n : Nat) : Prop where
  at_ : settled b n
  no : ∀ m, m < n → ¬ settled b m
def per (b : Bd) (n : Nat) : Nat := if tick (later n b) = later n b then 1 else 2
def tens (b : Bd) : Nat :=
  ((List.range (hgt b)).map fun r => ((List.range (wid b)).map fun c => (nb (hgt b) (wid b) (r, c)).countP fun q => iceAt b q != iceAt (tick b) (r, c)).sum).sum
/-- the free cells that stood as at the start at each of the first i ticks -/
def kept (b : Bd) : Nat → List Cl
  | 0 => free b
  | i + 1 => (kept b i).filter fun c => decide (iceAt (later (i + 1) b) c = iceAt b c)
def never (b : Bd) (n : Nat) : List Cl := kept b (n + 2)
end Fb

/-! What each def of the program promises. -/
namespace Fb
open PySem PySem.Spec PyProof.Rows L2
def smallS : D → Prop
  | .str s => s.length ≤ 1000
  | _ => True
def smallB : D → Prop
  | .tuple ds => ds.length ≤ 1000 ∧ ∀ d ∈ ds, smallS d
  | _ => True
def isRowD : D → Int → Bool
  | .str s, n => decide ((s.length : Int) = n) && s.cps.toList.all fun k => isSign k
  | _, _ => false
def isBoardD : D → Bool
  | .tuple (.str s :: ds) => decide (ds.length + 1 ≤ 4) && (decide (1 ≤ s.length) && decide (s.length ≤ 4)) && decide (s.length * (ds.length + 1) ≤ 12) && (.str s :: ds : List D).all fun d => isRowD d s.length
  | _ => false
def P_is_row (K : PySem.W.Frag) (ds : List D) (r : Rz) : Prop := ∃ v n, ds = [v, .int n] ∧ smallS v ∧ r = .inl (.bool (isRowD v n))
def P_is_board (K : PySem.W.Frag) (ds : List D) (r : Rz) : Prop := ∃ v, ds = [v] ∧ smallB v ∧ r = .inl (.bool (isBoardD v))
def P_need_board (K : PySem.W.Frag) (ds : List D) (r : Rz) : Prop := ∃ v, ds = [v] ∧ smallB v ∧ r = if isBoardD v = true then .inl .none else .inr (He.ga K "InvalidBoard")
def P_free_cells (K : PySem.W.Frag) (ds : List D) (r : Rz) : Prop := ∃ b, ds = [dB b] ∧ Wf b ∧ r = .inl (.list ((free b).map dC))
def P_neighbours (K : PySem.W.Frag) (ds : List D) (r : Rz) : Prop := ∃ b p, ds = [dB b, dC p] ∧ Wf b ∧ p.1 < hgt b ∧ p.2 < wid b ∧ r = .inl (.list ((nb (hgt b) (wid b) p).map dC))
def P_ice_at (K : PySem.W.Frag) (ds : List D) (r : Rz) : Prop := ∃ b p, ds = [dB b, dC p] ∧ Wf b ∧ p.1 < hgt b ∧ p.2 < wid b ∧ r = .inl (.bool (iceAt b p))
def P_next_sign (K : PySem.W.Frag) (ds : List D) (r : Rz) : Prop := ∃ b p, ds = [dB b, .int (p.1 : Nat), .int (p.2 : Nat)] ∧ Wf b ∧ p.1 < hgt b ∧ p.2 < wid b ∧ r = .inl (dR [nextAt b p])
def P_ticked (K : PySem.W.Frag) (ds : List D) (r : Rz) : Prop := ∃ b, ds = [dB b] ∧ Wf b ∧ r = .inl (dB (tick b))
/-- a def that asks for a board first: on a board z, on anything else an exception -/
def Asks (K : PySem.W.Frag) (ds : List D) (r : Rz) (z : Bd → D → Prop) : Prop := ∃ v, ds = [v] ∧ smallB v ∧ ((isBoardD v = false ∧ r = .inr (He.ga K "InvalidBoard")) ∨ ∃ b d, v = dB b ∧ Wf b ∧ z b d ∧ r = .inl d)
def P_step (K : PySem.W.Frag) (ds : List D) (r : Rz) : Prop := Asks K ds r fun b d => d = dB (tick b)
def P_exchanged (K : PySem.W.Frag) (ds : List D) (r : Rz) : Prop := Asks K ds r fun b d => d = dB (exch b)
def P_is_still (K : PySem.W.Frag) (ds : List D) (r : Rz) : Prop := Asks K ds r fun b d => d = .bool (decide (tick b = b))
def dF (b : Bd) (n : Nat) : D := .tuple [.int (n : Nat), .int (per b n : Nat)]
def P_fate_of (K : PySem.W.Frag) (ds : List D) (r : Rz) : Prop := ∃ b n, ds = [dB b] ∧ Wf b ∧ Fate b n ∧ n ≤ 1000 ∧ r = .inl (dF b n)
def P_fate (K : PySem.W.Frag) (ds : List D) (r : Rz) : Prop := Asks K ds r fun b d => ∃ n, Fate b n ∧ n ≤ 1000 ∧ d = dF b n
def P_tension (K : PySem.W.Frag) (ds : List D) (r : Rz) : Prop := Asks K ds r fun b d => d = .int (tens b : Nat)
def P_never_change (K : PySem.W.Frag) (ds : List D) (r : Rz) : Prop := Asks K ds r fun b d => ∃ n, Fate b n ∧ n ≤ 1000 ∧ d = .tuple ((never b n).map dC)
def P_later (K : PySem.W.Frag) (ds : List D) (r : Rz) : Prop := ∃ b n, ds = [dB b, .int (n : Nat)] ∧ Wf b ∧ n ≤ 100000 ∧ r = .inl (dB (later n b))
/-- a list or a tuple of cells -/
def CellsD (d : D) (cs : List Cl) : Prop := d = .list (cs.map dC) ∨ d = .tuple (cs.map dC)
def P_drawn (K : PySem.W.Frag) (ds : List D) (r : Rz) : Prop := ∃ b d cs, ds = [dB b, d] ∧ CellsD d cs ∧ Wf b ∧ r = .inl (dB (drawn b cs))
def P_all_ice (K : PySem.W.Frag) (ds : List D) (r : Rz) : Prop := ∃ b, ds = [dB b] ∧ Wf b ∧ r = .inl (dB (allIce b))
def P_need_small (K : PySem.W.Frag) (ds : List D) (r : Rz) : Prop := ∃ b, ds = [dB b] ∧ Wf b ∧ r = if (free b).length ≤ 9 then .inl .none else .inr (He.ga K "TooLarge")
theorem len1 {K : PySem.W.Frag} {ds : List D} {r : Rz} {z : Bd → D → Prop} (h : Asks K ds r z) : ds.length = 1 := by
  obtain ⟨v, rfl, _⟩ := h
  rfl
section
variable {K : PySem.W.Frag} {vs : List V} {H : Hp} {Q : VK} {E : XK}
theorem len_is_row (h : spF (P_is_row K) vs H Q E) : vs.length = 2 := spF_len (fun ds r p => by unfold P_is_row at p; first | (obtain ⟨_, _, _, e, _⟩ := p; rw [e]; done) | (obtain ⟨_, _, e, _⟩ := p; rw [e]; done) | (obtain ⟨_, e, _⟩ := p; rw [e]; done) | (obtain ⟨_, _, _, e, _⟩ := p; rw [e]; rfl) | (obtain ⟨_, _, e, _⟩ := p; rw [e]; rfl) | (obtain ⟨_, e, _⟩ := p; rw [e]; rfl)) h
theorem len_is_board (h : spF (P_is_board K) vs H Q E) : vs.length = 1 := spF_len (fun ds r p => by unfold P_is_board at p; first | (obtain ⟨_, _, _, e, _⟩ := p; rw [e]; done) | (obtain ⟨_, _, e, _⟩ := p; rw [e]; done) | (obtain ⟨_, e, _⟩ := p; rw [e]; done) | (obtain ⟨_, _, _, e, _⟩ := p; rw [e]; rfl) | (obtain ⟨_, _, e, _⟩ := p; rw [e]; rfl) | (obtain ⟨_, e, _⟩ := p; rw [e]; rfl)) h
theorem len_need_board (h : spF (P_need_board K) vs H Q E) : vs.length = 1 := spF_len (fun ds r p => by unfold P_need_board at p; first | (obtain ⟨_, _, _, e, _⟩ := p; rw [e]; done) | (obtain ⟨_, _, e, _⟩ := p; rw [e]; done) | (obtain ⟨_, e, _⟩ := p; rw [e]; done) | (obtain ⟨_, _, _, e, _⟩ := p; rw [e]; rfl) | (obtain ⟨_, _, e, _⟩ := p; rw [e]; rfl) | (obtain ⟨_, e, _⟩ := p; rw [e]; rfl)) h
theorem len_free_cells (h : spF (P_free_cells K) vs H Q E) : vs.length = 1 := spF_len (fun ds r p => by unfold P_free_cells at p; first | (obtain ⟨_, _, _, e, _⟩ := p; rw [e]; done) | (obtain ⟨_, _, e, _⟩ := p; rw [e]; done) | (obtain ⟨_, e, _⟩ := p; rw [e]; done) | (obtain ⟨_, _, _, e, _⟩ := p; rw [e]; rfl) | (obtain ⟨_, _, e, _⟩ := p; rw [e]; rfl) | (obtain ⟨_, e, _⟩ := p; rw [e]; rfl)) h
theorem len_neighbours (h : spF (P_neighbours K) vs H Q E) : vs.length = 2 := spF_len (fun ds r p => by unfold P_neighbours at p; first | (obtain ⟨_, _, _, e, _⟩ := p; rw [e]; done) | (obtain ⟨_, _, e, _⟩ := p; rw [e]; done) | (obtain ⟨_, e, _⟩ := p; rw [e]; done) | (obtain ⟨_, _, _, e, _⟩ := p; rw [e]; rfl) | (obtain ⟨_, _, e, _⟩ := p; rw [e]; rfl) | (obtain ⟨_, e, _⟩ := p; rw [e]; rfl)) h
theorem len_ice_at (h : spF (P_ice_at K) vs H Q E) : vs.length = 2 := spF_len (fun ds r p => by unfold P_ice_at at p; first | (obtain ⟨_, _, _, e, _⟩ := p; rw [e]; done) | (obtain ⟨_, _, e, _⟩ := p; rw [e]; done) | (obtain ⟨_, e, _⟩ := p; rw [e]; done) | (obtain ⟨_, _, _, e, _⟩ := p; rw [e]; rfl) | (obtain ⟨_, _, e, _⟩ := p; rw [e]; rfl) | (obtain ⟨_, e, _⟩ := p; rw [e]; rfl)) h
theorem len_next_sign (h : spF (P_next_sign K) vs H Q E) : vs.length = 3 := spF_len (fun ds r p => by unfold P_next_sign at p; first | (obtain ⟨_, _, _, e, _⟩ := p; rw [e]; done) | (obtain ⟨_, _, e, _⟩ := p; rw [e]; done) | (obtain ⟨_, e, _⟩ := p; rw [e]; done) | (obtain ⟨_, _, _, e, _⟩ := p; rw [e]; rfl) | (obtain ⟨_, _, e, _⟩ := p; rw [e]; rfl) | (obtain ⟨_, e, _⟩ := p; rw [e]; rfl)) h
theorem len_ticked (h : spF (P_ticked K) vs H Q E) : vs.length = 1 := spF_len (fun ds r p => by unfold P_ticked at p; first | (obtain ⟨_, _, _, e, _⟩ := p; rw [e]; done) | (obtain ⟨_, _, e, _⟩ := p; rw [e]; done) | (obtain ⟨_, e, _⟩ := p; rw [e]; done) | (obtain ⟨_, _, _, e, _⟩ := p; rw [e]; rfl) | (obtain ⟨_, _, e, _⟩ := p; rw [e]; rfl) | (obtain ⟨_, e, _⟩ := p; rw [e]; rfl)) h
theorem len_fate_of (h : spF (P_fate_of K) vs H Q E) : vs.length = 1 := spF_len (fun ds r p => by unfold P_fate_of at p; first | (obtain ⟨_, _, _, e, _⟩ := p; rw [e]; done) | (obtain ⟨_, _, e, _⟩ := p; rw [e]; done) | (obtain ⟨_, e, _⟩ := p; rw [e]; done) | (obtain ⟨_, _, _, e, _⟩ := p; rw [e]; rfl) | (obtain ⟨_, _, e, _⟩ := p; rw [e]; rfl) | (obtain ⟨_, e, _⟩ := p; rw [e]; rfl)) h
theorem len_later (h : spF (P_later K) vs H Q E) : vs.length = 2 := spF_len (fun ds r p => by unfold P_later at p; first | (obtain ⟨_, _, _, e, _⟩ := p; rw [e]; done) | (obtain ⟨_, _, e, _⟩ := p; rw [e]; done) | (obtain ⟨_, e, _⟩ := p; rw [e]; done) | (obtain ⟨_, _, _, e, _⟩ := p; rw [e]; rfl) | (obtain ⟨_, _, e, _⟩ := p; rw [e]; rfl) | (obtain ⟨_, e, _⟩ := p; rw [e]; rfl)) h
theorem len_all_ice (h : spF (P_all_ice K) vs H Q E) : vs.length = 1 := spF_len (fun ds r p => by unfold P_all_ice at p; first | (obtain ⟨_, _, _, e, _⟩ := p; rw [e]; done) | (obtain ⟨_, _, e, _⟩ := p; rw [e]; done) | (obtain ⟨_, e, _⟩ := p; rw [e]; done) | (obtain ⟨_, _, _, e, _⟩ := p; rw [e]; rfl) | (obtain ⟨_, _, e, _⟩ := p; rw [e]; rfl) | (obtain ⟨_, e, _⟩ := p; rw [e]; rfl)) h
theorem len_need_small (h : spF (P_need_small K) vs H Q E) : vs.length = 1 := spF_len (fun ds r p => by unfold P_need_small at p; first | (obtain ⟨_, _, _, e, _⟩ := p; rw [e]; done) | (obtain ⟨_, _, e, _⟩ := p; rw [e]; done) | (obtain ⟨_, e, _⟩ := p; rw [e]; done) | (obtain ⟨_, _, _, e, _⟩ := p; rw [e]; rfl) | (obtain ⟨_, _, e, _⟩ := p; rw [e]; rfl) | (obtain ⟨_, e, _⟩ := p; rw [e]; rfl)) h
theorem len_drawn (h : spF (P_drawn K) vs H Q E) : vs.length = 2 := spF_len (fun ds r p => by unfold P_drawn at p; first | (obtain ⟨_, _, _, e, _⟩ := p; rw [e]; done) | (obtain ⟨_, _, e, _⟩ := p; rw [e]; done) | (obtain ⟨_, e, _⟩ := p; rw [e]; done) | (obtain ⟨_, _, _, e, _⟩ := p; rw [e]; rfl) | (obtain ⟨_, _, e, _⟩ := p; rw [e]; rfl) | (obtain ⟨_, e, _⟩ := p; rw [e]; rfl)) h
theorem len_step (h : spF (P_step K) vs H Q E) : vs.length = 1 := spF_len (fun ds r p => len1 p) h
theorem len_exchanged (h : spF (P_exchanged K) vs H Q E) : vs.length = 1 := spF_len (fun ds r p => len1 p) h
theorem len_is_still (h : spF (P_is_still K) vs H Q E) : vs.length = 1 := spF_len (fun ds r p => len1 p) h
theorem len_fate (h : spF (P_fate K) vs H Q E) : vs.length = 1 := spF_len (fun ds r p => len1 p) h
theorem len_tension (h : spF (P_tension K) vs H Q E) : vs.length = 1 := spF_len (fun ds r p => len1 p) h
theorem len_never_change (h : spF (P_never_change K) vs H Q E) : vs.length = 1 := spF_len (fun ds r p => len1 p) h
end
end Fb

/-! The readings of the program's defs (printed by gen.py). -/
namespace Fb
open PySem PySem.Spec PyProof.Rows L2
abbrev N_is_row : List Str := ["value", "size", "sign"]
def t_is_row (K : PySem.W.Frag) (w : World) (E : XK) : TS := (tRet (tAndV (tCB (rIsi K) (tCons (tVar 0) (tCons (tC (.ty "str")) tNil))) (tAndV (tOp (rEqD K) (tCB (rLen K) (tCons (tVar 0) tNil)) (tVar 1)) (tCB (rAll K) (tCons (tLc (iAny K (tVar 0)) (gName 2) tYes (tOp (rInU K) (tVar 2) (tC (.str "#.*o"))) [2]) tNil)))))
abbrev N_is_board : List Str := ["value", "size", "one"]
def t_is_board (K : PySem.W.Frag) (w : World) (E : XK) : TS := (tSeq (tIfS (tOr (tNot (tB (tCB (rIsi K) (tCons (tVar 0) (tCons (tC (.ty "tuple")) tNil))))) (tOr (tNot (tTest (tChain (rI0 fun i j => .bl (decide (i ≤ j))) (rI0 fun i j => .bl (decide (i ≤ j))) (tC (.int 1)) (tCB (rLen K) (tCons (tVar 0) tNil)) (tC (.int 4))))) (tNot (tB (tCB (rIsi K) (tCons (tOp (rIx K) (tVar 0) (tC (.int 0))) (tCons (tC (.ty "str")) tNil))))))) (tRet (tC (.bl false))) tNext)
 (tSeq (tAsg (tCB (rLen K) (tCons (tOp (rIx K) (tVar 0) (tC (.int 0))) tNil)) (gName 1))
 (tSeq (tIfS (tOr (tNot (tTest (tChain (rI0 fun i j => .bl (decide (i ≤ j))) (rI0 fun i j => .bl (decide (i ≤ j))) (tC (.int 1)) (tVar 1) (tC (.int 4))))) (tTest (tOp (rGtU K) (tOp (rMulU K) (tVar 1) (tCB (rLen K) (tCons (tVar 0) tNil))) (tC (.int 12))))) (tRet (tC (.bl false))) tNext)
 (tRet (tCB (rAll K) (tCons (tLc (iAny K (tVar 0)) (gName 2) tYes (tCall (spF (P_is_row K)) [] E0 (tCons (tVar 2) (tCons (tVar 1) tNil))) [2]) tNil))))))
abbrev N_need_board : List Str := ["board"]
def t_need_board (K : PySem.W.Frag) (w : World) (E : XK) : TS := (tIfS (tNot (tB (tCall (spF (P_is_board K)) [] E (tCons (tVar 0) tNil)))) (tRaise (He.ga K "InvalidBoard") E) tNext)
abbrev N_neighbours : List Str := ["board", "cell", "some", "row", "column", "one", "other"]
def t_neighbours (K : PySem.W.Frag) (w : World) (E : XK) : TS := (tSeq (tAsg (tVar 1) (gTup K 2 (gCons (gName 3) (gCons (gName 4) gNil))))
 (tSeq (tAsg (tLst (tCons (tTup (tCons (tOp (rI0 fun i j => .int (i - j)) (tVar 3) (tC (.int 1))) (tCons (tVar 4) tNil))) (tCons (tTup (tCons (tVar 3) (tCons (tOp (rI0 fun i j => .int (i - j)) (tVar 4) (tC (.int 1))) tNil))) (tCons (tTup (tCons (tVar 3) (tCons (tOp (rAddU K) (tVar 4) (tC (.int 1))) tNil))) (tCons (tTup (tCons (tOp (rAddU K) (tVar 3) (tC (.int 1))) (tCons (tVar 4) tNil))) tNil))))) (gName 2))
 (tRet (tLc (iAny K (tVar 2)) (gTup K 2 (gCons (gName 5) (gCons (gName 6) gNil))) (tAnd (tTest (tChain (rI0 fun i j => .bl (decide (i ≤ j))) (rLtU K) (tC (.int 0)) (tVar 5) (tCB (rLen K) (tCons (tVar 0) tNil)))) (tTest (tChain (rI0 fun i j => .bl (decide (i ≤ j))) (rLtU K) (tC (.int 0)) (tVar 6) (tCB (rLen K) (tCons (tOp (rIx K) (tVar 0) (tC (.int 0))) tNil))))) (tTup (tCons (tVar 5) (tCons (tVar 6) tNil))) [5, 6]))))
abbrev N_ice_at : List Str := ["board", "cell"]
def t_ice_at (K : PySem.W.Frag) (w : World) (E : XK) : TS := (tRet (tOp (rInU K) (tOp (rIx K) (tOp (rIx K) (tVar 0) (tOp (rIx K) (tVar 1) (tC (.int 0)))) (tOp (rIx K) (tVar 1) (tC (.int 1)))) (tC (.str "#*"))))
abbrev N_next_sign : List Str := ["board", "row", "column", "sign", "some", "ice", "cell", "one"]
def t_next_sign (K : PySem.W.Frag) (w : World) (E : XK) : TS := (tSeq (tAsg (tOp (rIx K) (tOp (rIx K) (tVar 0) (tVar 1)) (tVar 2)) (gName 3))
 (tSeq (tIfS (tTest (tOp (rInU K) (tVar 3) (tC (.str "*o")))) (tRet (tVar 3)) tNext)
 (tSeq (tAsg (tLc (iAny K (tCall (spF (P_neighbours K)) [] E (tCons (tVar 0) (tCons (tTup (tCons (tVar 1) (tCons (tVar 2) tNil))) tNil)))) (gName 6) tYes (tCall (spF (P_ice_at K)) [] E0 (tCons (tVar 0) (tCons (tVar 6) tNil))) [6]) (gName 4))
 (tSeq (tAsg (tCB (rLen K) (tCons (tLc (iAny K (tVar 4)) (gName 7) (tB (tVar 7)) (tVar 7) [7]) tNil)) (gName 5))
 (tRet (tIf (tTest (tOp (rEqD K) (tOp (rMulU K) (tC (.int 2)) (tVar 5)) (tCB (rLen K) (tCons (tVar 4) tNil)))) (tVar 3) (tIf (tTest (tOp (rGtU K) (tOp (rMulU K) (tC (.int 2)) (tVar 5)) (tCB (rLen K) (tCons (tVar 4) tNil)))) (tC (.str "#")) (tC (.str ".")))))))))
abbrev N_ticked : List Str := ["board", "size", "row", "column"]
def t_ticked (K : PySem.W.Frag) (w : World) (E : XK) : TS := (tSeq (tAsg (tCB (rLen K) (tCons (tOp (rIx K) (tVar 0) (tC (.int 0))) tNil)) (gName 1))
 (tRet (tCB (rTupleOf K) (tCons (tLc (iRng1 (tCons (tCB (rLen K) (tCons (tVar 0) tNil)) tNil)) (gName 2) tYes (tM1 (rJoin K) (tC (.str "")) (tLc (iRng1 (tCons (tVar 1) tNil)) (gName 3) tYes (tCall (spF (P_next_sign K)) [] E0 (tCons (tVar 0) (tCons (tVar 2) (tCons (tVar 3) tNil)))) [3])) [2]) tNil))))
abbrev N_free_cells : List Str := ["board", "found", "number", "signs", "column", "sign"]
def t_free_cells (K : PySem.W.Frag) (w : World) (E : XK) : TS := (tSeq (tAsg (tLst tNil) (gName 1))
 (tSeq (tFor (iEnumU K (tCons (tVar 0) tNil)) (gTup K 2 (gCons (gName 2) (gCons (gName 3) gNil))) (tAsg (tOp (rAddU K) (tVar 1) (tLc (iEnumU K (tCons (tVar 3) tNil)) (gTup K 2 (gCons (gName 4) (gCons (gName 5) gNil))) (tTest (tOp (rInU K) (tVar 5) (tC (.str "#.")))) (tTup (tCons (tVar 2) (tCons (tVar 4) tNil))) [4, 5])) (gName 1)))
 (tRet (tVar 1))))
abbrev N_step : List Str := ["board"]
def t_step (K : PySem.W.Frag) (w : World) (E : XK) : TS := (tSeq (tDrop (tCall (spF (P_need_board K)) [] E (tCons (tVar 0) tNil)))
 (tRet (tCall (spF (P_ticked K)) [] E (tCons (tVar 0) tNil))))
abbrev N_exchanged : List Str := ["board", "signs", "sign"]
def t_exchanged (K : PySem.W.Frag) (w : World) (E : XK) : TS := (tSeq (tDrop (tCall (spF (P_need_board K)) [] E (tCons (tVar 0) tNil)))
 (tRet (tCB (rTupleOf K) (tCons (tLc (iAny K (tVar 0)) (gName 1) tYes (tM1 (rJoin K) (tC (.str "")) (tLc (iAny K (tVar 1)) (gName 2) tYes (tOp (rIxD K w) (tC (.ref (He.ga K "OTHER"))) (tVar 2)) [2])) [1]) tNil))))
abbrev N_is_still : List Str := ["board"]
def t_is_still (K : PySem.W.Frag) (w : World) (E : XK) : TS := (tSeq (tDrop (tCall (spF (P_need_board K)) [] E (tCons (tVar 0) tNil)))
 (tRet (tOp (rEqD K) (tCall (spF (P_ticked K)) [] E (tCons (tVar 0) tNil)) (tVar 0))))
abbrev N_fate_of : List Str := ["board", "ticks", "one"]
def t_fate_of (K : PySem.W.Frag) (w : World) (E : XK) : TS := (tSeq (tAsg (tC (.int 0)) (gName 1))
 (tWhile (tB (tC (.bl true))) (tSeq (tAsg (tCall (spF (P_ticked K)) [] E (tCons (tVar 0) tNil)) (gName 2))
 (tSeq (tIfS (tTest (tOp (rEqD K) (tVar 2) (tVar 0))) (tRet (tTup (tCons (tVar 1) (tCons (tC (.int 1)) tNil)))) tNext)
 (tSeq (tIfS (tTest (tOp (rEqD K) (tCall (spF (P_ticked K)) [] E (tCons (tVar 2) tNil)) (tVar 0))) (tRet (tTup (tCons (tVar 1) (tCons (tC (.int 2)) tNil)))) tNext)
 (tPar 0 1 (tCons (tVar 2) (tCons (tOp (rAddU K) (tVar 1) (tC (.int 1))) tNil))))))))
abbrev N_fate : List Str := ["board"]
def t_fate (K : PySem.W.Frag) (w : World) (E : XK) : TS := (tSeq (tDrop (tCall (spF (P_need_board K)) [] E (tCons (tVar 0) tNil)))
 (tRet (tCall (spF (P_fate_of K)) [] E (tCons (tVar 0) tNil))))
abbrev N_tension : List Str := ["board", "row", "made", "total", "column", "own", "cell"]
def t_tension (K : PySem.W.Frag) (w : World) (E : XK) : TS := (tSeq (tDrop (tCall (spF (P_need_board K)) [] E (tCons (tVar 0) tNil)))
 (tSeq (tPar 2 3 (tCons (tCall (spF (P_ticked K)) [] E (tCons (tVar 0) tNil)) (tCons (tC (.int 0)) tNil)))
 (tSeq (tFor (iRng1 (tCons (tCB (rLen K) (tCons (tVar 0) tNil)) tNil)) (gName 1) (tFor (iRng1 (tCons (tCB (rLen K) (tCons (tOp (rIx K) (tVar 0) (tC (.int 0))) tNil)) tNil)) (gName 4) (tSeq (tAsg (tCall (spF (P_ice_at K)) [] E (tCons (tVar 2) (tCons (tTup (tCons (tVar 1) (tCons (tVar 4) tNil))) tNil))) (gName 5))
 (tAug 3 (tCB (rLen K) (tCons (tLc (iAny K (tCall (spF (P_neighbours K)) [] E (tCons (tVar 0) (tCons (tTup (tCons (tVar 1) (tCons (tVar 4) tNil))) tNil)))) (gName 6) (tTest (tOp (rNeD K) (tCall (spF (P_ice_at K)) [] E0 (tCons (tVar 0) (tCons (tVar 6) tNil))) (tVar 5))) (tVar 6) [6]) tNil)) rIaddU))))
 (tRet (tVar 3)))))
abbrev N_never_change : List Str := ["board", "turn", "found", "now", "cell"]
def t_never_change (K : PySem.W.Frag) (w : World) (E : XK) : TS := (tSeq (tDrop (tCall (spF (P_need_board K)) [] E (tCons (tVar 0) tNil)))
 (tSeq (tAsg (tTup (tCons (tCall (spF (P_free_cells K)) [] E (tCons (tVar 0) tNil)) (tCons (tVar 0) tNil))) (gTup K 2 (gCons (gName 2) (gCons (gName 3) gNil))))
 (tSeq (tFor (iRng1 (tCons (tOp (rAddU K) (tOp (rIx K) (tCall (spF (P_fate_of K)) [] E (tCons (tVar 0) tNil)) (tC (.int 0))) (tC (.int 2))) tNil)) (gName 1) (tSeq (tAsg (tCall (spF (P_ticked K)) [] E (tCons (tVar 3) tNil)) (gName 3))
 (tAsg (tLc (iAny K (tVar 2)) (gName 4) (tTest (tOp (rEqD K) (tCall (spF (P_ice_at K)) [] E0 (tCons (tVar 3) (tCons (tVar 4) tNil))) (tCall (spF (P_ice_at K)) [] E0 (tCons (tVar 0) (tCons (tVar 4) tNil))))) (tVar 4) [4]) (gName 2))))
 (tRet (tCB (rTupleOf K) (tCons (tVar 2) tNil))))))
abbrev N_later : List Str := ["board", "ticks", "turn"]
def t_later (K : PySem.W.Frag) (w : World) (E : XK) : TS := (tSeq (tFor (iRng1 (tCons (tVar 1) tNil)) (gName 2) (tAsg (tCall (spF (P_ticked K)) [] E (tCons (tVar 0) tNil)) (gName 0)))
 (tRet (tVar 0)))
abbrev N_drawn : List Str := ["board", "some", "found", "number", "signs", "line", "column", "sign"]
def t_drawn (K : PySem.W.Frag) (w : World) (E : XK) : TS := (tSeq (tAsg (tLst tNil) (gName 2))
 (tSeq (tFor (iEnumU K (tCons (tVar 0) tNil)) (gTup K 2 (gCons (gName 3) (gCons (gName 4) gNil))) (tSeq (tAsg (tC (.str "")) (gName 5))
 (tSeq (tFor (iEnumU K (tCons (tVar 4) tNil)) (gTup K 2 (gCons (gName 6) (gCons (gName 7) gNil))) (tAug 5 (tIf (tTest (tOp (rInU K) (tVar 7) (tC (.str "*o")))) (tVar 7) (tIf (tTest (tOp (rInU K) (tTup (tCons (tVar 3) (tCons (tVar 6) tNil))) (tVar 1))) (tC (.str "#")) (tC (.str ".")))) rIaddU))
 (tDrop (tBM K "list" rAppend (tVar 2) (tCons (tVar 5) tNil))))))
 (tRet (tCB (rTupleOf K) (tCons (tVar 2) tNil)))))
abbrev N_all_ice : List Str := ["board"]
def t_all_ice (K : PySem.W.Frag) (w : World) (E : XK) : TS := (tRet (tCall (spF (P_drawn K)) [] E (tCons (tVar 0) (tCons (tCall (spF (P_free_cells K)) [] E (tCons (tVar 0) tNil)) tNil))))
abbrev N_need_small : List Str := ["board"]
def t_need_small (K : PySem.W.Frag) (w : World) (E : XK) : TS := (tIfS (tTest (tOp (rGtU K) (tCB (rLen K) (tCons (tCall (spF (P_free_cells K)) [] E (tCons (tVar 0) tNil)) tNil)) (tC (.int 9)))) (tRaise (He.ga K "TooLarge") E) tNext)
end Fb

/-! The bodies of the program's defs, by data (1). -/
namespace Fb
open PySem PySem.Spec PyProof.Rows L2
section
variable {c : Cfg} {ρ ρ1 : Env} {wi : TI} {g : TG} {tt : TT} {te : TE} {vs : List Nat} {α : Type}
/-- every item, mapped -/
theorem ev_lcA (xs : List α) (enc : α → D) (o : α → D) (F : α → Env → Env) (js : List Nat) (hi : EvI c wi ρ ρ1 (xs.map enc)) (hn : xs.length ≤ 100000) (hB : c.B = [])
    (hg : ∀ a ∈ xs, TgX g (enc a) (F a) js) (hj : ∀ j ∈ js, j ∈ vs)
    (he : ∀ a ∈ xs, EvX c te (F a (wipeE ρ1 vs)) (F a (wipeE ρ1 vs)) (o a)) : EvX c (tLc wi g tYes te vs) ρ ρ1 (.list (xs.map o)) := by
  have := ev_lcM (tt := tYes) xs enc (fun _ => true) o F js hi hn hB hg hj (fun _ _ => et_yes) (fun a ha _ => he a ha)
  rwa [List.filter_eq_self.mpr (fun _ _ => rfl)] at this
end
theorem ei_is {c : Cfg} {ρ ρ1 : Env} {wi : TI} {xs ys : List D} (h : EvI c wi ρ ρ1 xs) (e : xs = ys) : EvI c wi ρ ρ1 ys := e ▸ h
theorem giv {c : Cfg} {t : TS} {ρ ρ1 : Env} {d : D} (h : ExS c t ρ (.ret ρ1 d)) : ∃ o, ExS c t ρ o ∧ outOf o (.inl d) := ⟨_, h, .inl ⟨_, rfl⟩⟩
theorem givN {c : Cfg} {t : TS} {ρ ρ1 : Env} (h : ExS c t ρ (.next ρ1)) : ∃ o, ExS c t ρ o ∧ outOf o (.inl .none) := ⟨_, h, .inr ⟨⟨_, rfl⟩, rfl⟩⟩
theorem givX {c : Cfg} {t : TS} {ρ : Env} {C : Addr} (h : ExS c t ρ (.exc C)) : ∃ o, ExS c t ρ o ∧ outOf o (.inr C) := ⟨_, h, rfl⟩
theorem sub1 : ∀ {j i : Nat}, j ∈ [i] → j ∈ [i] := id
section
variable {K : PySem.W.Frag} {w : World} {vs : List V} {H : Hp} {Q : VK} {E : XK}
theorem signs_map (s : Str) : signs s = s.cps.toList.map fun k => PyData.str ⟨#[k]⟩ := rfl
theorem k_NoneType_str : kitB "NoneType" "str" = some false := by decide +kernel
theorem k_bool_str : kitB "bool" "str" = some false := by decide +kernel
theorem k_int_str : kitB "int" "str" = some false := by decide +kernel
theorem k_str_str : kitB "str" "str" = some true := by decide +kernel
theorem k_list_str : kitB "list" "str" = some false := by decide +kernel
theorem k_tuple_str : kitB "tuple" "str" = some false := by decide +kernel
theorem k_dict_str : kitB "dict" "str" = some false := by decide +kernel
theorem k_NoneType_tuple : kitB "NoneType" "tuple" = some false := by decide +kernel
theorem k_bool_tuple : kitB "bool" "tuple" = some false := by decide +kernel
theorem k_int_tuple : kitB "int" "tuple" = some false := by decide +kernel
theorem k_str_tuple : kitB "str" "tuple" = some false := by decide +kernel
theorem k_list_tuple : kitB "list" "tuple" = some false := by decide +kernel
theorem k_tuple_tuple : kitB "tuple" "tuple" = some true := by decide +kernel
theorem k_dict_tuple : kitB "dict" "tuple" = some false := by decide +kernel
theorem k_NoneType_int : kitB "NoneType" "int" = some false := by decide +kernel
theorem k_bool_int : kitB "bool" "int" = some true := by decide +kernel
theorem k_int_int : kitB "int" "int" = some true := by decide +kernel
theorem k_str_int : kitB "str" "int" = some false := by decide +kernel
theorem k_list_int : kitB "list" "int" = some false := by decide +kernel
theorem k_tuple_int : kitB "tuple" "int" = some false := by decide +kernel
theorem k_dict_int : kitB "dict" "int" = some false := by decide +kernel
theorem sg4 (k : Nat) : decide (k ∈ ("#.*o" : Str).cps.toList) = isSign k := by
  have e : ("#.*o" : Str).cps.toList = [35, 46, 42, 111] := by decide +kernel
  rw [e, Bool.eq_iff_iff]
  simp [or_assoc]
theorem body_is_row (h : spF (P_is_row K) vs H Q E) : t_is_row K w E { nx := fun _ H' => Q .non H', rt := Q } (L2.start N_is_row vs) H := pure_of (t := t_is_row K w) (fun E ds r p => by
  obtain ⟨v, n, rfl, hs, rfl⟩ := p
  cases v with
  | str s =>
    have hs : s.length ≤ 1000 := hs
    refine giv (exs_ret (ev_is (ev_and (ev_isi (ev_var rfl) k_str_str) fun _ => ev_and (ev_op (ev_cb (ea_cons (ev_var rfl) ea_nil) (rc_len rfl (by omega))) (ev_var rfl) gx_eqI) fun _ => ev_cb (ea_cons (ev_is
      (ev_lcA s.cps.toList (fun k => PyData.str ⟨#[k]⟩) (fun k => .bool (isSign k)) (fun k ρ => ρ.set 2 (.dat (.str ⟨#[k]⟩))) [2] (ui_str (ev_var rfl)) (by show s.cps.toList.length ≤ 100000; rw [Array.length_toList]; exact Nat.le_trans hs (by decide)) rfl (fun _ _ => tg_name) (fun _ h => h)
        (fun k _ => ev_is (ev_op (ev_var rfl) ev_str ux_inS) (by rw [sg4]))) (congrArg PyData.list (List.map_map (l := s.cps.toList) (f := fun k => isSign k) (g := PyData.bool)).symm)) ea_nil) rc_all) ?_) (OwnSub.refl _))
    simp only [isRowD, Bool.true_and, List.all_map]
    rfl
  | none => exact giv (exs_ret (ev_and (a := false) (b := false) (ev_isi (ev_var rfl) k_NoneType_str) (fun h => nomatch h)) (OwnSub.refl _))
  | bool _ => exact giv (exs_ret (ev_and (a := false) (b := false) (ev_isi (ev_var rfl) k_bool_str) (fun h => nomatch h)) (OwnSub.refl _))
  | int _ => exact giv (exs_ret (ev_and (a := false) (b := false) (ev_isi (ev_var rfl) k_int_str) (fun h => nomatch h)) (OwnSub.refl _))
  | list _ => exact giv (exs_ret (ev_and (a := false) (b := false) (ev_isi (ev_var rfl) k_list_str) (fun h => nomatch h)) (OwnSub.refl _))
  | tuple _ => exact giv (exs_ret (ev_and (a := false) (b := false) (ev_isi (ev_var rfl) k_tuple_str) (fun h => nomatch h)) (OwnSub.refl _))
  | dict _ => exact giv (exs_ret (ev_and (a := false) (b := false) (ev_isi (ev_var rfl) k_dict_str) (fun h => nomatch h)) (OwnSub.refl _))) h
end
end Fb

/-! The bodies of the program's defs, by data (2). -/
namespace Fb
open PySem PySem.Spec PyProof.Rows L2
theorem ux_mul {K : PySem.W.Frag} {i j : Int} (h : -(2 ^ 64) < i ∧ i < 2 ^ 64) : RX (rMulU K) (.int i) (.int j) (.int (i * j)) := ux_mulI (CMul.ok (.inl h))
theorem rc_len' {K : PySem.W.Frag} {d : D} {n : Nat} (h : dlen d = some n) (hs : n ≤ 100000) : RC (rLen K) [d] (.int (n : Nat)) := rc_len h hs
theorem cl_len {K : PySem.W.Frag} {c : Cfg} {ρ ρ1 : Env} {te : TE} {d : D} {n : Nat} (h : EvX c te ρ ρ1 d) (e : dlen d = some n) (hs : n ≤ 100000) : EvX c (tCB (rLen K) (tCons te tNil)) ρ ρ1 (.int (n : Nat)) := ev_cb (ea_cons h ea_nil) (rc_len e hs)
theorem isBoardD_str (s : Str) (ds : List D) : isBoardD (.tuple (.str s :: ds)) = (decide (ds.length + 1 ≤ 4) && (decide (1 ≤ s.length) && decide (s.length ≤ 4)) && decide (s.length * (ds.length + 1) ≤ 12) && (.str s :: ds : List D).all fun d => isRowD d s.length) := rfl
section
variable {K : PySem.W.Frag} {w : World} {vs : List V} {H : Hp} {Q : VK} {E : XK}
theorem notTup {c : Cfg} {ρ : Env} {d : D} {t2 : TT} {u : TS} (h : ρ[0]? = some (.dat d)) (k : kitB (dty d) "tuple" = some false) :
    ExS c (tSeq (tIfS (tOr (tNot (tB (tCB (rIsi c.K) (tCons (tVar 0) (tCons (tC (.ty "tuple")) tNil))))) t2) (tRet (tC (.bl false))) tNext) u) ρ (.ret ρ (.bool false)) :=
  exs_seq_ret (exs_if (b := true) (et_or (a := true) (b := true) (et_not (a := false) (et_B (ev_isi (ev_var h) k))) (fun z => nomatch z)) (OwnSub.refl _) (fun _ => exs_ret ev_bl (OwnSub.refl _)) (fun z => nomatch z))
theorem body_is_board (h : spF (P_is_board K) vs H Q E) : t_is_board K w E { nx := fun _ H' => Q .non H', rt := Q } (L2.start N_is_board vs) H := pure_of (t := t_is_board K w) (fun E ds r p => by
  obtain ⟨v, rfl, hs, rfl⟩ := p
  cases v with
  | tuple ds =>
    obtain ⟨hl, hr⟩ : ds.length ≤ 1000 ∧ ∀ d ∈ ds, smallS d := hs
    cases ds with
    | nil => exact giv (exs_seq_ret (exs_if (b := true) (et_or (a := false) (b := true) (et_not (a := true) (et_B (ev_isi (ev_var rfl) k_tuple_tuple))) (fun _ => et_or (a := true) (b := true)
        (et_not (a := false) (et_test (ev_chain (a := false) (b := true) ev_int (cl_len (ev_var rfl) (n := 0) rfl (by decide)) rx_B (fun _ => ev_int) (fun z => nomatch z)))) (fun z => nomatch z))) (OwnSub.refl _) (fun _ => exs_ret ev_bl (OwnSub.refl _)) (fun z => nomatch z)))
    | cons d0 rest =>
      have hl' : rest.length + 1 ≤ 1000 := hl
      by_cases h4 : rest.length + 1 ≤ 4
      · have t1 : ∀ {ρ : Env}, ρ[0]? = some (.dat (.tuple (d0 :: rest))) → EvT ⟨K, [], [], E⟩ (tNot (tTest (tChain (rI0 fun i j => .bl (decide (i ≤ j))) (rI0 fun i j => .bl (decide (i ≤ j))) (tC (.int 1)) (tCB (rLen K) (tCons (tVar 0) tNil)) (tC (.int 4))))) ρ ρ false := fun h0 =>
          et_is (et_not (et_test (ev_chain ev_int (cl_len (ev_var h0) (n := rest.length + 1) rfl (by omega)) rx_B (fun _ => ev_int) (fun _ => rx_B)))) (by
            have e1 : decide ((1 : Int) ≤ ((rest.length + 1 : Nat) : Int)) = true := decide_eq_true (by omega)
            have e2 : decide (((rest.length + 1 : Nat) : Int) ≤ 4) = true := decide_eq_true (by omega)
            rw [e1, e2]; rfl)
        have ix0 : ∀ {ρ : Env}, ρ[0]? = some (.dat (.tuple (d0 :: rest))) → EvX ⟨K, [], [], E⟩ (tOp (rIx K) (tVar 0) (tC (.int 0))) ρ ρ d0 := fun h0 => ev_op (ev_var h0) ev_int (ux_ixT (by simp [atI, ixN]))
        have str_case : ∀ s : Str, d0 = .str s → ∃ o, ExS ⟨K, [], [], E⟩ (t_is_board K w E) (env0 N_is_board [.tuple (d0 :: rest)]) o ∧ outOf o (.inl (.bool (isBoardD (.tuple (d0 :: rest))))) := fun s e => by
          subst e
          have hss : s.length ≤ 1000 := hr _ List.mem_cons_self
          have tst : EvT ⟨K, [], [], E⟩ (tOr (tNot (tB (tCB (rIsi K) (tCons (tVar 0) (tCons (tC (.ty "tuple")) tNil))))) (tOr (tNot (tTest (tChain (rI0 fun i j => .bl (decide (i ≤ j))) (rI0 fun i j => .bl (decide (i ≤ j))) (tC (.int 1)) (tCB (rLen K) (tCons (tVar 0) tNil)) (tC (.int 4))))) (tNot (tB (tCB (rIsi K) (tCons (tOp (rIx K) (tVar 0) (tC (.int 0))) (tCons (tC (.ty "str")) tNil))))))) (env0 N_is_board [.tuple (.str s :: rest)]) (env0 N_is_board [.tuple (.str s :: rest)]) false := et_or (a := false) (b := false) (et_not (a := true) (et_B (ev_isi (ev_var rfl) k_tuple_tuple))) (fun _ => et_or (a := false) (b := false) (t1 rfl) (fun _ => et_not (a := true) (et_B (ev_isi (ix0 rfl) k_str_str))))
          have asg : ExS ⟨K, [], [], E⟩ (tAsg (tCB (rLen K) (tCons (tOp (rIx K) (tVar 0) (tC (.int 0))) tNil)) (gName 1)) (env0 N_is_board [.tuple (.str s :: rest)]) _ := exs_set (i := 1) (cl_len (ix0 rfl) (n := s.length) rfl (by omega)) (OwnSub.refl _)
          have c1 : ∀ {ρ : Env}, ρ[1]? = some (.dat (.int (s.length : Nat))) → EvT ⟨K, [], [], E⟩ (tNot (tTest (tChain (rI0 fun i j => .bl (decide (i ≤ j))) (rI0 fun i j => .bl (decide (i ≤ j))) (tC (.int 1)) (tVar 1) (tC (.int 4))))) ρ ρ (!(decide (1 ≤ s.length) && decide (s.length ≤ 4))) := fun h1 =>
            et_is (et_not (et_test (ev_chain ev_int (ev_var h1) rx_B (fun _ => ev_int) (fun _ => rx_B)))) (by
              congr 2 <;> exact decide_eq_decide.mpr (by omega))
          by_cases hb : (decide (1 ≤ s.length) && decide (s.length ≤ 4)) = true
          · have hb2 := hb
            rw [Bool.and_eq_true, decide_eq_true_eq, decide_eq_true_eq] at hb2
            have c2 : ∀ {ρ : Env}, ρ[0]? = some (.dat (.tuple (.str s :: rest))) → ρ[1]? = some (.dat (.int (s.length : Nat))) → EvT ⟨K, [], [], E⟩ (tTest (tOp (rGtU K) (tOp (rMulU K) (tVar 1) (tCB (rLen K) (tCons (tVar 0) tNil))) (tC (.int 12)))) ρ ρ (!decide (s.length * (rest.length + 1) ≤ 12)) := fun h0 h1 =>
              et_is (et_test (ev_op (ev_op (ev_var h1) (cl_len (ev_var h0) (n := rest.length + 1) rfl (by omega)) (ux_mul (by omega))) ev_int ux_gtI)) (by
                rw [← decide_not]
                exact decide_eq_decide.mpr (by rw [← Int.natCast_mul]; omega))
            by_cases hp : s.length * (rest.length + 1) ≤ 12
            · have hall : EvX ⟨K, [], [], E⟩ (tCB (rAll K) (tCons (tLc (iAny K (tVar 0)) (gName 2) tYes (tCall (spF (P_is_row K)) [] E0 (tCons (tVar 2) (tCons (tVar 1) tNil))) [2]) tNil)) ((env0 N_is_board [.tuple (.str s :: rest)]).set 1 (.dat (.int (s.length : Nat)))) _ (.bool (((.str s :: rest : List D).map fun d => isRowD d s.length).all id)) :=
                ev_cb (ea_cons (ev_is (ev_lcA (.str s :: rest : List D) id (fun d => .bool (isRowD d s.length)) (fun d ρ => ρ.set 2 (.dat d)) [2] (ei_is (ui_tup (ev_var rfl)) (by rw [List.map_id])) (by show rest.length + 1 ≤ 100000; omega) rfl (fun _ _ => tg_name) (fun _ h => h)
                  (fun d hd => ev_call (P := P_is_row K) (ea_cons (ev_var rfl) (ea_cons (ev_var rfl) ea_nil)) ⟨d, s.length, rfl, hr d hd, rfl⟩)) (congrArg PyData.list (List.map_map (l := (.str s :: rest : List D)) (f := fun d => isRowD d s.length) (g := PyData.bool)).symm)) ea_nil) rc_all
              refine giv (exs_seq (exs_if (o := .next _) tst (OwnSub.refl _) (fun z => nomatch z) (fun _ => exs_nil)) (exs_seq asg (exs_seq (exs_if (o := .next _) (b := false) (et_is (et_or (c1 rfl) (fun _ => c2 rfl rfl)) (by rw [hb, decide_eq_true hp]; rfl)) (OwnSub.refl _) (fun z => nomatch z) (fun _ => exs_nil)) (exs_ret (ev_is hall ?_) (OwnSub.refl _)))))
              rw [isBoardD_str, hb, decide_eq_true hp, decide_eq_true h4, List.all_map]
              rfl
            · refine giv (exs_seq (exs_if (o := .next _) tst (OwnSub.refl _) (fun z => nomatch z) (fun _ => exs_nil)) (exs_seq asg (exs_seq_ret (exs_if (b := true) (et_is (et_or (c1 rfl) (fun _ => c2 rfl rfl)) (by rw [hb, decide_eq_false hp]; rfl)) (OwnSub.refl _) (fun _ => exs_ret (ev_is ev_bl ?_) (OwnSub.refl _)) (fun z => nomatch z)))))
              rw [isBoardD_str, hb, decide_eq_false hp, decide_eq_true h4]
              rfl
          · have hb' : (decide (1 ≤ s.length) && decide (s.length ≤ 4)) = false := by simpa using hb
            refine giv (exs_seq (exs_if (o := .next _) tst (OwnSub.refl _) (fun z => nomatch z) (fun _ => exs_nil)) (exs_seq asg (exs_seq_ret (exs_if (b := true) (et_or (a := true) (b := true) (et_is (c1 rfl) (by rw [hb']; rfl)) (fun z => nomatch z)) (OwnSub.refl _) (fun _ => exs_ret (ev_is ev_bl ?_) (OwnSub.refl _)) (fun z => nomatch z)))))
            rw [isBoardD_str, hb', decide_eq_true h4]
            rfl
        have no_case : kitB (dty d0) "str" = some false → ∃ o, ExS ⟨K, [], [], E⟩ (t_is_board K w E) (env0 N_is_board [.tuple (d0 :: rest)]) o ∧ outOf o (.inl (.bool false)) := fun k =>
          giv (exs_seq_ret (exs_if (b := true) (et_or (a := false) (b := true) (et_not (a := true) (et_B (ev_isi (ev_var rfl) k_tuple_tuple))) (fun _ => et_or (a := false) (b := true) (t1 rfl) (fun _ => et_not (a := false) (et_B (ev_isi (ix0 rfl) k))))) (OwnSub.refl _) (fun _ => exs_ret ev_bl (OwnSub.refl _)) (fun z => nomatch z)))
        cases d0 with
        | str s => exact str_case s rfl
        | none => exact no_case k_NoneType_str
        | bool _ => exact no_case k_bool_str
        | int _ => exact no_case k_int_str
        | list _ => exact no_case k_list_str
        | tuple _ => exact no_case k_tuple_str
        | dict _ => exact no_case k_dict_str
      · have e : isBoardD (.tuple (d0 :: rest)) = false := by
          unfold isBoardD
          split
          · rename_i s ds he
            have he := (List.cons.inj (PyData.tuple.inj he)).2
            subst he
            rw [decide_eq_false h4]
            rfl
          · rfl
        rw [e]
        exact giv (exs_seq_ret (exs_if (b := true) (et_or (a := false) (b := true) (et_not (a := true) (et_B (ev_isi (ev_var rfl) k_tuple_tuple))) (fun _ => et_or (a := true) (b := true)
          (et_is (et_not (et_test (ev_chain (b := false) ev_int (cl_len (ev_var rfl) (n := rest.length + 1) rfl (by omega)) rx_B (fun _ => ev_int) (fun _ => by
            have e2 : decide (((rest.length + 1 : Nat) : Int) ≤ 4) = false := decide_eq_false (by omega)
            rw [← e2]; exact rx_B)))) (by rw [Bool.and_false]; rfl)) (fun z => nomatch z))) (OwnSub.refl _) (fun _ => exs_ret ev_bl (OwnSub.refl _)) (fun z => nomatch z)))
  | none => exact giv (notTup rfl k_NoneType_tuple)
  | bool _ => exact giv (notTup rfl k_bool_tuple)
  | int _ => exact giv (notTup rfl k_int_tuple)
  | str _ => exact giv (notTup rfl k_str_tuple)
  | list _ => exact giv (notTup rfl k_list_tuple)
  | dict _ => exact giv (notTup rfl k_dict_tuple)) h
theorem body_need_board (h : spF (P_need_board K) vs H Q E) : t_need_board K w E { nx := fun _ H' => Q .non H', rt := Q } (L2.start N_need_board vs) H := pure_of (t := t_need_board K w) (fun E ds r p => by
  obtain ⟨v, rfl, hs, rfl⟩ := p
  have tst : EvT ⟨K, [], [], E⟩ (tNot (tB (tCall (spF (P_is_board K)) [] E (tCons (tVar 0) tNil)))) (env0 N_need_board [v]) (env0 N_need_board [v]) (!isBoardD v) := et_not (et_B (ev_call (P := P_is_board K) (ea_cons (ev_var rfl) ea_nil) ⟨v, rfl, hs, rfl⟩))
  by_cases hb : isBoardD v = true
  · rw [if_pos hb]
    exact givN (exs_if (b := false) (et_is tst (by rw [hb]; rfl)) (OwnSub.refl _) (fun z => nomatch z) (fun _ => exs_nil))
  · rw [if_neg hb]
    exact givX (exs_if (b := true) (et_is tst (by rw [Bool.not_eq_true] at hb; rw [hb]; rfl)) (OwnSub.refl _) (fun _ => exs_raise) (fun z => nomatch z))) h
end
end Fb

/-! The bodies of the program's defs, by data (3): signs, neighbours, ticks. -/
namespace Fb
open PySem PySem.Spec PyProof.Rows L2
theorem tx_app (a b : List Nat) : tx a ++ tx b = tx (a ++ b) := by
  show (⟨a.toArray ++ b.toArray⟩ : Str) = ⟨(a ++ b).toArray⟩
  simp
theorem str_e : ("" : Str) = tx [] := by decide +kernel
theorem join_tx : ∀ rs : List (List Nat), Txt.join "" (rs.map tx) = tx rs.flatten := fun rs => by
  show Builtin.Str.glued "" (rs.map tx) = _
  rw [StrLaws.glued_eq_join]
  have key : ∀ rs : List (List Nat), Str.join "" (rs.map tx) = tx rs.flatten := fun rs => by
    induction rs with
    | nil => rfl
    | cons a r ih =>
      cases r with
      | nil => show tx a = tx (a ++ []); rw [List.append_nil]
      | cons b r =>
        show tx a ++ ("" : Str) ++ Str.join "" ((b :: r).map tx) = tx (a ++ (b :: r).flatten)
        rw [ih, str_e, tx_app, tx_app, List.append_nil]
  exact key rs
theorem rng0 (n : Nat) : rng 0 n = (List.range n).map fun i : Nat => PyData.int (i : Nat) := by
  unfold rng
  exact List.map_congr_left fun i _ => by rw [Int.zero_add]
theorem ei_range {c : Cfg} {ρ ρ1 : Env} {te : TE} {n : Nat} (h : EvX c te ρ ρ1 (.int (n : Nat))) (hn : n ≤ 1000000) : EvI c (iRng1 (tCons te tNil)) ρ ρ1 ((List.range n).map fun i : Nat => PyData.int (i : Nat)) :=
  ei_is (ei_rng1 (ea_cons h ea_nil) (by omega) (by omega)) (by rw [Int.toNat_natCast]; exact rng0 n)
/-! ### facts of boards -/
section
variable {b : Bd} (W : Wf b)
include W
theorem Wf.row {r : Nat} (h : r < hgt b) : b[r]? = some (b.getD r []) ∧ (b.getD r []).length = wid b ∧ ∀ k ∈ b.getD r [], isSign k = true := by
  have e : b[r]? = some b[r] := List.getElem?_eq_getElem h
  have e2 : b.getD r [] = b[r] := by rw [List.getD_eq_getElem?_getD, e]; rfl
  rw [e2]
  exact ⟨e, W.rows _ (List.getElem_mem h)⟩
theorem Wf.sgn_at {p : Cl} (h1 : p.1 < hgt b) (h2 : p.2 < wid b) : (b.getD p.1 [])[p.2]? = some (sgn b p) ∧ isSign (sgn b p) = true := by
  obtain ⟨_, e, hs⟩ := W.row h1
  have h3 : p.2 < (b.getD p.1 []).length := by rw [e]; exact h2
  have e2 : sgn b p = (b.getD p.1 [])[p.2] := by unfold sgn; rw [List.getD_eq_getElem?_getD, List.getElem?_eq_getElem h3]; rfl
  rw [e2]
  exact ⟨List.getElem?_eq_getElem h3, hs _ (List.getElem_mem h3)⟩
theorem Wf.ixRow {r : Nat} (h : r < hgt b) : atI (b.map dR) (r : Int) = some (dR (b.getD r [])) := by
  refine atI_nat ?_
  rw [List.getElem?_map, (W.row h).1]
  rfl
theorem Wf.ixSgn {p : Cl} (h1 : p.1 < hgt b) (h2 : p.2 < wid b) : atI (tx (b.getD p.1 [])).cps.toList (p.2 : Int) = some (sgn b p) := atI_nat (W.sgn_at h1 h2).1
theorem Wf.head : b[0]? = some (b.getD 0 []) ∧ (b.getD 0 []).length = wid b := by
  obtain ⟨h, e, _⟩ := W.row (r := 0) W.h1
  exact ⟨h, e⟩
theorem Wf.len0 : dlen (dR (b.getD 0 [])) = some (wid b) := by
  show some (tx (b.getD 0 [])).length = _
  rw [tx_len, W.head.2]
theorem Wf.lenB : dlen (dB b) = some (hgt b) := by
  show some (b.map dR).length = _
  rw [List.length_map]
theorem sign_ok {k : Nat} (h : isSign k = true) : k < 0x110000 := by
  simp at h
  omega
theorem Wf.okR {r : List Nat} (h : r ∈ b) : okR r := by
  show (tx r).cps.all (· < 0x110000) = true
  rw [← Array.all_toList, tx_list, List.all_eq_true]
  exact fun k hk => decide_eq_true (sign_ok W ((W.rows r h).2 k hk))
theorem Wf.ok : Ev Fb.okR b := fun r hr => W.okR hr
theorem Wf.small : smallB (dB b) := by
  refine ⟨by rw [List.length_map]; have := W.h4; omega, fun d hd => ?_⟩
  obtain ⟨r, hr, rfl⟩ := List.mem_map.mp hd
  show (tx r).length ≤ 1000
  rw [tx_len, (W.rows r hr).1]
  have := W.w4
  omega
theorem Wf.isB : isBoardD (dB b) = true := by
  obtain ⟨h1, h2, h3, h4, h5, h6⟩ := W
  cases b with
  | nil => simp at h1
  | cons r0 rest =>
    have hw : wid (r0 :: rest) = r0.length := rfl
    rw [hw] at h3 h4 h5 h6
    have hl : (r0 :: rest).length = rest.length + 1 := rfl
    rw [hl] at h1 h2 h5
    show isBoardD (.tuple (.str (tx r0) :: rest.map dR)) = true
    rw [isBoardD_str, List.length_map, tx_len, decide_eq_true h2, decide_eq_true h3, decide_eq_true h4, decide_eq_true h5]
    simp only [Bool.true_and]
    show (((r0 :: rest).map dR).all fun d => isRowD d r0.length) = true
    rw [List.all_map, List.all_eq_true]
    intro r hr
    obtain ⟨e1, e2⟩ := h6 r hr
    show (decide (((tx r).length : Int) = r0.length) && (tx r).cps.toList.all fun k => isSign k) = true
    rw [tx_len, e1, tx_list, decide_eq_true rfl, Bool.true_and, List.all_eq_true]
    exact e2
end
theorem isB_wf {v : D} (h : isBoardD v = true) : ∃ b, v = dB b ∧ Wf b := by
  unfold isBoardD at h
  split at h
  · rename_i s ds
    simp only [Bool.and_eq_true, decide_eq_true_eq] at h
    obtain ⟨⟨⟨h1, h2, h3⟩, h4⟩, h5⟩ := h
    have hrow : ∀ d ∈ (.str s :: ds : List D), ∃ r, d = dR r ∧ r.length = s.length ∧ ∀ k ∈ r, isSign k = true := fun d hd => by
      have e := List.all_eq_true.mp h5 d hd
      unfold isRowD at e
      split at e
      · rename_i u
        rw [Bool.and_eq_true, decide_eq_true_eq, List.all_eq_true] at e
        refine ⟨u.cps.toList, by unfold dR; rw [tx_of], ?_, e.2⟩
        have e1 := e.1
        rw [Array.length_toList]
        show u.length = s.length
        omega
      · cases e
    have hall : ∀ l : List D, (∀ d ∈ l, ∃ r, d = dR r ∧ r.length = s.length ∧ ∀ k ∈ r, isSign k = true) → ∃ b : Bd, l = b.map dR ∧ ∀ r ∈ b, r.length = s.length ∧ ∀ k ∈ r, isSign k = true := by
      intro l
      induction l with
      | nil => intro _; exact ⟨[], rfl, fun r hr => by cases hr⟩
      | cons d l ih =>
        intro hl
        obtain ⟨r, e, hr⟩ := hl d List.mem_cons_self
        obtain ⟨b, e2, hb⟩ := ih fun d hd => hl d (List.mem_cons_of_mem _ hd)
        refine ⟨r :: b, by rw [e, e2]; rfl, fun r' hr' => ?_⟩
        rcases List.mem_cons.mp hr' with z | z
        · rw [z]; exact hr
        · exact hb r' z
    obtain ⟨b, e, hb⟩ := hall _ hrow
    have hlen : b.length = ds.length + 1 := by
      have := congrArg List.length e
      rw [List.length_map] at this
      exact this.symm
    have hwid : wid b = s.length := by
      cases b with
      | nil => cases e
      | cons r0 rest => exact (hb r0 List.mem_cons_self).1
    refine ⟨b, by rw [e]; rfl, ⟨by omega, by omega, by omega, by omega, by rw [hwid, hlen]; exact h4, fun r hr => ?_⟩⟩
    rw [hwid]
    exact hb r hr
  · cases h
end Fb

/-! The bodies of the program's defs, by data (4): signs, neighbours, ticks. -/
namespace Fb
open PySem PySem.Spec PyProof.Rows L2
theorem sgIce (k : Nat) : decide (k ∈ ("#*" : Str).cps.toList) = isIce k := by
  have e : ("#*" : Str).cps.toList = [35, 42] := by decide +kernel
  rw [e, Bool.eq_iff_iff]
  simp
theorem sgStone (k : Nat) : decide (k ∈ ("*o" : Str).cps.toList) = isStone k := by
  have e : ("*o" : Str).cps.toList = [42, 111] := by decide +kernel
  rw [e, Bool.eq_iff_iff]
  simp
theorem sgFree (k : Nat) : decide (k ∈ ("#." : Str).cps.toList) = isFree k := by
  have e : ("#." : Str).cps.toList = [35, 46] := by decide +kernel
  rw [e, Bool.eq_iff_iff]
  simp
theorem s35 : ("#" : Str) = tx [35] := by decide +kernel
theorem s46 : ("." : Str) = tx [46] := by decide +kernel
theorem sg_eq (k : Nat) : (PyData.str ⟨#[k]⟩ : D) = dR [k] := rfl
section
variable {K : PySem.W.Frag} {w : World} {vs : List V} {H : Hp} {Q : VK} {E : XK} {c : Cfg} {ρ ρ1 : Env} {te tr tcol : TE} {b : Bd}
theorem ev_tp {ds : List D} {ta : TA} (h : EvA c ta ρ ρ1 ds) (hl : Nat.ble ds.length 1000 = true := by rfl) : EvX c (tTup ta) ρ ρ1 (.tuple ds) := ev_tup h (Nat.le_of_ble_eq_true hl)
theorem ev_ls {ds : List D} {ta : TA} (h : EvA c ta ρ ρ1 ds) (hl : Nat.ble ds.length 1000 = true := by rfl) : EvX c (tLst ta) ρ ρ1 (.list ds) := ev_lst h (Nat.le_of_ble_eq_true hl)
/-- board[r][c] -/
theorem ev_sgn (W : Wf b) {p : Cl} (h1 : p.1 < hgt b) (h2 : p.2 < wid b) (hb : EvX c te ρ ρ (dB b)) (hr : EvX c tr ρ ρ (.int (p.1 : Nat))) (hc : EvX c tcol ρ ρ (.int (p.2 : Nat))) :
    EvX c (tOp (rIx c.K) (tOp (rIx c.K) te tr) tcol) ρ ρ (.str ⟨#[sgn b p]⟩) :=
  ev_op (ev_op hb hr (ux_ixT (W.ixRow h1))) hc (ux_ixS (by rw [tx_len, (W.row h1).2.1]; have := W.w4; omega) (W.ixSgn h1 h2))
/-- len(board), len(board[0]) -/
theorem ev_hgt (W : Wf b) (hb : EvX c te ρ ρ (dB b)) : EvX c (tCB (rLen c.K) (tCons te tNil)) ρ ρ (.int (hgt b : Nat)) := cl_len hb W.lenB (by have := W.h4; show b.length ≤ _; omega)
theorem ev_wid (W : Wf b) (hb : EvX c te ρ ρ (dB b)) : EvX c (tCB (rLen c.K) (tCons (tOp (rIx c.K) te (tC (.int 0))) tNil)) ρ ρ (.int (wid b : Nat)) :=
  cl_len (ev_op hb ev_int (ux_ixT (W.ixRow (r := 0) W.h1))) W.len0 (by have := W.w4; omega)
theorem body_ice_at (h : spF (P_ice_at K) vs H Q E) : t_ice_at K w E { nx := fun _ H' => Q .non H', rt := Q } (L2.start N_ice_at vs) H := pure_of (t := t_ice_at K w) (fun E ds r q => by
  obtain ⟨b, p, rfl, W, h1, h2, rfl⟩ := q
  have e1 : ∀ {ρ : Env}, ρ[1]? = some (.dat (dC p)) → EvX ⟨K, [], [], E⟩ (tOp (rIx K) (tVar 1) (tC (.int 0))) ρ ρ (.int (p.1 : Nat)) := fun h => ev_op (ev_var h) ev_int (ux_ixT rfl)
  have e2 : ∀ {ρ : Env}, ρ[1]? = some (.dat (dC p)) → EvX ⟨K, [], [], E⟩ (tOp (rIx K) (tVar 1) (tC (.int 1))) ρ ρ (.int (p.2 : Nat)) := fun h => ev_op (ev_var h) ev_int (ux_ixT rfl)
  exact giv (exs_ret (ev_is (ev_op (ev_sgn (c := ⟨K, [], [], E⟩) W h1 h2 (ev_var rfl) (e1 rfl) (e2 rfl)) ev_str ux_inS) (by rw [sgIce]; rfl)) (OwnSub.refl _))) h
/-! neighbours -/
def dI (p : Int × Int) : D := .tuple [.int p.1, .int p.2]
def cand (p : Cl) : List (Int × Int) := [((p.1 : Int) - 1, p.2), (p.1, (p.2 : Int) - 1), (p.1, (p.2 : Int) + 1), ((p.1 : Int) + 1, p.2)]
def inB (h w : Nat) (q : Int × Int) : Bool := (decide (0 ≤ q.1) && decide (q.1 < h)) && (decide (0 ≤ q.2) && decide (q.2 < w))
theorem filter1 {α : Type} (p : α → Bool) (a : α) (l : List α) : (a :: l).filter p = (if p a = true then [a] else []) ++ l.filter p := by
  rw [List.filter_cons]
  split <;> rfl
theorem cand_nb {h w : Nat} {p : Cl} (h1 : p.1 < h) (h2 : p.2 < w) : ((cand p).filter (inB h w)).map dI = (nb h w p).map dC := by
  obtain ⟨r, c⟩ := p
  have h1 : r < h := h1
  have h2 : c < w := h2
  have a1 : inB h w ((r : Int) - 1, (c : Int)) = decide (1 ≤ r) := by
    rw [Bool.eq_iff_iff]
    simp only [inB, Bool.and_eq_true, decide_eq_true_eq]
    omega
  have a2 : inB h w ((r : Int), (c : Int) - 1) = decide (1 ≤ c) := by
    rw [Bool.eq_iff_iff]
    simp only [inB, Bool.and_eq_true, decide_eq_true_eq]
    omega
  have a3 : inB h w ((r : Int), (c : Int) + 1) = decide (c + 1 < w) := by
    rw [Bool.eq_iff_iff]
    simp only [inB, Bool.and_eq_true, decide_eq_true_eq]
    omega
  have a4 : inB h w ((r : Int) + 1, (c : Int)) = decide (r + 1 < h) := by
    rw [Bool.eq_iff_iff]
    simp only [inB, Bool.and_eq_true, decide_eq_true_eq]
    omega
  have b1 : List.map dI (if 1 ≤ r then [((r : Int) - 1, (c : Int))] else []) = List.map dC (if 1 ≤ r then [(r - 1, c)] else []) := by
    by_cases z : 1 ≤ r
    · rw [if_pos z, if_pos z]
      simp only [List.map_cons, List.map_nil, dI, dC]
      rw [Int.ofNat_sub z]
      rfl
    · rw [if_neg z, if_neg z]; rfl
  have b2 : List.map dI (if 1 ≤ c then [((r : Int), (c : Int) - 1)] else []) = List.map dC (if 1 ≤ c then [(r, c - 1)] else []) := by
    by_cases z : 1 ≤ c
    · rw [if_pos z, if_pos z]
      simp only [List.map_cons, List.map_nil, dI, dC]
      rw [Int.ofNat_sub z]
      rfl
    · rw [if_neg z, if_neg z]; rfl
  have b3 : List.map dI (if c + 1 < w then [((r : Int), (c : Int) + 1)] else []) = List.map dC (if c + 1 < w then [(r, c + 1)] else []) := by
    by_cases z : c + 1 < w
    · rw [if_pos z, if_pos z]; rfl
    · rw [if_neg z, if_neg z]; rfl
  have b4 : List.map dI (if r + 1 < h then [((r : Int) + 1, (c : Int))] else []) = List.map dC (if r + 1 < h then [(r + 1, c)] else []) := by
    by_cases z : r + 1 < h
    · rw [if_pos z, if_pos z]; rfl
    · rw [if_neg z, if_neg z]; rfl
  unfold cand nb
  simp only [filter1, List.filter_nil, a1, a2, a3, a4, decide_eq_true_eq, List.append_nil, List.map_append, b1, b2, b3, b4, List.append_assoc]
theorem body_neighbours (h : spF (P_neighbours K) vs H Q E) : t_neighbours K w E { nx := fun _ H' => Q .non H', rt := Q } (L2.start N_neighbours vs) H := pure_of (t := t_neighbours K w) (fun E ds r q => by
  obtain ⟨b, p, rfl, W, h1, h2, rfl⟩ := q
  refine giv (exs_seq (exs_tup (c := ⟨K, [], [], E⟩) (ρ := env0 N_neighbours [dB b, dC p]) (ev_var rfl) (OwnSub.refl _)) (exs_seq (exs_set (ev_is (y := .list ((cand p).map dI)) (ev_ls (ea_cons (ev_tp (ea_cons (ev_op (ev_var rfl) ev_int rx_I) (ea_cons (ev_var rfl) ea_nil)))
    (ea_cons (ev_tp (ea_cons (ev_var rfl) (ea_cons (ev_op (ev_var rfl) ev_int rx_I) ea_nil))) (ea_cons (ev_tp (ea_cons (ev_var rfl) (ea_cons (ev_op (ev_var rfl) ev_int ux_addI) ea_nil)))
    (ea_cons (ev_tp (ea_cons (ev_op (ev_var rfl) ev_int ux_addI) (ea_cons (ev_var rfl) ea_nil))) ea_nil))))) rfl) (OwnSub.refl _)) (exs_ret (ev_is (ev_lcM (c := ⟨K, [], [], E⟩) (cand p) dI (inB (hgt b) (wid b)) dI (fun q ρ => (ρ.set 5 (.dat (.int q.1))).set 6 (.dat (.int q.2))) [5, 6]
      (ui_list (ev_var rfl)) (by show 4 ≤ 100000; decide) rfl (fun _ _ => tg_pair) (fun _ h => h) (fun q hq => ?_) (fun q hq _ => ev_tp (ea_cons (ev_var rfl) (ea_cons (ev_var rfl) ea_nil)))) (by rw [cand_nb h1 h2])) (OwnSub.refl _))))
  exact et_and (et_test (ev_chain ev_int (ev_var rfl) rx_B (fun _ => ev_hgt (c := ⟨K, [], [], E⟩) W (ev_var rfl)) (fun _ => ux_ltI))) (fun _ => et_test (ev_chain ev_int (ev_var rfl) rx_B (fun _ => ev_wid (c := ⟨K, [], [], E⟩) W (ev_var rfl)) (fun _ => ux_ltI)))) h
end
end Fb

/-! The bodies of the program's defs, by data (5): ticks. -/
namespace Fb
open PySem PySem.Spec PyProof.Rows L2
theorem nb_len {h w : Nat} {p : Cl} : (nb h w p).length ≤ 4 := by
  unfold nb
  simp only [List.length_append]
  have : ∀ (c : Prop) [Decidable c] (x : Cl), (if c then [x] else []).length ≤ 1 := fun c _ x => by split <;> simp
  have h1 := this (1 ≤ p.1) (p.1 - 1, p.2)
  have h2 := this (1 ≤ p.2) (p.1, p.2 - 1)
  have h3 := this (p.2 + 1 < w) (p.1, p.2 + 1)
  have h4 := this (p.1 + 1 < h) (p.1 + 1, p.2)
  omega
theorem nb_in {h w : Nat} {p q : Cl} (h1 : p.1 < h) (h2 : p.2 < w) (hq : q ∈ nb h w p) : q.1 < h ∧ q.2 < w := by
  unfold nb at hq
  simp only [List.mem_append] at hq
  rcases hq with ((z | z) | z) | z <;> (split at z <;> simp at z <;> subst z <;> simp <;> omega)
theorem len_filter_id (bs : List Bool) : (bs.filter id).length = bs.countP id := by rw [List.countP_eq_length_filter]
section
variable {K : PySem.W.Frag} {w : World} {vs : List V} {H : Hp} {Q : VK} {E : XK} {c : Cfg} {ρ ρ1 : Env} {te tr tcol : TE} {b : Bd}
theorem body_next_sign (h : spF (P_next_sign K) vs H Q E) : t_next_sign K w E { nx := fun _ H' => Q .non H', rt := Q } (L2.start N_next_sign vs) H := pure_of (t := t_next_sign K w) (fun E ds r q => by
  obtain ⟨b, p, rfl, W, h1, h2, rfl⟩ := q
  have s1 : ExS ⟨K, [], [], E⟩ (tAsg (tOp (rIx K) (tOp (rIx K) (tVar 0) (tVar 1)) (tVar 2)) (gName 3)) (env0 N_next_sign [dB b, .int (p.1 : Nat), .int (p.2 : Nat)]) (.next [.dat (dB b), .dat (.int (p.1 : Nat)), .dat (.int (p.2 : Nat)), .dat (dR [sgn b p]), .un, .un, .un, .un]) :=
    exs_set (ev_sgn (c := ⟨K, [], [], E⟩) W h1 h2 (ev_var rfl) (ev_var rfl) (ev_var rfl)) (OwnSub.refl _)
  have e0 : nextAt b p = if isStone (sgn b p) then sgn b p else if 2 * (nb (hgt b) (wid b) p).countP (fun q => iceAt b q) = (nb (hgt b) (wid b) p).length then sgn b p else if (nb (hgt b) (wid b) p).length < 2 * (nb (hgt b) (wid b) p).countP (fun q => iceAt b q) then 35 else 46 := rfl
  by_cases hs : isStone (sgn b p) = true
  · rw [e0, if_pos hs]
    exact giv (exs_seq s1 (exs_seq_ret (exs_if (b := true) (et_is (et_test (ev_op (ev_var rfl) ev_str ux_inS)) (by rw [sgStone, hs])) (OwnSub.refl _) (fun _ => exs_ret (ev_var rfl) (OwnSub.refl _)) (fun z => nomatch z))))
  · rw [e0, if_neg hs]
    generalize hn : nb (hgt b) (wid b) p = ns
    have hl : ns.length ≤ 4 := by rw [← hn]; exact nb_len
    have hin : ∀ q ∈ ns, q.1 < hgt b ∧ q.2 < wid b := fun q hq => nb_in h1 h2 (by rw [hn]; exact hq)
    have hk : (ns.map fun q => iceAt b q).countP id = ns.countP fun q => iceAt b q := by rw [List.countP_map]; rfl
    have hle : ns.countP (fun q => iceAt b q) ≤ ns.length := List.countP_le_length
    have s3 : ExS ⟨K, [], [], E⟩ (tAsg (tLc (iAny K (tCall (spF (P_neighbours K)) [] E (tCons (tVar 0) (tCons (tTup (tCons (tVar 1) (tCons (tVar 2) tNil))) tNil)))) (gName 6) tYes (tCall (spF (P_ice_at K)) [] E0 (tCons (tVar 0) (tCons (tVar 6) tNil))) [6]) (gName 4)) [.dat (dB b), .dat (.int (p.1 : Nat)), .dat (.int (p.2 : Nat)), .dat (dR [sgn b p]), .un, .un, .un, .un]
        (.next [.dat (dB b), .dat (.int (p.1 : Nat)), .dat (.int (p.2 : Nat)), .dat (dR [sgn b p]), .dat (.list ((ns.map fun q => iceAt b q).map .bool)), .un, .un, .un]) :=
      exs_set (ev_is (ev_lcA (c := ⟨K, [], [], E⟩) ns dC (fun q => .bool (iceAt b q)) (fun q ρ => ρ.set 6 (.dat (dC q))) [6] (ui_list (ev_call (P := P_neighbours K) (ea_cons (ev_var rfl) (ea_cons (ev_tp (ea_cons (ev_var rfl) (ea_cons (ev_var rfl) ea_nil))) ea_nil)) ⟨b, p, rfl, W, h1, h2, by rw [hn]⟩)) (by omega) rfl (fun _ _ => tg_name) (fun _ h => h)
        (fun q hq => ev_call (P := P_ice_at K) (ea_cons (ev_var rfl) (ea_cons (ev_var rfl) ea_nil)) ⟨b, q, rfl, W, (hin q hq).1, (hin q hq).2, rfl⟩)) (congrArg PyData.list (List.map_map (l := ns) (f := fun q => iceAt b q) (g := PyData.bool)).symm)) (OwnSub.refl _)
    have s4 : ExS ⟨K, [], [], E⟩ (tAsg (tCB (rLen K) (tCons (tLc (iAny K (tVar 4)) (gName 7) (tB (tVar 7)) (tVar 7) [7]) tNil)) (gName 5)) [.dat (dB b), .dat (.int (p.1 : Nat)), .dat (.int (p.2 : Nat)), .dat (dR [sgn b p]), .dat (.list ((ns.map fun q => iceAt b q).map .bool)), .un, .un, .un]
        (.next [.dat (dB b), .dat (.int (p.1 : Nat)), .dat (.int (p.2 : Nat)), .dat (dR [sgn b p]), .dat (.list ((ns.map fun q => iceAt b q).map .bool)), .dat (.int (ns.countP (fun q => iceAt b q) : Nat)), .un, .un]) :=
      exs_set (cl_len (ev_lcM (c := ⟨K, [], [], E⟩) (ns.map fun q => iceAt b q) PyData.bool id PyData.bool (fun x ρ => ρ.set 7 (.dat (.bool x))) [7] (ui_list (ev_var rfl)) (by rw [List.length_map]; omega) rfl (fun _ _ => tg_name) (fun _ h => h) (fun x _ => et_B (ev_var rfl)) (fun x _ _ => ev_var rfl))
        (by show some (((ns.map fun q => iceAt b q).filter id).map PyData.bool).length = _; rw [List.length_map, len_filter_id, hk]) (by omega)) (OwnSub.refl _)
    have c1 : ∀ {ρ : Env}, ρ[4]? = some (.dat (.list ((ns.map fun q => iceAt b q).map .bool))) → EvX ⟨K, [], [], E⟩ (tCB (rLen K) (tCons (tVar 4) tNil)) ρ ρ (.int (ns.length : Nat)) := fun h => cl_len (ev_var h) (by show some ((ns.map fun q => iceAt b q).map PyData.bool).length = _; rw [List.length_map, List.length_map]) (by omega)
    have c2 : ∀ {ρ : Env}, ρ[5]? = some (.dat (.int (ns.countP (fun q => iceAt b q) : Nat))) → EvX ⟨K, [], [], E⟩ (tOp (rMulU K) (tC (.int 2)) (tVar 5)) ρ ρ (.int (2 * (ns.countP (fun q => iceAt b q) : Nat))) := fun h => ev_op ev_int (ev_var h) (ux_mul (by omega))
    have s2 : ExS ⟨K, [], [], E⟩ _ [.dat (dB b), .dat (.int (p.1 : Nat)), .dat (.int (p.2 : Nat)), .dat (dR [sgn b p]), .un, .un, .un, .un] (.next _) := exs_if (t := tRet (tVar 3)) (u := tNext) (b := false) (et_is (et_test (ev_op (ev_var (i := 3) rfl) (ev_str (i := "*o")) (ux_inS (K := K)))) (by rw [sgStone]; simpa using hs)) (OwnSub.refl _) (fun z => nomatch z) (fun _ => exs_nil)
    refine giv (exs_seq s1 (exs_seq s2 (exs_seq s3 (exs_seq s4 (exs_ret (ev_if (b := decide (2 * ns.countP (fun q => iceAt b q) = ns.length)) (et_is (et_test (ev_op (c2 rfl) (c1 rfl) gx_eqI)) (decide_eq_decide.mpr (by omega))) (fun z => ev_is (ev_var rfl) ?_)
      (fun z => ev_if (b := decide (ns.length < 2 * ns.countP (fun q => iceAt b q))) (et_is (et_test (ev_op (c2 rfl) (c1 rfl) ux_gtI)) (decide_eq_decide.mpr (by omega))) (fun z2 => ev_is ev_str ?_) (fun z2 => ev_is ev_str ?_))) (OwnSub.refl _))))))
    · rw [if_pos (of_decide_eq_true z)]
    · rw [if_neg (of_decide_eq_false z), if_pos (of_decide_eq_true z2), s35]; rfl
    · rw [if_neg (of_decide_eq_false z), if_neg (of_decide_eq_false z2), s46]; rfl) h
end
end Fb

/-! The bodies of the program's defs, by data (6): ticked, later, fate. -/
namespace Fb
open PySem PySem.Spec PyProof.Rows L2
theorem later_succ : ∀ (n : Nat) (b : Bd), later (n + 1) b = tick (later n b)
  | 0, _ => rfl
  | n + 1, b => by
    show later (n + 1) (tick b) = tick (later n (tick b))
    exact later_succ n (tick b)
theorem isSign_cases {k : Nat} (h : isSign k = true) : k = 35 ∨ k = 46 ∨ k = 42 ∨ k = 111 := by
  simp [or_assoc] at h
  exact h
theorem Wf.next {b : Bd} (W : Wf b) {p : Cl} (h1 : p.1 < hgt b) (h2 : p.2 < wid b) : isSign (nextAt b p) = true := by
  have hs := (W.sgn_at h1 h2).2
  show isSign (if isStone (sgn b p) then sgn b p else if 2 * (nb (hgt b) (wid b) p).countP (fun q => iceAt b q) = (nb (hgt b) (wid b) p).length then sgn b p else if (nb (hgt b) (wid b) p).length < 2 * (nb (hgt b) (wid b) p).countP (fun q => iceAt b q) then 35 else 46) = true
  split
  · exact hs
  · split
    · exact hs
    · split <;> rfl
theorem hgt_tick (b : Bd) : hgt (tick b) = hgt b := by simp [tick, hgt]
theorem wid_tick {b : Bd} (h : 1 ≤ b.length) : wid (tick b) = wid b := by
  obtain ⟨n, hn⟩ : ∃ n, hgt b = n + 1 := ⟨b.length - 1, by show b.length = _; omega⟩
  show ((tick b).headD []).length = _
  unfold tick
  rw [hn, List.range_succ_eq_map]
  simp
theorem Wf.tick {b : Bd} (W : Wf b) : Wf (tick b) := by
  have e1 := hgt_tick b
  have e2 := wid_tick W.h1
  refine ⟨by rw [show (Fb.tick b).length = b.length from e1]; exact W.h1, by rw [show (Fb.tick b).length = b.length from e1]; exact W.h4, by rw [e2]; exact W.w1, by rw [e2]; exact W.w4, by rw [e2, show (Fb.tick b).length = b.length from e1]; exact W.le, fun r hr => ?_⟩
  obtain ⟨i, hi, rfl⟩ := List.mem_map.mp hr
  rw [List.mem_range] at hi
  refine ⟨by rw [e2]; simp, fun k hk => ?_⟩
  obtain ⟨j, hj, rfl⟩ := List.mem_map.mp hk
  rw [List.mem_range] at hj
  exact W.next (p := (i, j)) hi hj
theorem Wf.later : ∀ {n : Nat} {b : Bd}, Wf b → Wf (later n b)
  | 0, _, W => W
  | n + 1, _, W => Wf.later (n := n) W.tick
section
variable {K : PySem.W.Frag} {w : World} {vs : List V} {H : Hp} {Q : VK} {E : XK} {c : Cfg} {ρ ρ1 : Env} {te tr tcol : TE} {b : Bd}
/-- tuple(..) of a list -/
theorem ev_tupOf {ds : List D} (h : EvX c te ρ ρ1 (.list ds)) : EvX c (tCB (rTupleOf c.K) (tCons te tNil)) ρ ρ1 (.tuple ds) := ev_cb (ea_cons h ea_nil) rc_tupleL
theorem sum_ones : ∀ (l : List (List Nat)), (∀ r ∈ l, r.length = 1) → ((l.map tx).map (·.length)).sum = l.length
  | [], _ => rfl
  | a :: l, h => by
    rw [List.map_cons, List.map_cons, List.sum_cons, sum_ones l fun r hr => h r (List.mem_cons_of_mem _ hr), tx_len, h a List.mem_cons_self, List.length_cons]
    omega
theorem flat_ones (l : List Nat) : (l.map fun k => [k]).flatten = l := by
  induction l with
  | nil => rfl
  | cons a l ih => rw [List.map_cons, List.flatten_cons, ih]; rfl
/-- ''.join of signs -/
theorem ev_joinS {l : List Nat} (h : EvX c te ρ ρ1 (.list (l.map fun k => dR [k]))) (hl : l.length ≤ 1000) : EvX c (tM1 (rJoin c.K) (tC (.str "")) te) ρ ρ1 (dR l) := by
  have e : (l.map fun k => dR [k]) = ((l.map fun k => [k]).map tx).map PyData.str := by rw [List.map_map, List.map_map]; rfl
  rw [e] at h
  have hj := rm_join (K := c.K) (a := "") (ys := (l.map fun k => [k]).map tx) (by
    rw [sum_ones _ (fun r hr => by obtain ⟨k, _, rfl⟩ := List.mem_map.mp hr; rfl), str_e, tx_len]
    simp only [List.length_map, List.length_nil, Nat.mul_zero]
    omega)
  rw [join_tx, flat_ones] at hj
  exact ev_m1 ev_str h hj
theorem body_ticked (h : spF (P_ticked K) vs H Q E) : t_ticked K w E { nx := fun _ H' => Q .non H', rt := Q } (L2.start N_ticked vs) H := pure_of (t := t_ticked K w) (fun E ds r q => by
  obtain ⟨b, rfl, W, rfl⟩ := q
  have hh : hgt b ≤ 4 := W.h4
  have hw := W.w4
  refine giv (exs_seq (exs_set (c := ⟨K, [], [], E⟩) (ρ := env0 N_ticked [dB b]) (ev_wid (c := ⟨K, [], [], E⟩) W (ev_var rfl)) (OwnSub.refl _)) (exs_ret (ev_is (ev_tupOf (c := ⟨K, [], [], E⟩) (ev_lcA (c := ⟨K, [], [], E⟩) (List.range (hgt b)) (fun i : Nat => PyData.int (i : Nat)) (fun r => dR ((List.range (wid b)).map fun c => nextAt b (r, c))) (fun i ρ => ρ.set 2 (.dat (.int (i : Nat)))) [2]
    (ei_range (ev_hgt (c := ⟨K, [], [], E⟩) W (ev_var rfl)) (by omega)) (by rw [List.length_range]; omega) rfl (fun _ _ => tg_name) (fun _ h => h) (fun r hr => ?_))) ?_) (OwnSub.refl _)))
  · rw [List.mem_range] at hr
    exact ev_joinS (c := ⟨K, [], [], E⟩) (ev_is (ev_lcA (c := ⟨K, [], [], E⟩) (List.range (wid b)) (fun i : Nat => PyData.int (i : Nat)) (fun cc => dR [nextAt b (r, cc)]) (fun i ρ => ρ.set 3 (.dat (.int (i : Nat)))) [3] (ei_range (ev_var rfl) (by omega)) (by rw [List.length_range]; omega) rfl (fun _ _ => tg_name) (fun _ h => h)
      (fun cc hcc => ev_call (P := P_next_sign K) (ea_cons (ev_var rfl) (ea_cons (ev_var rfl) (ea_cons (ev_var rfl) ea_nil))) ⟨b, (r, cc), rfl, W, hr, List.mem_range.mp hcc, rfl⟩)) (by rw [List.map_map]; rfl)) (by rw [List.length_map, List.length_range]; omega)
  · unfold dB tick
    rw [List.map_map]
    rfl) h
theorem ev_tick (W : Wf b) {E' : XK} (hb : EvX c te ρ ρ1 (dB b)) : EvX c (tCall (spF (P_ticked K)) [] E' (tCons te tNil)) ρ ρ1 (dB (tick b)) := ev_call (ea_cons hb ea_nil) ⟨b, rfl, W, rfl⟩
theorem body_later (h : spF (P_later K) vs H Q E) : t_later K w E { nx := fun _ H' => Q .non H', rt := Q } (L2.start N_later vs) H := pure_of (t := t_later K w) (fun E ds r q => by
  obtain ⟨b, n, rfl, W, hn, rfl⟩ := q
  have lp := exs_for (c := ⟨K, [], [], E⟩) (ρ := env0 N_later [dB b, .int (n : Nat)]) (wi := iRng1 (tCons (tVar 1) tNil)) (g := gName 2) (t := tAsg (tCall (spF (P_ticked K)) [] E (tCons (tVar 0) tNil)) (gName 0)) (items := (List.range n).map fun i : Nat => PyData.int (i : Nat))
    (fun i => [.dat (dB (later i b)), .dat (.int (n : Nat)), .un]) (fun i ρ => ρ.set 2 (.dat (.int (i : Nat)))) (fun _ => [2]) (ei_range (ev_var rfl) (by omega)) (OwnSub.refl _) (fun i ρ => OwnSub.set fun _ _ z => by cases z)
    (fun i d hd => by
      rw [List.getElem?_map] at hd
      cases e : (List.range n)[i]? with
      | none => rw [e] at hd; cases hd
      | some j =>
        rw [e] at hd
        obtain ⟨hl, ej⟩ := List.getElem?_eq_some_iff.mp e
        rw [List.getElem_range] at ej
        subst ej
        obtain rfl : PyData.int (i : Nat) = d := Option.some.inj hd
        exact tg_name)
    (fun i d hd => exs_to (exs_set (ev_tick W.later (ev_var rfl)) (OwnSub.refl _)) (by rw [later_succ]; exact .eq (.eq (.un .nil))))
  rw [List.length_map, List.length_range] at lp
  exact giv (exs_seq lp (exs_ret (ev_var rfl) (OwnSub.refl _)))) h
/-! fate -/
theorem ev_eqB {b' : Bd} (W : Wf b) (W' : Wf b') (h1 : EvX c te ρ ρ (dB b)) (h2 : EvX c tr ρ ρ (dB b')) : EvX c (tOp (rEqD c.K) te tr) ρ ρ (.bool (decide (b = b'))) := ev_op h1 h2 (gx_eq good_bd (by decide) W.ok W'.ok)
theorem body_fate_of (h : spF (P_fate_of K) vs H Q E) : t_fate_of K w E { nx := fun _ H' => Q .non H', rt := Q } (L2.start N_fate_of vs) H := pure_of (t := t_fate_of K w) (fun E ds r q => by
  obtain ⟨b, n, rfl, W, F, hn, rfl⟩ := q
  have tl : ∀ (i : Nat), Wf (later i b) := fun i => W.later
  have lp := exs_while_ret (c := ⟨K, [], [], E⟩) (ρ := [.dat (dB b), .dat (.int (0 : Nat)), .un]) (tt := tB (tC (.bl true))) (ρ1 := [.dat (dB (later n b)), .dat (.int (n : Nat)), .dat (dB (tick (later n b)))]) (d := dF b n)
    (t := tSeq (tAsg (tCall (spF (P_ticked K)) [] E (tCons (tVar 0) tNil)) (gName 2)) (tSeq (tIfS (tTest (tOp (rEqD K) (tVar 2) (tVar 0))) (tRet (tTup (tCons (tVar 1) (tCons (tC (.int 1)) tNil)))) tNext)
      (tSeq (tIfS (tTest (tOp (rEqD K) (tCall (spF (P_ticked K)) [] E (tCons (tVar 2) tNil)) (tVar 0))) (tRet (tTup (tCons (tVar 1) (tCons (tC (.int 2)) tNil)))) tNext) (tPar 0 1 (tCons (tVar 2) (tCons (tOp (rAddU K) (tVar 1) (tC (.int 1))) tNil))))))
    (fun i => [.dat (dB (later i b)), .dat (.int (i : Nat)), .un]) n rfl (fun i hi => ⟨_, et_B ev_bl, OwnSub.refl _, fun hlt => ?_, fun he => ?_⟩)
  · exact giv (exs_seq (exs_set (c := ⟨K, [], [], E⟩) (ρ := env0 N_fate_of [dB b]) ev_int (OwnSub.refl _)) lp)
  · have ns := F.no i hlt
    unfold settled at ns
    have n1 : ¬ tick (later i b) = later i b := fun z => ns (.inl z)
    have n2 : ¬ tick (tick (later i b)) = later i b := fun z => ns (.inr z)
    refine exs_to (exs_seq (exs_set (ev_tick (tl i) (ev_var rfl)) (OwnSub.refl _)) (exs_seq (exs_if (b := false) (et_is (et_test (ev_eqB (c := ⟨K, [], [], E⟩) (tl i).tick (tl i) (ev_var rfl) (ev_var rfl))) (decide_eq_false n1)) (OwnSub.refl _) (fun z => nomatch z) (fun _ => exs_nil))
      (exs_seq (exs_if (b := false) (et_is (et_test (ev_eqB (c := ⟨K, [], [], E⟩) (tl i).tick.tick (tl i) (ev_tick (tl i).tick (ev_var rfl)) (ev_var rfl))) (decide_eq_false n2)) (OwnSub.refl _) (fun z => nomatch z) (fun _ => exs_nil))
      (exs_par (ea_cons (ev_var rfl) (ea_cons (ev_op (ev_var rfl) ev_int ux_addI) ea_nil)) (OwnSub.refl _))))) ?_
    rw [later_succ]
    exact .eq (.eq (.un .nil))
  · subst he
    unfold dF per
    by_cases h1 : tick (later i b) = later i b
    · rw [if_pos h1]
      exact exs_seq (exs_set (ev_tick (tl i) (ev_var rfl)) (OwnSub.refl _)) (exs_seq_ret (exs_if (b := true) (et_is (et_test (ev_eqB (c := ⟨K, [], [], E⟩) (tl i).tick (tl i) (ev_var rfl) (ev_var rfl))) (decide_eq_true h1)) (OwnSub.refl _) (fun _ => exs_ret (ev_tp (ea_cons (ev_var rfl) (ea_cons ev_int ea_nil))) (OwnSub.refl _)) (fun z => nomatch z)))
    · rw [if_neg h1]
      have h2 : tick (tick (later i b)) = later i b := F.at_.resolve_left h1
      exact exs_seq (exs_set (ev_tick (tl i) (ev_var rfl)) (OwnSub.refl _)) (exs_seq (exs_if (b := false) (et_is (et_test (ev_eqB (c := ⟨K, [], [], E⟩) (tl i).tick (tl i) (ev_var rfl) (ev_var rfl))) (decide_eq_false h1)) (OwnSub.refl _) (fun z => nomatch z) (fun _ => exs_nil))
        (exs_seq_ret (exs_if (b := true) (et_is (et_test (ev_eqB (c := ⟨K, [], [], E⟩) (tl i).tick.tick (tl i) (ev_tick (tl i).tick (ev_var rfl)) (ev_var rfl))) (decide_eq_true h2)) (OwnSub.refl _) (fun _ => exs_ret (ev_tp (ea_cons (ev_var rfl) (ea_cons ev_int ea_nil))) (OwnSub.refl _)) (fun z => nomatch z))))) h
end
end Fb

/-! The bodies of the program's defs, by data (7): those that ask for a board. -/
namespace Fb
open PySem PySem.Spec PyProof.Rows L2
section
variable {K : PySem.W.Frag} {w : World} {vs : List V} {H : Hp} {Q : VK} {E : XK} {c : Cfg} {ρ ρ1 : Env} {te tr tcol : TE} {b : Bd}
theorem env0_0 {N : List Str} {d : D} {ds : List D} : (env0 N (d :: ds))[0]? = some (.dat d) := rfl
/-- need_board(board) on a board -/
theorem exs_need (W : Wf b) (h : ρ[0]? = some (.dat (dB b))) (hE : c.E = E) : ExS c (tDrop (tCall (spF (P_need_board K)) [] E (tCons (tVar 0) tNil))) ρ (.next ρ) :=
  exs_drop (ev_call (P := P_need_board K) (ea_cons (ev_var h) ea_nil) ⟨dB b, rfl, W.small, by rw [if_pos W.isB]⟩) (OwnSub.refl _)
theorem asks_of {N : List Str} {u : XK → TS} {z : Bd → D → Prop} (hu : ∀ E b d, Wf b → z b d → ∃ ρ1, ExS ⟨K, [], [], E⟩ (u E) (env0 N [dB b]) (.ret ρ1 d)) :
    ∀ (E : XK) (ds : List D) (r : Rz), Asks K ds r z → ∃ o, ExS ⟨K, [], [], E⟩ (tSeq (tDrop (tCall (spF (P_need_board K)) [] E (tCons (tVar 0) tNil))) (u E)) (env0 N ds) o ∧ outOf o r := fun E ds r p => by
  obtain ⟨v, rfl, hs, ⟨hb, rfl⟩ | ⟨b, d, rfl, W, hz, rfl⟩⟩ := p
  · refine givX (exs_seq_exc (exs_drop_exc (c := ⟨K, [], [], E⟩) (ee_call (P := P_need_board K) (ds := [v]) (ea_cons (ev_var env0_0) ea_nil) ⟨v, rfl, hs, by rw [if_neg (by rw [hb]; exact Bool.false_ne_true)]⟩)))
  · obtain ⟨ρ1, h⟩ := hu E b d W hz
    exact giv (exs_seq (exs_need W env0_0 rfl) h)
theorem body_step (h : spF (P_step K) vs H Q E) : t_step K w E { nx := fun _ H' => Q .non H', rt := Q } (L2.start N_step vs) H :=
  pure_of (t := t_step K w) (P := P_step K) (asks_of (N := N_step) (u := fun E => _) fun E b d W hz => ⟨_, exs_ret (ev_is (ev_tick W (ev_var rfl)) hz.symm) (OwnSub.refl _)⟩) h
theorem body_is_still (h : spF (P_is_still K) vs H Q E) : t_is_still K w E { nx := fun _ H' => Q .non H', rt := Q } (L2.start N_is_still vs) H :=
  pure_of (t := t_is_still K w) (P := P_is_still K) (asks_of (N := N_is_still) (u := fun E => _) fun E b d W hz => ⟨_, exs_ret (ev_is (ev_eqB (c := ⟨K, [], [], E⟩) W.tick W (ev_tick W (ev_var rfl)) (ev_var rfl)) hz.symm) (OwnSub.refl _)⟩) h
theorem ev_fate (W : Wf b) {n : Nat} {E' : XK} (F : Fate b n) (hn : n ≤ 1000) (hb : EvX c te ρ ρ1 (dB b)) : EvX c (tCall (spF (P_fate_of K)) [] E' (tCons te tNil)) ρ ρ1 (dF b n) := ev_call (P := P_fate_of K) (ea_cons hb ea_nil) ⟨b, n, rfl, W, F, hn, rfl⟩
theorem body_fate (h : spF (P_fate K) vs H Q E) : t_fate K w E { nx := fun _ H' => Q .non H', rt := Q } (L2.start N_fate vs) H :=
  pure_of (t := t_fate K w) (P := P_fate K) (asks_of (N := N_fate) (u := fun E => _) fun E b d W hz => by
    obtain ⟨n, F, hn, rfl⟩ := hz
    exact ⟨_, exs_ret (ev_fate W F hn (ev_var rfl)) (OwnSub.refl _)⟩) h
/-! exchanged -/
end
/-- the written dict OTHER -/
def OtherOk (K : PySem.W.Frag) (w : World) : Prop := ∀ k, isSign k = true → KDct K w (He.ga K "OTHER") (tx [k]) (.str (tx [other k]))
section
variable {K : PySem.W.Frag} {w : World} {vs : List V} {H : Hp} {Q : VK} {E : XK} {c : Cfg} {ρ ρ1 : Env} {te tr tcol : TE} {b : Bd}
theorem signs_dR (r : List Nat) : signs (tx r) = r.map fun k => dR [k] := rfl
theorem body_exchanged (O : OtherOk K w) (h : spF (P_exchanged K) vs H Q E) : t_exchanged K w E { nx := fun _ H' => Q .non H', rt := Q } (L2.start N_exchanged vs) H :=
  pure_of (t := t_exchanged K w) (P := P_exchanged K) (asks_of (N := N_exchanged) (u := fun E => _) fun E b d W hz => by
    have hh := W.h4
    have hw := W.w4
    refine ⟨_, exs_ret (ev_is (ev_tupOf (c := ⟨K, [], [], E⟩) (ev_lcA (c := ⟨K, [], [], E⟩) b dR (fun r => dR (r.map other)) (fun r ρ => ρ.set 1 (.dat (dR r))) [1] (ui_tup (ev_var rfl)) (by omega) rfl (fun _ _ => tg_name) (fun _ h => h) (fun r hr => ?_))) ?_) (OwnSub.refl _)⟩
    · obtain ⟨e1, e2⟩ := W.rows r hr
      exact ev_joinS (c := ⟨K, [], [], E⟩) (l := r.map other) (ev_is (ev_lcA (c := ⟨K, [], [], E⟩) r (fun k => dR [k]) (fun k => dR [other k]) (fun k ρ => ρ.set 2 (.dat (dR [k]))) [2] (ei_is (ui_str (x := tx r) (ev_var rfl)) (signs_dR r)) (by omega) rfl (fun _ _ => tg_name) (fun _ h => h)
        (fun k hk => ev_kd (c := ⟨K, [], [], E⟩) (k := tx [k]) (ev_var rfl) (O k (e2 k hk)))) (by rw [List.map_map]; rfl)) (by rw [List.length_map]; omega)
    · rw [hz]
      unfold exch dB
      rw [List.map_map]
      rfl) h
theorem Wf.exch (W : Wf b) : Wf (exch b) := by
  have hw : wid (Fb.exch b) = wid b := by
    cases b with
    | nil => rfl
    | cons r b => show (r.map other).length = r.length; rw [List.length_map]
  have hl : (Fb.exch b).length = b.length := List.length_map ..
  refine ⟨by rw [hl]; exact W.h1, by rw [hl]; exact W.h4, by rw [hw]; exact W.w1, by rw [hw]; exact W.w4, by rw [hw, hl]; exact W.le, fun r hr => ?_⟩
  obtain ⟨u, hu, rfl⟩ := List.mem_map.mp hr
  obtain ⟨e1, e2⟩ := W.rows u hu
  refine ⟨by rw [List.length_map, hw, e1], fun k hk => ?_⟩
  obtain ⟨m, hm, rfl⟩ := List.mem_map.mp hk
  rcases isSign_cases (e2 m hm) with z | z | z | z <;> subst z <;> rfl
end
end Fb

/-! The bodies of the program's defs, by data (8): free_cells, drawn, tension, never_change. -/
namespace Fb
open PySem PySem.Spec PyProof.Rows L2
/-- for over range(n): R i ahead of turn i, i at slot j -/
theorem exs_range {c : Cfg} {ρ : Env} {te : TE} {t : TS} {n j : Nat} (R : Nat → Env) (hi : EvX c te ρ (R 0) (.int (n : Nat))) (hn : n ≤ 1000000) (s : OwnSub (R 0) ρ)
    (hb : ∀ i, i < n → ExS c t ((R i).set j (.dat (.int (i : Nat)))) (.next (R (i + 1)))) : ExS c (tFor (iRng1 (tCons te tNil)) (gName j) t) ρ (.next (R n)) := by
  have lp := exs_for (t := t) (g := gName j) (items := (List.range n).map fun i : Nat => PyData.int (i : Nat)) R (fun i ρ => ρ.set j (.dat (.int (i : Nat)))) (fun _ => [j]) (ei_range hi hn) s (fun i ρ => OwnSub.set fun _ _ z => by cases z)
    (fun i d hd => by
      rw [List.getElem?_map] at hd
      cases e : (List.range n)[i]? with
      | none => rw [e] at hd; cases hd
      | some k =>
        rw [e] at hd
        obtain ⟨hl, ej⟩ := List.getElem?_eq_some_iff.mp e
        rw [List.getElem_range] at ej
        subst ej
        obtain rfl : PyData.int (i : Nat) = d := Option.some.inj hd
        exact tg_name)
    (fun i d hd => hb i (by
      obtain ⟨hl, _⟩ := List.getElem?_eq_some_iff.mp hd
      rwa [List.length_map, List.length_range] at hl))
  rwa [List.length_map, List.length_range] at lp
/-- for over enumerate(..): the pair at slots j, k -/
theorem exs_enum {c : Cfg} {ρ : Env} {wi : TI} {t : TS} {j k : Nat} {α : Type} (xs : List α) (enc : α → D) (R : Nat → Env) (hi : EvI c wi ρ (R 0) (enum (xs.map enc))) (s : OwnSub (R 0) ρ) (z : α)
    (hb : ∀ i, i < xs.length → ExS c t (((R i).set j (.dat (.int (i : Nat)))).set k (.dat (enc (xs.getD i z)))) (.next (R (i + 1)))) : ExS c (tFor wi (gTup c.K 2 (gCons (gName j) (gCons (gName k) gNil))) t) ρ (.next (R xs.length)) := by
  have lp := exs_for (t := t) (g := gTup c.K 2 (gCons (gName j) (gCons (gName k) gNil))) (items := enum (xs.map enc)) R (fun i ρ => (ρ.set j (.dat (.int (i : Nat)))).set k (.dat (enc (xs.getD i z)))) (fun _ => [j, k]) hi s (fun i ρ => (OwnSub.set fun _ _ z => by cases z).trans (OwnSub.set fun _ _ z => by cases z))
    (fun i d hd => by
      have hl : i < xs.length := by
        obtain ⟨hl, _⟩ := List.getElem?_eq_some_iff.mp hd
        rwa [enum_len, List.length_map] at hl
      have e1 : (xs.map enc)[i]? = some (enc (xs.getD i z)) := by
        rw [List.getElem?_map, List.getElem?_eq_getElem hl, List.getD_eq_getElem?_getD, List.getElem?_eq_getElem hl]; rfl
      rw [enum_get e1] at hd
      obtain rfl := Option.some.inj hd
      exact tg_pair)
    (fun i d hd => hb i (by
      obtain ⟨hl, _⟩ := List.getElem?_eq_some_iff.mp hd
      rwa [enum_len, List.length_map] at hl))
  rwa [enum_len, List.length_map] at lp
/-- enumerate of a typed list, as typed items -/
theorem enum_map {α : Type} (xs : List α) (enc : α → D) (z : α) : enum (xs.map enc) = (List.range xs.length).map fun i : Nat => PyData.tuple [.int (i : Nat), enc (xs.getD i z)] := by
  apply List.ext_getElem
  · rw [enum_len, List.length_map, List.length_map, List.length_range]
  · intro i h1 h2
    have hl : i < xs.length := by rwa [enum_len, List.length_map] at h1
    have e1 : (xs.map enc)[i]? = some (enc (xs.getD i z)) := by
      rw [List.getElem?_map, List.getElem?_eq_getElem hl, List.getD_eq_getElem?_getD, List.getElem?_eq_getElem hl]; rfl
    have e2 := enum_get e1
    rw [List.getElem?_eq_getElem h1] at e2
    rw [Option.some.inj e2, List.getElem_map, List.getElem_range]
section
variable {K : PySem.W.Frag} {w : World} {vs : List V} {H : Hp} {Q : VK} {E : XK} {c : Cfg} {ρ ρ1 : Env} {te tr tcol : TE} {b : Bd}
theorem free_take (b : Bd) : ∀ (n r : Nat), n + 1 ≤ b.length → freeFrom r (b.take (n + 1)) = freeFrom r (b.take n) ++ freeRow (r + n) (b.getD n []) := by
  induction b with
  | nil => intro n r h; simp at h
  | cons row rest ih =>
    intro n r h
    cases n with
    | zero => simp [freeFrom]
    | succ n =>
      have h' : n + 1 ≤ rest.length := by simpa using h
      rw [List.take_succ_cons, List.take_succ_cons]
      show freeRow r row ++ freeFrom (r + 1) (rest.take (n + 1)) = (freeRow r row ++ freeFrom (r + 1) (rest.take n)) ++ freeRow (r + (n + 1)) ((row :: rest).getD (n + 1) [])
      rw [ih n (r + 1) h', List.append_assoc, Nat.add_right_comm]
      rfl
theorem freeRow_len (r : Nat) (row : List Nat) : (freeRow r row).length ≤ row.length := by
  unfold freeRow
  rw [List.length_map]
  refine Nat.le_trans (List.length_filter_le _ _) ?_
  rw [List.length_range]
  exact Nat.le_refl _
theorem freeFrom_len {m : Nat} : ∀ (b : Bd) (r : Nat), (∀ u ∈ b, u.length = m) → (freeFrom r b).length ≤ b.length * m
  | [], _, _ => Nat.zero_le _
  | row :: rest, r, h => by
    show (freeRow r row ++ freeFrom (r + 1) rest).length ≤ (rest.length + 1) * m
    rw [List.length_append, Nat.succ_mul]
    have h1 := freeRow_len r row
    rw [h row List.mem_cons_self] at h1
    have h2 := freeFrom_len rest (r + 1) fun u hu => h u (List.mem_cons_of_mem _ hu)
    omega
theorem Wf.free_len (W : Wf b) : (free b).length ≤ 12 := by
  have h := freeFrom_len (m := wid b) b 0 fun u hu => (W.rows u hu).1
  have h2 := W.le
  rw [Nat.mul_comm] at h2
  unfold free
  omega
theorem body_free_cells (h : spF (P_free_cells K) vs H Q E) : t_free_cells K w E { nx := fun _ H' => Q .non H', rt := Q } (L2.start N_free_cells vs) H := pure_of (t := t_free_cells K w) (fun E ds r q => by
  obtain ⟨b, rfl, W, rfl⟩ := q
  have hh := W.h4
  have hw := W.w4
  have take_le : ∀ i, (freeFrom 0 (b.take i)).length ≤ 16 := fun i => by
    have h := freeFrom_len (m := wid b) (b.take i) 0 fun u hu => (W.rows u (List.mem_of_mem_take hu)).1
    have h2 : (b.take i).length * wid b ≤ 4 * 4 := Nat.mul_le_mul (by rw [List.length_take]; omega) hw
    omega
  have lp := exs_enum (c := ⟨K, [], [], E⟩) (ρ := [.dat (dB b), .dat (.list []), .un, .un, .un, .un]) (wi := iEnumU K (tCons (tVar 0) tNil)) (j := 2) (k := 3)
    (t := tAsg (tOp (rAddU K) (tVar 1) (tLc (iEnumU K (tCons (tVar 3) tNil)) (gTup K 2 (gCons (gName 4) (gCons (gName 5) gNil))) (tTest (tOp (rInU K) (tVar 5) (tC (.str "#.")))) (tTup (tCons (tVar 2) (tCons (tVar 4) tNil))) [4, 5])) (gName 1))
    b dR (fun i => [.dat (dB b), .dat (.list ((freeFrom 0 (b.take i)).map dC)), .un, .un, .un, .un]) (ui_enumT (ea_cons (ev_var rfl) ea_nil)) (OwnSub.refl _) [] (fun i hi => ?_)
  · rw [List.take_length] at lp
    exact giv (exs_seq (exs_set (c := ⟨K, [], [], E⟩) (ρ := env0 N_free_cells [dB b]) (ev_ls ea_nil) (OwnSub.refl _)) (exs_seq lp (exs_ret (ev_var rfl) (OwnSub.refl _))))
  · have hrow := W.row hi
    generalize hg : b.getD i [] = row at hrow ⊢
    refine exs_to (exs_set (ev_is (ev_op (ev_var rfl) (ev_lcM (c := ⟨K, [], [], E⟩) (List.range row.length) (fun j : Nat => PyData.tuple [.int (j : Nat), dR [row.getD j 0]]) (fun j => isFree (row.getD j 0)) (fun j => dC (i, j)) (fun j ρ => (ρ.set 4 (.dat (.int (j : Nat)))).set 5 (.dat (dR [row.getD j 0]))) [4, 5]
      (ei_is (ui_enumS (x := tx row) (ea_cons (ev_var rfl) ea_nil)) (by rw [signs_dR, enum_map _ _ 0])) (by rw [List.length_range]; omega) rfl (fun _ _ => tg_pair) (fun _ h => h) (fun j _ => et_is (et_test (ev_op (ev_var rfl) ev_str ux_inS)) (sgFree _)) (fun j _ _ => ev_tp (ea_cons (ev_var rfl) (ea_cons (ev_var rfl) ea_nil)))) (ux_addL ?_)) (y := .list ((freeFrom 0 (b.take (i + 1))).map dC)) ?_) (OwnSub.refl _)) (.eq (.eq (.un (.un (.un (.un .nil))))))
    · rw [List.length_map, List.length_map]
      have := take_le i
      have h2 := List.length_filter_le (fun j => isFree (row.getD j 0)) (List.range row.length)
      rw [List.length_range] at h2
      omega
    · rw [free_take b i 0 hi, List.map_append, hg, Nat.zero_add]
      congr 2
      unfold freeRow
      rw [List.map_map]
      rfl) h
theorem ev_free (W : Wf b) {E' : XK} (hb : EvX c te ρ ρ1 (dB b)) : EvX c (tCall (spF (P_free_cells K)) [] E' (tCons te tNil)) ρ ρ1 (.list ((free b).map dC)) := ev_call (P := P_free_cells K) (ea_cons hb ea_nil) ⟨b, rfl, W, rfl⟩
theorem body_need_small (h : spF (P_need_small K) vs H Q E) : t_need_small K w E { nx := fun _ H' => Q .non H', rt := Q } (L2.start N_need_small vs) H := pure_of (t := t_need_small K w) (fun E ds r q => by
  obtain ⟨b, rfl, W, rfl⟩ := q
  have hl := W.free_len
  have tst : EvT ⟨K, [], [], E⟩ (tTest (tOp (rGtU K) (tCB (rLen K) (tCons (tCall (spF (P_free_cells K)) [] E (tCons (tVar 0) tNil)) tNil)) (tC (.int 9)))) (env0 N_need_small [dB b]) (env0 N_need_small [dB b]) (decide (9 < (free b).length)) :=
    et_is (et_test (ev_op (cl_len (ev_free W (ev_var rfl)) (n := (free b).length) (by show some ((free b).map dC).length = _; rw [List.length_map]) (by omega)) ev_int ux_gtI)) (decide_eq_decide.mpr (by omega))
  by_cases h9 : (free b).length ≤ 9
  · rw [if_pos h9]
    exact givN (exs_if (b := false) (et_is tst (decide_eq_false (by omega))) (OwnSub.refl _) (fun z => nomatch z) (fun _ => exs_nil))
  · rw [if_neg h9]
    exact givX (exs_if (b := true) (et_is tst (decide_eq_true (by omega))) (OwnSub.refl _) (fun _ => exs_raise) (fun z => nomatch z))) h
end
end Fb

/-! The bodies of the program's defs, by data (9): drawn, tension, never_change. -/
namespace Fb
open PySem PySem.Spec PyProof.Rows L2
theorem ua_str {s u : Str} (h : s.length + u.length ≤ 100000) : RX rIaddU (.str s) (.str u) (.str (s ++ u)) := .r (rx_addS h)
theorem ua_int {i j : Int} : RX rIaddU (.int i) (.int j) (.int (i + j)) := .l rx_I
section
variable {K : PySem.W.Frag} {w : World} {vs : List V} {H : Hp} {Q : VK} {E : XK} {c : Cfg} {ρ ρ1 : Env} {te tr tcol : TE} {b : Bd}
/-- a cell in a list or a tuple of cells -/
theorem ev_inCells {d : D} {cs : List Cl} {p : Cl} (h : CellsD d cs) (h1 : EvX c te ρ ρ (dC p)) (h2 : EvX c tr ρ ρ d) : EvX c (tOp (rInU c.K) te tr) ρ ρ (.bool (decide (p ∈ cs))) := by
  rcases h with rfl | rfl
  · exact ev_is (ev_op h1 h2 (gx_inL good_cl (by decide) trivial (fun _ _ => trivial))) (congrArg PyData.bool (decide_eq_decide.mpr Iff.rfl))
  · exact ev_is (ev_op h1 h2 (gx_inT good_cl (by decide) trivial (fun _ _ => trivial))) (congrArg PyData.bool (decide_eq_decide.mpr Iff.rfl))
def drawS (some : List Cl) (r : Nat) (row : List Nat) (c : Nat) : Nat := if isStone (row.getD c 0) then row.getD c 0 else if (r, c) ∈ some then 35 else 46
theorem drawRow_eq (some : List Cl) (r : Nat) (row : List Nat) : drawRow some r row = (List.range row.length).map (drawS some r row) := rfl
theorem body_drawn (h : spF (P_drawn K) vs H Q E) : t_drawn K w E { nx := fun _ H' => Q .non H', rt := Q } (L2.start N_drawn vs) H := pure_of (t := t_drawn K w) (fun E ds r q => by
  obtain ⟨b, d, cs, rfl, hd, W, rfl⟩ := q
  have hh := W.h4
  have hw := W.w4
  refine giv (ρ1 := [.dat (dB b), .dat d, .dat (.list ((List.range (hgt b)).map fun r => dR (drawRow cs r (b.getD r [])))), .un, .un, .un, .un, .un]) (exs_own (c := ⟨K, [], [], E⟩) (ρ := env0 N_drawn [dB b, d]) (i := 2) fun pa => ?_)
  have lp := exs_enum (c := ⟨K, [], [], E⟩) (ρ := [.dat (dB b), .dat d, .own pa [], .un, .un, .un, .un, .un]) (wi := iEnumU K (tCons (tVar 0) tNil)) (j := 3) (k := 4)
    (t := tSeq (tAsg (tC (.str "")) (gName 5)) (tSeq (tFor (iEnumU K (tCons (tVar 4) tNil)) (gTup K 2 (gCons (gName 6) (gCons (gName 7) gNil))) (tAug 5 (tIf (tTest (tOp (rInU K) (tVar 7) (tC (.str "*o")))) (tVar 7) (tIf (tTest (tOp (rInU K) (tTup (tCons (tVar 3) (tCons (tVar 6) tNil))) (tVar 1))) (tC (.str "#")) (tC (.str ".")))) rIaddU))
      (tDrop (tBM K "list" rAppend (tVar 2) (tCons (tVar 5) tNil)))))
    b dR (fun i => [.dat (dB b), .dat d, .own pa ((List.range i).map fun r => dR (drawRow cs r (b.getD r []))), .un, .un, .un, .un, .un]) (ui_enumT (ea_cons (ev_var rfl) ea_nil)) (OwnSub.refl _) [] (fun i hi => ?_)
  · exact exs_seq lp (exs_tell (i := 2) rfl (exs_ret (ev_is (ev_tupOf (c := ⟨K, [], [], E⟩) (ev_var rfl)) (by unfold dB drawn; rw [List.map_map]; rfl)) (OwnSub.refl _)))
  · have hrow := W.row hi
    generalize hg : b.getD i [] = row at hrow ⊢
    have hl : row.length ≤ 4 := by omega
    generalize hds : ((List.range i).map fun r => dR (drawRow cs r (b.getD r []))) = ds
    have hdl : ds.length = i := by rw [← hds, List.length_map, List.length_range]
    have inner := exs_enum (c := ⟨K, [], [], E⟩) (ρ := [.dat (dB b), .dat d, .own pa ds, .dat (.int (i : Nat)), .dat (dR row), .dat (dR []), .un, .un]) (wi := iEnumU K (tCons (tVar 4) tNil)) (j := 6) (k := 7)
      (t := tAug 5 (tIf (tTest (tOp (rInU K) (tVar 7) (tC (.str "*o")))) (tVar 7) (tIf (tTest (tOp (rInU K) (tTup (tCons (tVar 3) (tCons (tVar 6) tNil))) (tVar 1))) (tC (.str "#")) (tC (.str ".")))) rIaddU)
      row (fun k => dR [k]) (fun j => [.dat (dB b), .dat d, .own pa ds, .dat (.int (i : Nat)), .dat (dR row), .dat (dR ((List.range j).map (drawS cs i row))), .un, .un]) (ui_enumS (x := tx row) (ea_cons (ev_var rfl) ea_nil)) (OwnSub.refl _) 0
      (fun j hj => exs_to (exs_aug (x := dR ((List.range j).map (drawS cs i row))) (y := dR [drawS cs i row j]) (z := dR ((List.range (j + 1)).map (drawS cs i row))) rfl
        (ev_if (b := isStone (row.getD j 0)) (et_is (et_test (ev_op (ev_var rfl) (ev_str (i := "*o")) (ux_inS (K := K)))) (sgStone _)) (fun z => ev_is (ev_var rfl) (by unfold drawS; rw [if_pos z]))
          (fun z => ev_if (b := decide ((i, j) ∈ cs)) (et_test (ev_inCells (c := ⟨K, [], [], E⟩) hd (ev_tp (ea_cons (ev_var rfl) (ea_cons (ev_var rfl) ea_nil))) (ev_var rfl)))
            (fun z2 => ev_is ev_str (by unfold drawS; rw [if_neg (by rw [z]; exact Bool.false_ne_true), if_pos (of_decide_eq_true z2), s35]; rfl)) (fun z2 => ev_is ev_str (by unfold drawS; rw [if_neg (by rw [z]; exact Bool.false_ne_true), if_neg (of_decide_eq_false z2), s46]; rfl)))) (OwnSub.refl _)
        (by
          have e : dR ((List.range (j + 1)).map (drawS cs i row)) = .str (tx ((List.range j).map (drawS cs i row)) ++ tx [drawS cs i row j]) := by rw [tx_app, List.range_succ, List.map_append]; rfl
          rw [e]
          exact ua_str (by rw [tx_len, tx_len, List.length_map, List.length_range]; simp; omega))) (.eq (.eq (.eq (.eq (.eq (.eq (.un (.un .nil)))))))))
    refine exs_to (exs_seq (exs_set (ev_is (ev_str (i := "")) (y := dR []) (by rw [str_e]; rfl)) (OwnSub.refl _)) (exs_seq inner (exs_app (i := 2) (p := pa) (ds := ds) rfl (ev_var rfl) rfl (OwnSub.refl _) (by omega) (fun h => by cases h)))) ?_
    have e : ((List.range (i + 1)).map fun r => dR (drawRow cs r (b.getD r []))) = ds ++ [dR ((List.range row.length).map (drawS cs i row))] := by
      rw [List.range_succ, List.map_append, hds, ← drawRow_eq, ← hg]
      rfl
    rw [e]
    exact .eq (.eq (.eq (.un (.un (.un (.un (.un .nil)))))))) h
theorem ev_drawn {d : D} {cs : List Cl} (hd : CellsD d cs) (W : Wf b) {E' : XK} (hb : EvX c te ρ ρ1 (dB b)) {ρ2 : Env} (h2 : EvX c tr ρ1 ρ2 d) : EvX c (tCall (spF (P_drawn K)) [] E' (tCons te (tCons tr tNil))) ρ ρ2 (dB (drawn b cs)) := ev_call (P := P_drawn K) (ea_cons hb (ea_cons h2 ea_nil)) ⟨b, d, cs, rfl, hd, W, rfl⟩
theorem body_all_ice (h : spF (P_all_ice K) vs H Q E) : t_all_ice K w E { nx := fun _ H' => Q .non H', rt := Q } (L2.start N_all_ice vs) H := pure_of (t := t_all_ice K w) (fun E ds r q => by
  obtain ⟨b, rfl, W, rfl⟩ := q
  exact giv (exs_ret (c := ⟨K, [], [], E⟩) (ρ := env0 N_all_ice [dB b]) (ev_drawn (.inl rfl) W (ev_var rfl) (ev_free W (ev_var rfl))) (OwnSub.refl _))) h
theorem hgt_drawn (b : Bd) (cs : List Cl) : hgt (drawn b cs) = hgt b := by simp [drawn, hgt]
theorem Wf.drawn (W : Wf b) (cs : List Cl) : wid (drawn b cs) = wid b ∧ Wf (drawn b cs) := by
  have hl : (Fb.drawn b cs).length = b.length := hgt_drawn b cs
  have hrow : ∀ r, r < hgt b → (drawRow cs r (b.getD r [])).length = wid b := fun r hr => by
    rw [drawRow_eq, List.length_map, List.length_range, (W.row hr).2.1]
  have hw : wid (Fb.drawn b cs) = wid b := by
    obtain ⟨n, hn⟩ : ∃ n, hgt b = n + 1 := ⟨b.length - 1, by have := W.h1; show b.length = _; omega⟩
    have e : Fb.drawn b cs = drawRow cs 0 (b.getD 0 []) :: (List.range n).map fun r => drawRow cs (r + 1) (b.getD (r + 1) []) := by
      unfold Fb.drawn
      rw [hn, List.range_succ_eq_map, List.map_cons, List.map_map]
      rfl
    rw [e]
    exact hrow 0 W.h1
  refine ⟨hw, by rw [hl]; exact W.h1, by rw [hl]; exact W.h4, by rw [hw]; exact W.w1, by rw [hw]; exact W.w4, by rw [hw, hl]; exact W.le, fun r hr => ?_⟩
  obtain ⟨i, hi, rfl⟩ := List.mem_map.mp hr
  rw [List.mem_range] at hi
  refine ⟨by rw [hw]; exact hrow i hi, fun k hk => ?_⟩
  rw [drawRow_eq] at hk
  obtain ⟨j, hj, rfl⟩ := List.mem_map.mp hk
  rw [List.mem_range, (W.row hi).2.1] at hj
  unfold drawS
  split
  · exact (W.sgn_at (p := (i, j)) hi hj).2
  · split <;> rfl
end
end Fb

/-! The bodies of the program's defs, by data (10): tension, never_change. -/
namespace Fb
open PySem PySem.Spec PyProof.Rows L2
theorem hgt_later : ∀ (n : Nat) (b : Bd), hgt (later n b) = hgt b
  | 0, _ => rfl
  | n + 1, b => (hgt_later n (tick b)).trans (hgt_tick b)
theorem wid_later : ∀ (n : Nat) {b : Bd}, Wf b → wid (later n b) = wid b
  | 0, _, _ => rfl
  | n + 1, b, W => (wid_later n W.tick).trans (wid_tick W.h1)
theorem mem_freeRow {r : Nat} {row : List Nat} {c : Cl} : c ∈ freeRow r row ↔ c.1 = r ∧ c.2 < row.length ∧ isFree (row.getD c.2 0) = true := by
  unfold freeRow
  rw [List.mem_map]
  constructor
  · rintro ⟨j, hj, rfl⟩
    rw [List.mem_filter, List.mem_range] at hj
    exact ⟨rfl, hj⟩
  · rintro ⟨h1, h2, h3⟩
    exact ⟨c.2, List.mem_filter.mpr ⟨List.mem_range.mpr h2, h3⟩, by rw [← h1]⟩
theorem mem_freeFrom : ∀ {b : Bd} {r : Nat} {c : Cl}, c ∈ freeFrom r b ↔ r ≤ c.1 ∧ c.1 - r < b.length ∧ c.2 < (b.getD (c.1 - r) []).length ∧ isFree ((b.getD (c.1 - r) []).getD c.2 0) = true
  | [], r, c => by simp [freeFrom]
  | row :: rest, r, c => by
    show c ∈ freeRow r row ++ freeFrom (r + 1) rest ↔ _
    rw [List.mem_append, mem_freeRow, mem_freeFrom]
    constructor
    · rintro (⟨h1, h2, h3⟩ | ⟨h1, h2, h3, h4⟩)
      · rw [h1]
        simp only [Nat.sub_self]
        exact ⟨Nat.le_refl _, by simp, h2, h3⟩
      · have e : c.1 - r = (c.1 - (r + 1)) + 1 := by omega
        rw [e]
        exact ⟨by omega, by simp; omega, h3, h4⟩
    · rintro ⟨h1, h2, h3, h4⟩
      by_cases z : c.1 = r
      · left
        rw [z, Nat.sub_self] at h3 h4
        exact ⟨z, h3, h4⟩
      · right
        have e : c.1 - r = (c.1 - (r + 1)) + 1 := by omega
        rw [e] at h2 h3 h4
        exact ⟨by omega, by simpa using h2, h3, h4⟩
theorem Wf.mem_free {b : Bd} (W : Wf b) {c : Cl} : c ∈ free b ↔ c.1 < hgt b ∧ c.2 < wid b ∧ isFree (sgn b c) = true := by
  unfold free
  rw [mem_freeFrom, Nat.sub_zero]
  constructor
  · rintro ⟨_, h1, h2, h3⟩
    exact ⟨h1, by rw [← (W.row h1).2.1]; exact h2, h3⟩
  · rintro ⟨h1, h2, h3⟩
    exact ⟨Nat.zero_le _, h1, by rw [(W.row h1).2.1]; exact h2, h3⟩
theorem kept_sub {b : Bd} {c : Cl} : ∀ {i : Nat}, c ∈ kept b i → c ∈ free b
  | 0, h => h
  | i + 1, h => kept_sub (i := i) (List.mem_filter.mp h).1
theorem kept_len {b : Bd} : ∀ (i : Nat), (kept b i).length ≤ (free b).length
  | 0 => Nat.le_refl _
  | i + 1 => Nat.le_trans (List.length_filter_le _ _) (kept_len i)
section
variable {K : PySem.W.Frag} {w : World} {vs : List V} {H : Hp} {Q : VK} {E : XK} {c : Cfg} {ρ ρ1 : Env} {te tr tcol : TE} {b : Bd}
theorem ev_ice (W : Wf b) {p : Cl} (h1 : p.1 < hgt b) (h2 : p.2 < wid b) {E' : XK} (hb : EvX c te ρ ρ1 (dB b)) {ρ2 : Env} (hp : EvX c tr ρ1 ρ2 (dC p)) : EvX c (tCall (spF (P_ice_at K)) [] E' (tCons te (tCons tr tNil))) ρ ρ2 (.bool (iceAt b p)) :=
  ev_call (P := P_ice_at K) (ea_cons hb (ea_cons hp ea_nil)) ⟨b, p, rfl, W, h1, h2, rfl⟩
theorem ev_nb (W : Wf b) {p : Cl} (h1 : p.1 < hgt b) (h2 : p.2 < wid b) {E' : XK} (hb : EvX c te ρ ρ1 (dB b)) {ρ2 : Env} (hp : EvX c tr ρ1 ρ2 (dC p)) : EvX c (tCall (spF (P_neighbours K)) [] E' (tCons te (tCons tr tNil))) ρ ρ2 (.list ((nb (hgt b) (wid b) p).map dC)) :=
  ev_call (P := P_neighbours K) (ea_cons hb (ea_cons hp ea_nil)) ⟨b, p, rfl, W, h1, h2, rfl⟩
theorem ev_mk {p : Cl} (h1 : EvX c te ρ ρ (.int (p.1 : Nat))) (h2 : EvX c tr ρ ρ (.int (p.2 : Nat))) : EvX c (tTup (tCons te (tCons tr tNil))) ρ ρ (dC p) := ev_tp (ea_cons h1 (ea_cons h2 ea_nil))
theorem body_never_change (h : spF (P_never_change K) vs H Q E) : t_never_change K w E { nx := fun _ H' => Q .non H', rt := Q } (L2.start N_never_change vs) H :=
  pure_of (t := t_never_change K w) (P := P_never_change K) (asks_of (N := N_never_change) (u := fun E => _) fun E b d W hz => by
    obtain ⟨n, F, hn, rfl⟩ := hz
    have hl := W.free_len
    have lp := exs_range (c := ⟨K, [], [], E⟩) (ρ := [.dat (dB b), .un, .dat (.list ((free b).map dC)), .dat (dB b), .un]) (te := tOp (rAddU K) (tOp (rIx K) (tCall (spF (P_fate_of K)) [] E (tCons (tVar 0) tNil)) (tC (.int 0))) (tC (.int 2)))
      (t := tSeq (tAsg (tCall (spF (P_ticked K)) [] E (tCons (tVar 3) tNil)) (gName 3)) (tAsg (tLc (iAny K (tVar 2)) (gName 4) (tTest (tOp (rEqD K) (tCall (spF (P_ice_at K)) [] E0 (tCons (tVar 3) (tCons (tVar 4) tNil))) (tCall (spF (P_ice_at K)) [] E0 (tCons (tVar 0) (tCons (tVar 4) tNil))))) (tVar 4) [4]) (gName 2)))
      (n := n + 2) (j := 1) (fun i => [.dat (dB b), .un, .dat (.list ((kept b i).map dC)), .dat (dB (later i b)), .un])
      (ev_is (ev_op (ev_op (ev_fate W F hn (ev_var rfl)) ev_int (ux_ixT (d := .int (n : Nat)) rfl)) ev_int ux_addI) rfl) (by omega) (OwnSub.refl _) (fun i hi => ?_)
    · exact ⟨_, exs_seq (exs_tup (c := ⟨K, [], [], E⟩) (ρ := env0 N_never_change [dB b]) (ev_tp (ea_cons (ev_free W (ev_var rfl)) (ea_cons (ev_var rfl) ea_nil))) (OwnSub.refl _)) (exs_seq lp (exs_ret (ev_tupOf (c := ⟨K, [], [], E⟩) (ev_var rfl)) (OwnSub.refl _)))⟩
    · have W' : Wf (later (i + 1) b) := W.later
      rw [later_succ] at W'
      have b1 : ∀ q ∈ kept b i, q.1 < hgt b ∧ q.2 < wid b := fun q hq => by
        obtain ⟨z1, z2, _⟩ := W.mem_free.mp (kept_sub hq)
        exact ⟨z1, z2⟩
      have e1 : hgt (tick (later i b)) = hgt b := by rw [← later_succ, hgt_later]
      have e2 : wid (tick (later i b)) = wid b := by rw [← later_succ, wid_later _ W]
      refine exs_to (exs_seq (exs_set (ev_tick (W.later) (ev_var rfl)) (OwnSub.refl _)) (exs_set (ev_is (ev_lcM (c := ⟨K, [], [], E⟩) (kept b i) dC (fun q => decide (iceAt (tick (later i b)) q = iceAt b q)) dC (fun q ρ => ρ.set 4 (.dat (dC q))) [4] (ui_list (ev_var rfl)) (by have := kept_len (b := b) i; omega) rfl (fun _ _ => tg_name) (fun _ h => h)
        (fun q hq => et_test (ev_op (ev_ice W' (by rw [e1]; exact (b1 q hq).1) (by rw [e2]; exact (b1 q hq).2) (ev_var rfl) (ev_var rfl)) (ev_ice W (b1 q hq).1 (b1 q hq).2 (ev_var rfl) (ev_var rfl)) gx_eqB)) (fun q _ _ => ev_var rfl)) (y := .list ((kept b (i + 1)).map dC)) (by rw [← later_succ]; rfl)) (OwnSub.refl _))) ?_
      rw [later_succ]
      exact .eq (.un (.eq (.eq (.un .nil))))) h
theorem sum_succ (f : Nat → Nat) (n : Nat) : ((List.range (n + 1)).map f).sum = ((List.range n).map f).sum + f n := by
  rw [List.range_succ, List.map_append, List.sum_append]
  simp
theorem body_tension (h : spF (P_tension K) vs H Q E) : t_tension K w E { nx := fun _ H' => Q .non H', rt := Q } (L2.start N_tension vs) H :=
  pure_of (t := t_tension K w) (P := P_tension K) (asks_of (N := N_tension) (u := fun E => _) fun E b d W hz => by
    have hh := W.h4
    have hw := W.w4
    subst hz
    have hT := W.tick
    have e1 := hgt_tick b
    have e2 := wid_tick W.h1
    let f : Nat → Nat → Nat := fun r c => (nb (hgt b) (wid b) (r, c)).countP fun q => iceAt b q != iceAt (tick b) (r, c)
    let g : Nat → Nat := fun r => ((List.range (wid b)).map (f r)).sum
    have lp := exs_range (c := ⟨K, [], [], E⟩) (ρ := [.dat (dB b), .un, .dat (dB (tick b)), .dat (.int (0 : Nat)), .un, .un, .un]) (te := tCB (rLen K) (tCons (tVar 0) tNil))
      (t := tFor (iRng1 (tCons (tCB (rLen K) (tCons (tOp (rIx K) (tVar 0) (tC (.int 0))) tNil)) tNil)) (gName 4) (tSeq (tAsg (tCall (spF (P_ice_at K)) [] E (tCons (tVar 2) (tCons (tTup (tCons (tVar 1) (tCons (tVar 4) tNil))) tNil))) (gName 5))
        (tAug 3 (tCB (rLen K) (tCons (tLc (iAny K (tCall (spF (P_neighbours K)) [] E (tCons (tVar 0) (tCons (tTup (tCons (tVar 1) (tCons (tVar 4) tNil))) tNil)))) (gName 6) (tTest (tOp (rNeD K) (tCall (spF (P_ice_at K)) [] E0 (tCons (tVar 0) (tCons (tVar 6) tNil))) (tVar 5))) (tVar 6) [6]) tNil)) rIaddU)))
      (n := hgt b) (j := 1) (fun i => [.dat (dB b), .un, .dat (dB (tick b)), .dat (.int (((List.range i).map g).sum : Nat)), .un, .un, .un]) (ev_hgt (c := ⟨K, [], [], E⟩) W (ev_var rfl)) (by show b.length ≤ _; omega) (OwnSub.refl _) (fun i hi => ?_)
    · exact ⟨_, exs_seq (exs_par (c := ⟨K, [], [], E⟩) (ρ := env0 N_tension [dB b]) (ea_cons (ev_tick W (ev_var rfl)) (ea_cons ev_int ea_nil)) (OwnSub.refl _)) (exs_seq lp (exs_ret (ev_var rfl) (OwnSub.refl _)))⟩
    · have inner := exs_range (c := ⟨K, [], [], E⟩) (ρ := [.dat (dB b), .dat (.int (i : Nat)), .dat (dB (tick b)), .dat (.int (((List.range i).map g).sum : Nat)), .un, .un, .un]) (te := tCB (rLen K) (tCons (tOp (rIx K) (tVar 0) (tC (.int 0))) tNil))
        (t := tSeq (tAsg (tCall (spF (P_ice_at K)) [] E (tCons (tVar 2) (tCons (tTup (tCons (tVar 1) (tCons (tVar 4) tNil))) tNil))) (gName 5))
          (tAug 3 (tCB (rLen K) (tCons (tLc (iAny K (tCall (spF (P_neighbours K)) [] E (tCons (tVar 0) (tCons (tTup (tCons (tVar 1) (tCons (tVar 4) tNil))) tNil)))) (gName 6) (tTest (tOp (rNeD K) (tCall (spF (P_ice_at K)) [] E0 (tCons (tVar 0) (tCons (tVar 6) tNil))) (tVar 5))) (tVar 6) [6]) tNil)) rIaddU))
        (n := wid b) (j := 4) (fun j => [.dat (dB b), .dat (.int (i : Nat)), .dat (dB (tick b)), .dat (.int ((((List.range i).map g).sum + ((List.range j).map (f i)).sum : Nat))), .un, .un, .un]) (ev_wid (c := ⟨K, [], [], E⟩) W (ev_var rfl)) (by omega) (OwnSub.refl _) (fun j hj => ?_)
      · refine exs_to inner ?_
        rw [sum_succ g i]
        exact .eq (.un (.eq (.eq (.un (.un (.un .nil))))))
      · have hnb : ∀ q ∈ nb (hgt b) (wid b) (i, j), q.1 < hgt b ∧ q.2 < wid b := fun q hq => nb_in hi hj hq
        have hlen : (nb (hgt b) (wid b) (i, j)).length ≤ 4 := nb_len
        refine exs_to (exs_seq (exs_set (ev_ice hT (p := (i, j)) (by rw [e1]; exact hi) (by rw [e2]; exact hj) (ev_var rfl) (ev_mk (p := (i, j)) (ev_var rfl) (ev_var rfl))) (OwnSub.refl _)) (exs_aug rfl (cl_len (c := ⟨K, [], [], E⟩) (n := f i j) (ev_lcM (c := ⟨K, [], [], E⟩) (nb (hgt b) (wid b) (i, j)) dC (fun q => iceAt b q != iceAt (tick b) (i, j)) dC (fun q ρ => ρ.set 6 (.dat (dC q))) [6]
          (ui_list (ev_nb W (p := (i, j)) hi hj (ev_var rfl) (ev_mk (p := (i, j)) (ev_var rfl) (ev_var rfl)))) (by omega) rfl (fun _ _ => tg_name) (fun _ h => h) (fun q hq => et_is (et_test (ev_op (ev_ice W (hnb q hq).1 (hnb q hq).2 (ev_var rfl) (ev_var rfl)) (ev_var rfl) gx_neB)) (by rw [bne, beq_dec])) (fun q _ _ => ev_var rfl)) ?_ ?_) (OwnSub.refl _) ua_int)) ?_
        · show some (((nb (hgt b) (wid b) (i, j)).filter _).map dC).length = some (f i j)
          rw [List.length_map, ← List.countP_eq_length_filter]
        · have : f i j ≤ (nb (hgt b) (wid b) (i, j)).length := List.countP_le_length
          omega
        · rw [sum_succ (f i) j, ← Nat.add_assoc]
          exact .eq (.eq (.eq (.eq (.un (.un (.un .nil))))))) h
end
end Fb

/-! Every board settles: the energy falls. -/
namespace Fb
open PySem PySem.Spec PyProof.Rows L2
/-! ### boards by their signs -/
section
variable {b : Bd}
theorem sgn_tick (W : Wf b) {p : Cl} (h1 : p.1 < hgt b) (h2 : p.2 < wid b) : sgn (tick b) p = nextAt b p := by
  have e : (tick b).getD p.1 [] = (List.range (wid b)).map fun c => nextAt b (p.1, c) := by
    unfold tick
    rw [List.getD_eq_getElem?_getD, List.getElem?_map, List.getElem?_range h1]
    rfl
  unfold sgn
  rw [e, List.getD_eq_getElem?_getD, List.getElem?_map, List.getElem?_range h2]
  rfl
theorem nextAt_eq (b : Bd) (p : Cl) : nextAt b p = if isStone (sgn b p) = true then sgn b p else if 2 * (nb (hgt b) (wid b) p).countP (fun q => iceAt b q) = (nb (hgt b) (wid b) p).length then sgn b p else if (nb (hgt b) (wid b) p).length < 2 * (nb (hgt b) (wid b) p).countP (fun q => iceAt b q) then 35 else 46 := rfl
theorem stone_tick (W : Wf b) {p : Cl} (h1 : p.1 < hgt b) (h2 : p.2 < wid b) : isStone (sgn (tick b) p) = isStone (sgn b p) := by
  rw [sgn_tick W h1 h2, nextAt_eq]
  by_cases hs : isStone (sgn b p) = true
  · rw [if_pos hs]
  · rw [if_neg hs]
    have e : isStone (sgn b p) = false := by simpa using hs
    rw [e]
    split
    · exact e
    · split <;> rfl
theorem ext_bd {b' : Bd} (W : Wf b) (W' : Wf b') (hh : hgt b = hgt b') (hw : wid b = wid b') (h : ∀ p : Cl, p.1 < hgt b → p.2 < wid b → sgn b p = sgn b' p) : b = b' := by
  apply List.ext_getElem hh
  intro i h1 h2
  have r1 := W.row (r := i) h1
  have r2 := W'.row (r := i) h2
  have g1 : b.getD i [] = b[i] := by rw [List.getD_eq_getElem?_getD, List.getElem?_eq_getElem h1]; rfl
  have g2 : b'.getD i [] = b'[i] := by rw [List.getD_eq_getElem?_getD, List.getElem?_eq_getElem h2]; rfl
  have l1 := r1.2.1
  have l2 := r2.2.1
  rw [g1] at l1
  rw [g2] at l2
  apply List.ext_getElem (by rw [l1, l2, hw])
  intro j h3 h4
  have hj : j < wid b := by rw [← l1]; exact h3
  have e := h (i, j) h1 hj
  unfold sgn at e
  simp only [g1, g2] at e
  rw [List.getD_eq_getElem?_getD, List.getD_eq_getElem?_getD, List.getElem?_eq_getElem h3, List.getElem?_eq_getElem h4] at e
  exact e
/-- a free sign is told by its ice -/
theorem sgn_of_ice {k m : Nat} (h1 : isSign k = true) (h2 : isSign m = true) (hs : isStone k = isStone m) (hi : isIce k = isIce m) : k = m := by
  rcases isSign_cases h1 with z | z | z | z <;> rcases isSign_cases h2 with y | y | y | y <;> subst z <;> subst y <;> first | rfl | (exact absurd hs (by decide)) | (exact absurd hi (by decide))
theorem ext_ice {b' : Bd} (W : Wf b) (W' : Wf b') (hh : hgt b = hgt b') (hw : wid b = wid b') (hs : ∀ p : Cl, p.1 < hgt b → p.2 < wid b → isStone (sgn b p) = isStone (sgn b' p)) (hi : ∀ p : Cl, p.1 < hgt b → p.2 < wid b → iceAt b p = iceAt b' p) : b = b' :=
  ext_bd W W' hh hw fun p h1 h2 => sgn_of_ice (W.sgn_at h1 h2).2 (W'.sgn_at (by rw [← hh]; exact h1) (by rw [← hw]; exact h2)).2 (hs p h1 h2) (hi p h1 h2)
end
/-! ### sums -/
def cells (h w : Nat) : List Cl := (List.range h).flatMap fun r => (List.range w).map fun c => (r, c)
theorem mem_cells {h w : Nat} {p : Cl} : p ∈ cells h w ↔ p.1 < h ∧ p.2 < w := by
  unfold cells
  rw [List.mem_flatMap]
  constructor
  · rintro ⟨r, hr, hp⟩
    obtain ⟨c, hc, rfl⟩ := List.mem_map.mp hp
    exact ⟨List.mem_range.mp hr, List.mem_range.mp hc⟩
  · rintro ⟨h1, h2⟩
    exact ⟨p.1, List.mem_range.mpr h1, List.mem_map.mpr ⟨p.2, List.mem_range.mpr h2, rfl⟩⟩
def edges (h w : Nat) : List (Cl × Cl) := (cells h w).flatMap fun a => (nb h w a).map fun q => (a, q)
def sumL {α : Type} (l : List α) (f : α → Nat) : Nat := (l.map f).sum
theorem sumL_nil {α : Type} (f : α → Nat) : sumL [] f = 0 := rfl
theorem sumL_cons {α : Type} (a : α) (l : List α) (f : α → Nat) : sumL (a :: l) f = f a + sumL l f := rfl
theorem sumL_append {α : Type} (l m : List α) (f : α → Nat) : sumL (l ++ m) f = sumL l f + sumL m f := by
  unfold sumL
  rw [List.map_append, List.sum_append]
theorem sumL_perm {α : Type} {l m : List α} (h : l.Perm m) (f : α → Nat) : sumL l f = sumL m f := by
  induction h with
  | nil => rfl
  | cons a _ ih => rw [sumL_cons, sumL_cons, ih]
  | swap a b l => rw [sumL_cons, sumL_cons, sumL_cons, sumL_cons]; omega
  | trans _ _ ih1 ih2 => rw [ih1, ih2]
theorem sumL_flatMap {α β : Type} (l : List α) (g : α → List β) (f : β → Nat) : sumL (l.flatMap g) f = sumL l fun a => sumL (g a) f := by
  induction l with
  | nil => rfl
  | cons a l ih => rw [List.flatMap_cons, sumL_append, ih, sumL_cons]
theorem sumL_map {α β : Type} (l : List α) (g : α → β) (f : β → Nat) : sumL (l.map g) f = sumL l fun a => f (g a) := by
  unfold sumL
  rw [List.map_map]
  rfl
theorem sumL_congr {α : Type} {l : List α} {f g : α → Nat} (h : ∀ a ∈ l, f a = g a) : sumL l f = sumL l g := by
  unfold sumL
  rw [List.map_congr_left h]
theorem sumL_le {α : Type} {l : List α} {f g : α → Nat} (h : ∀ a ∈ l, f a ≤ g a) : sumL l f ≤ sumL l g := by
  induction l with
  | nil => exact Nat.le_refl _
  | cons a l ih =>
    rw [sumL_cons, sumL_cons]
    exact Nat.add_le_add (h a List.mem_cons_self) (ih fun x hx => h x (List.mem_cons_of_mem _ hx))
theorem sumL_lt {α : Type} {l : List α} {f g : α → Nat} (h : ∀ a ∈ l, f a ≤ g a) {a : α} (ha : a ∈ l) (hl : f a < g a) : sumL l f < sumL l g := by
  induction l with
  | nil => cases ha
  | cons x l ih =>
    rw [sumL_cons, sumL_cons]
    rcases List.mem_cons.mp ha with z | z
    · subst z
      exact Nat.add_lt_add_of_lt_of_le hl (sumL_le fun y hy => h y (List.mem_cons_of_mem _ hy))
    · exact Nat.add_lt_add_of_le_of_lt (h x List.mem_cons_self) (ih (fun y hy => h y (List.mem_cons_of_mem _ hy)) z)
theorem sumL_add {α : Type} (l : List α) (f g : α → Nat) : (sumL l fun a => f a + g a) = sumL l f + sumL l g := by
  induction l with
  | nil => rfl
  | cons a l ih => rw [sumL_cons, sumL_cons, sumL_cons, ih]; omega
theorem sumL_one {α : Type} (l : List α) (f : α → Nat) (h : ∀ a ∈ l, f a ≤ 1) : sumL l f ≤ l.length := by
  induction l with
  | nil => exact Nat.le_refl _
  | cons a l ih =>
    rw [sumL_cons, List.length_cons]
    have h1 := h a List.mem_cons_self
    have h2 := ih fun x hx => h x (List.mem_cons_of_mem _ hx)
    omega
theorem sumL_count {α : Type} (l : List α) (p : α → Bool) : (sumL l fun a => if p a = true then 1 else 0) = l.countP p := by
  induction l with
  | nil => rfl
  | cons a l ih => rw [sumL_cons, List.countP_cons, ih]; omega
theorem edges_swap : ∀ h, h < 5 → ∀ w, w < 5 → ((edges h w).map fun e => (e.2, e.1)).isPerm (edges h w) = true := by decide +kernel
theorem edges_len : ∀ h, h < 5 → ∀ w, w < 5 → h * w ≤ 12 → (edges h w).length ≤ 34 ∧ (cells h w).length ≤ 12 := by decide +kernel
/-- disagreements of u with v -/
def dis (a b : Bool) : Nat := if a = b then 0 else 1
theorem dis_comm (a b : Bool) : dis a b = dis b a := by cases a <;> cases b <;> rfl
theorem dis_le (a b : Bool) : dis a b ≤ 1 := by unfold dis; split <;> omega
/-- what cell a pays for being z where v stands -/
def pay (h w : Nat) (v : Cl → Bool) (a : Cl) (z : Bool) : Nat := 2 * (sumL (nb h w a) fun q => dis z (v q)) + dis z (v a)
def energy (h w : Nat) (u v : Cl → Bool) : Nat := sumL (cells h w) fun a => pay h w v a (u a)
theorem energy_eq (h w : Nat) (u v : Cl → Bool) : energy h w u v = 2 * (sumL (edges h w) fun e => dis (u e.1) (v e.2)) + sumL (cells h w) fun a => dis (u a) (v a) := by
  unfold energy pay edges
  rw [sumL_add, sumL_flatMap]
  congr 1
  have : ∀ (l : List Cl) (f : Cl → Nat), (sumL l fun a => 2 * f a) = 2 * sumL l f := fun l f => by
    induction l with
    | nil => rfl
    | cons a l ih => rw [sumL_cons, sumL_cons, ih]; omega
  rw [this]
  congr 1
  exact sumL_congr fun a _ => (sumL_map (nb h w a) (fun q => (a, q)) (fun e : Cl × Cl => dis (u e.1) (v e.2))).symm
theorem energy_comm {h w : Nat} (hh : h < 5) (hw : w < 5) (u v : Cl → Bool) : energy h w u v = energy h w v u := by
  rw [energy_eq, energy_eq]
  have p := List.isPerm_iff.mp (edges_swap h hh w hw)
  have e := sumL_perm p fun e => dis (u e.1) (v e.2)
  rw [sumL_map] at e
  rw [← e]
  congr 1
  · congr 1
    exact sumL_congr fun a _ => dis_comm _ _
  · exact sumL_congr fun a _ => dis_comm _ _
theorem energy_le {h w : Nat} (hh : h < 5) (hw : w < 5) (hm : h * w ≤ 12) (u v : Cl → Bool) : energy h w u v ≤ 80 := by
  rw [energy_eq]
  obtain ⟨h1, h2⟩ := edges_len h hh w hw hm
  have e1 := sumL_one (edges h w) (fun e => dis (u e.1) (v e.2)) fun _ _ => dis_le _ _
  have e2 := sumL_one (cells h w) (fun a => dis (u a) (v a)) fun _ _ => dis_le _ _
  omega
/-! ### the tick pays least -/
theorem sum_dis (l : List Cl) (v : Cl → Bool) : (sumL l fun q => dis true (v q)) + l.countP v = l.length ∧ (sumL l fun q => dis false (v q)) = l.countP v := by
  induction l with
  | nil => exact ⟨rfl, rfl⟩
  | cons a l ih =>
    obtain ⟨i1, i2⟩ := ih
    rw [sumL_cons, sumL_cons, List.countP_cons, List.length_cons]
    cases v a with
    | true =>
      have d1 : dis true true = 0 := rfl
      have d2 : dis false true = 1 := rfl
      rw [d1, d2, if_pos rfl]
      omega
    | false =>
      have d1 : dis true false = 1 := rfl
      have d2 : dis false false = 0 := rfl
      rw [d1, d2, if_neg Bool.false_ne_true]
      omega
section
variable {b : Bd}
theorem ice_tick (W : Wf b) {p : Cl} (h1 : p.1 < hgt b) (h2 : p.2 < wid b) (hs : isStone (sgn b p) = false) :
    iceAt (tick b) p = if 2 * (nb (hgt b) (wid b) p).countP (fun q => iceAt b q) = (nb (hgt b) (wid b) p).length then iceAt b p else decide ((nb (hgt b) (wid b) p).length < 2 * (nb (hgt b) (wid b) p).countP (fun q => iceAt b q)) := by
  unfold iceAt
  rw [sgn_tick W h1 h2, nextAt_eq, hs, if_neg Bool.false_ne_true]
  show isIce (if 2 * (nb (hgt b) (wid b) p).countP (fun q => iceAt b q) = (nb (hgt b) (wid b) p).length then sgn b p else if (nb (hgt b) (wid b) p).length < 2 * (nb (hgt b) (wid b) p).countP (fun q => iceAt b q) then 35 else 46) = if 2 * (nb (hgt b) (wid b) p).countP (fun q => iceAt b q) = (nb (hgt b) (wid b) p).length then isIce (sgn b p) else decide ((nb (hgt b) (wid b) p).length < 2 * (nb (hgt b) (wid b) p).countP (fun q => iceAt b q))
  split
  · rfl
  · split
    · rename_i z
      rw [decide_eq_true z]
      rfl
    · rename_i z
      rw [decide_eq_false z]
      rfl
theorem ice_stone (W : Wf b) {p : Cl} (h1 : p.1 < hgt b) (h2 : p.2 < wid b) (hs : isStone (sgn b p) = true) : iceAt (tick b) p = iceAt b p := by
  unfold iceAt
  rw [sgn_tick W h1 h2, nextAt_eq, if_pos hs]
theorem pay_least (W : Wf b) {p : Cl} (h1 : p.1 < hgt b) (h2 : p.2 < wid b) (hs : isStone (sgn b p) = false) {z : Bool} (hz : z ≠ iceAt (tick b) p) :
    pay (hgt b) (wid b) (iceAt b) p (iceAt (tick b) p) < pay (hgt b) (wid b) (iceAt b) p z := by
  have e := ice_tick W h1 h2 hs
  obtain ⟨s1, s2⟩ := sum_dis (nb (hgt b) (wid b) p) (iceAt b)
  have ez : z = !iceAt (tick b) p := by cases z <;> cases h : iceAt (tick b) p <;> simp_all
  subst ez
  unfold pay
  generalize iceAt (tick b) p = y at e ⊢
  generalize (nb (hgt b) (wid b) p).countP (fun q => iceAt b q) = k at *
  have s1' : (sumL (nb (hgt b) (wid b) p) fun q => dis true (iceAt b q)) + k = (nb (hgt b) (wid b) p).length := s1
  have s2' : (sumL (nb (hgt b) (wid b) p) fun q => dis false (iceAt b q)) = k := s2
  generalize (nb (hgt b) (wid b) p).length = d at *
  have dl := dis_le
  have d1 : dis true true = 0 := rfl
  have d2 : dis false false = 0 := rfl
  have d3 : dis true false = 1 := rfl
  have d4 : dis false true = 1 := rfl
  cases y with
  | true =>
    show 2 * (sumL (nb (hgt b) (wid b) p) fun q => dis true (iceAt b q)) + dis true (iceAt b p) < 2 * (sumL (nb (hgt b) (wid b) p) fun q => dis false (iceAt b q)) + dis false (iceAt b p)
    by_cases c : 2 * k = d
    · rw [if_pos c] at e
      rw [← e]
      omega
    · rw [if_neg c] at e
      have hlt := of_decide_eq_true e.symm
      have := dl true (iceAt b p)
      omega
  | false =>
    show 2 * (sumL (nb (hgt b) (wid b) p) fun q => dis false (iceAt b q)) + dis false (iceAt b p) < 2 * (sumL (nb (hgt b) (wid b) p) fun q => dis true (iceAt b q)) + dis true (iceAt b p)
    by_cases c : 2 * k = d
    · rw [if_pos c] at e
      rw [← e]
      omega
    · rw [if_neg c] at e
      have hlt := of_decide_eq_false e.symm
      have := dl false (iceAt b p)
      omega
/-! ### it settles -/
def en (b : Bd) : Nat := energy (hgt b) (wid b) (iceAt (tick b)) (iceAt b)
theorem en_fall (W : Wf b) (h : tick (tick b) ≠ b) : en (tick b) < en b := by
  have hh : hgt b < 5 := by have := W.h4; show b.length < 5; omega
  have hw : wid b < 5 := by have := W.w4; omega
  have W1 := W.tick
  have e1 := hgt_tick b
  have e2 := wid_tick W.h1
  unfold en
  rw [e1, e2, energy_comm hh hw (iceAt (tick b)) (iceAt b)]
  -- the cell where they differ
  have hex : ∃ p : Cl, p.1 < hgt b ∧ p.2 < wid b ∧ iceAt (tick (tick b)) p ≠ iceAt b p := by
    refine Classical.byContradiction fun hn => h ?_
    refine ext_ice W1.tick W (by rw [hgt_tick, e1]) (by rw [wid_tick W1.h1, e2]) (fun p h1 h2 => ?_) (fun p h1 h2 => ?_)
    · rw [hgt_tick, e1] at h1
      rw [wid_tick W1.h1, e2] at h2
      rw [stone_tick W1 (by rw [e1]; exact h1) (by rw [e2]; exact h2), stone_tick W h1 h2]
    · rw [hgt_tick, e1] at h1
      rw [wid_tick W1.h1, e2] at h2
      exact Classical.byContradiction fun z => hn ⟨p, h1, h2, z⟩
  obtain ⟨p, h1, h2, hp⟩ := hex
  have key : ∀ a ∈ cells (hgt b) (wid b), iceAt (tick (tick b)) a ≠ iceAt b a → pay (hgt b) (wid b) (iceAt (tick b)) a (iceAt (tick (tick b)) a) < pay (hgt b) (wid b) (iceAt (tick b)) a (iceAt b a) := fun a ha hne => by
    obtain ⟨a1, a2⟩ := mem_cells.mp ha
    have g1 : a.1 < hgt (tick b) := by rw [e1]; exact a1
    have g2 : a.2 < wid (tick b) := by rw [e2]; exact a2
    have hs : isStone (sgn (tick b) a) = false := by
      cases hs : isStone (sgn (tick b) a) with
      | false => rfl
      | true =>
        have hs0 := hs
        rw [stone_tick W a1 a2] at hs0
        exact absurd ((ice_stone W1 g1 g2 hs).trans (ice_stone W a1 a2 hs0)) hne
    have := pay_least W1 g1 g2 hs (z := iceAt b a) (fun z => hne z.symm)
    rw [e1, e2] at this
    exact this
  unfold energy
  refine sumL_lt (fun a ha => ?_) (mem_cells.mpr ⟨h1, h2⟩) (key p (mem_cells.mpr ⟨h1, h2⟩) hp)
  by_cases z : iceAt (tick (tick b)) a = iceAt b a
  · rw [z]
    exact Nat.le_refl _
  · exact Nat.le_of_lt (key a ha z)
theorem settles : ∀ (m : Nat) (b : Bd), Wf b → en b ≤ m → ∃ n, n ≤ m ∧ tick (tick (later n b)) = later n b
  | m, b, W, h => by
    by_cases z : tick (tick b) = b
    · exact ⟨0, Nat.zero_le _, z⟩
    · have hf := en_fall W z
      match m, h with
      | 0, h => exact absurd hf (by omega)
      | m + 1, h =>
        obtain ⟨n, hn, e⟩ := settles m (tick b) W.tick (by omega)
        exact ⟨n + 1, by omega, e⟩
theorem first_of {P : Nat → Prop} [DecidablePred P] : ∀ {n : Nat}, P n → ∃ m, m ≤ n ∧ P m ∧ ∀ k, k < m → ¬ P k
  | n, h => by
    induction n using Nat.strongRecOn with
    | _ n ih =>
      by_cases z : ∃ k, k < n ∧ P k
      · obtain ⟨k, hk, hp⟩ := z
        obtain ⟨m, hm, h1, h2⟩ := ih k hk hp
        exact ⟨m, by omega, h1, h2⟩
      · exact ⟨n, Nat.le_refl _, h, fun k hk hp => z ⟨k, hk, hp⟩⟩
theorem en_le (W : Wf b) : en b ≤ 80 := by
  have h4 := W.h4
  have w4 := W.w4
  have hl := W.le
  exact energy_le (by show b.length < 5; omega) (by omega) (by rw [Nat.mul_comm]; exact hl) _ _
theorem fate_ex' (W : Wf b) {m : Nat} (hm : en b ≤ m) : ∃ n, n ≤ m ∧ Fate b n := by
  obtain ⟨n, hn, e⟩ := settles m b W hm
  obtain ⟨m', hm', h1, h2⟩ := first_of (P := fun n => settled b n) (n := n) (.inr e)
  exact ⟨m', by omega, h1, h2⟩
theorem fate_ex (W : Wf b) : ∃ n, n ≤ 80 ∧ Fate b n := fate_ex' W (en_le W)
theorem Fate.uniq {n m : Nat} (h : Fate b n) (k : Fate b m) : n = m := by
  rcases Nat.lt_trichotomy n m with z | z | z
  · exact absurd h.at_ (k.no n z)
  · exact z
  · exact absurd k.at_ (h.no m z)
end
end Fb

/-! Promises (2): freezing. -/
namespace Fb
open PySem PySem.Spec PyProof.Rows L2
/-- the cells of one size that go on from some by cells of the rest -/
def comb : Nat → List Cl → List Cl → List (List Cl)
  | 0, sm, _ => [sm]
  | _ + 1, _, [] => []
  | k + 1, sm, c :: rest => comb k (sm ++ [c]) rest ++ comb (k + 1) sm rest
abbrev ltC (a b : Cl) : Prop := a.1 < b.1 ∨ (a.1 = b.1 ∧ a.2 < b.2)
/-- where the walk stands: what stands ahead of the rest is not behind the last one -/
structure ChOk (sm pre suf : List Cl) : Prop where
  sorted : (pre ++ suf).Pairwise ltC
  pre_ : ∀ c ∈ pre, ∃ l, sm.getLast? = some l ∧ ¬ ltC l c
  suf_ : ∀ c ∈ suf, ∀ l, sm.getLast? = some l → ltC l c
def dCs (s : List Cl) : D := .tuple (s.map dC)
def P_chosen_n (K : PySem.W.Frag) (n : Nat) (ds : List D) (r : Rz) : Prop := ∃ sm pre suf k, ds = [dCs sm, .list ((pre ++ suf).map dC), .int ((sm.length + k : Nat))] ∧ k < n ∧ sm.length + k ≤ 20 ∧ (pre ++ suf).length ≤ 12 ∧ ChOk sm pre suf ∧ r = .inl (.list ((comb k sm suf).map dCs))
def P_chosen (K : PySem.W.Frag) (ds : List D) (r : Rz) : Prop := P_chosen_n K 21 ds r
def freezeB (b : Bd) (n : Nat) (cs : List Cl) : Bool := decide (tick (allIce b) = allIce b) && decide (later n (drawn b cs) = allIce b)
def P_freezes (K : PySem.W.Frag) (ds : List D) (r : Rz) : Prop := ∃ b cs n, ds = [dB b, dCs cs] ∧ Wf b ∧ Fate (drawn b cs) n ∧ n ≤ 1000 ∧ r = .inl (.bool (freezeB b n cs))
/-- the ticks after which it settles -/
def fateN (b : Bd) : Nat := ((List.range 81).find? fun n => decide (settled b n)).getD 0
theorem fateN_eq {b : Bd} {n : Nat} (F : Fate b n) (hn : n ≤ 80) : fateN b = n := by
  unfold fateN
  have : (List.range 81).find? (fun n => decide (settled b n)) = some n := by
    rw [List.find?_range_eq_some]
    exact ⟨by simpa using F.at_, by simp; omega, fun j hj => by simpa using F.no j hj⟩
  rw [this]
  rfl
theorem fateN_ok {b : Bd} (W : Wf b) : Fate b (fateN b) ∧ fateN b ≤ 80 := by
  obtain ⟨n, hn, F⟩ := fate_ex W
  rw [fateN_eq F hn]
  exact ⟨F, hn⟩
def freezes (b : Bd) (cs : List Cl) : Bool := freezeB b (fateN (drawn b cs)) cs
/-- the sets of free cells by size, in the program's order -/
def combs (b : Bd) : List (List Cl) := (List.range ((free b).length + 1)).flatMap fun k => comb k [] (free b)
def dOpt : Option (List Cl) → D
  | none => .none
  | some s => dCs s
def P_fewest_freezing (K : PySem.W.Frag) (ds : List D) (r : Rz) : Prop := ∃ v, ds = [v] ∧ smallB v ∧ ((isBoardD v = false ∧ r = .inr (He.ga K "InvalidBoard")) ∨
  ∃ b, v = dB b ∧ Wf b ∧ ((9 < (free b).length ∧ r = .inr (He.ga K "TooLarge")) ∨ ((free b).length ≤ 9 ∧ r = .inl (dOpt ((combs b).find? fun s => freezes b s)))))
section
variable {K : PySem.W.Frag} {vs : List V} {H : Hp} {Q : VK} {E : XK}
theorem len_chosen_n {n : Nat} (h : spF (P_chosen_n K n) vs H Q E) : vs.length = 3 := spF_len (fun ds r p => by obtain ⟨_, _, _, _, e, _⟩ := p; rw [e]; rfl) h
theorem len_chosen (h : spF (P_chosen K) vs H Q E) : vs.length = 3 := len_chosen_n (n := 21) (K := K) (show spF (P_chosen_n K 21) vs H Q E from h)
theorem len_freezes (h : spF (P_freezes K) vs H Q E) : vs.length = 2 := spF_len (fun ds r p => by obtain ⟨_, _, _, e, _⟩ := p; rw [e]; rfl) h
theorem len_fewest_freezing (h : spF (P_fewest_freezing K) vs H Q E) : vs.length = 1 := spF_len (fun ds r p => by obtain ⟨_, e, _⟩ := p; rw [e]; rfl) h
end
end Fb

/-! The readings of the program's defs (2) (printed by gen.py). -/
namespace Fb
open PySem PySem.Spec PyProof.Rows L2
abbrev N_chosen : List Str := ["some", "cells", "size", "found", "cell"]
def t_chosen (K : PySem.W.Frag) (w : World) (n : Nat) (E : XK) : TS := (tSeq (tIfS (tTest (tOp (rEqD K) (tCB (rLen K) (tCons (tVar 0) tNil)) (tVar 2))) (tRet (tLst (tCons (tVar 0) tNil))) tNext)
 (tSeq (tAsg (tLst tNil) (gName 3))
 (tSeq (tFor (iAny K (tVar 1)) (gName 4) (tIfS (tOr (tTest (tOp (rEqD K) (tVar 0) (tTup tNil))) (tTest (tOp (rGtU K) (tVar 4) (tOp (rIx K) (tVar 0) (tUn (rU fun i => .int (-i)) (tC (.int 1))))))) (tAsg (tOp (rAddU K) (tVar 3) (tCall (spF (P_chosen_n K n)) [] E (tCons (tOp (rAddU K) (tVar 0) (tTup (tCons (tVar 4) tNil))) (tCons (tVar 1) (tCons (tVar 2) tNil))))) (gName 3)) tNext))
 (tRet (tVar 3)))))
abbrev N_freezes : List Str := ["board", "some", "start", "goal"]
def t_freezes (K : PySem.W.Frag) (w : World) (E : XK) : TS := (tSeq (tPar 2 3 (tCons (tCall (spF (P_drawn K)) [] E (tCons (tVar 0) (tCons (tVar 1) tNil))) (tCons (tCall (spF (P_all_ice K)) [] E (tCons (tVar 0) tNil)) tNil)))
 (tRet (tAndV (tOp (rEqD K) (tCall (spF (P_ticked K)) [] E (tCons (tVar 3) tNil)) (tVar 3)) (tOp (rEqD K) (tCall (spF (P_later K)) [] E (tCons (tVar 2) (tCons (tOp (rIx K) (tCall (spF (P_fate_of K)) [] E (tCons (tVar 2) tNil)) (tC (.int 0))) tNil))) (tVar 3)))))
abbrev N_fewest_freezing : List Str := ["board", "own", "size", "some"]
def t_fewest_freezing (K : PySem.W.Frag) (w : World) (E : XK) : TS := (tSeq (tDrop (tCall (spF (P_need_board K)) [] E (tCons (tVar 0) tNil)))
 (tSeq (tDrop (tCall (spF (P_need_small K)) [] E (tCons (tVar 0) tNil)))
 (tSeq (tAsg (tCall (spF (P_free_cells K)) [] E (tCons (tVar 0) tNil)) (gName 1))
 (tSeq (tFor (iRng1 (tCons (tOp (rAddU K) (tCB (rLen K) (tCons (tVar 1) tNil)) (tC (.int 1))) tNil)) (gName 2) (tFor (iAny K (tCall (spF (P_chosen K)) [] E (tCons (tTup tNil) (tCons (tVar 1) (tCons (tVar 2) tNil))))) (gName 3) (tIfS (tB (tCall (spF (P_freezes K)) [] E (tCons (tVar 0) (tCons (tVar 3) tNil)))) (tRet (tVar 3)) tNext)))
 (tRet (tC .non))))))
end Fb

/-! The bodies of the program's defs, by data (11): freezing. -/
namespace Fb
open PySem PySem.Spec PyProof.Rows L2
theorem ltC_irr (a : Cl) : ¬ ltC a a := by unfold ltC; omega
theorem ltC_asym {a b : Cl} (h : ltC a b) : ¬ ltC b a := by unfold ltC at *; omega
theorem ltC_trans {a b c : Cl} (h : ltC a b) (k : ltC b c) : ltC a c := by unfold ltC at *; omega
instance (a b : Cl) : Decidable (ltC a b) := inferInstanceAs (Decidable (_ ∨ _))
theorem lt_dC (a b : Cl) : PySem.W.dataLt (dC a) (dC b) = decide (ltC a b) := by
  unfold PySem.W.dataLt dC
  have e : ∀ x y : Int, PySem.W.keyToks (.tuple [.int x, .int y]) = [.inl 1, .inl x, .inl 1, .inl y, .inl 0] := fun x y => by
    simp [PySem.W.keyToks, PySem.W.keyToksAll]
  rw [e, e, PyProof.Rows.lex_self, PyProof.Rows.lex_cons, PyProof.Rows.lex_self, PyProof.Rows.lex_cons, PyProof.Rows.lex_self]
  show (decide ((a.1 : Int) < b.1) || (!decide ((b.1 : Int) < a.1) && (decide ((a.2 : Int) < b.2) || (!decide ((b.2 : Int) < a.2) && false)))) = _
  rw [Bool.eq_iff_iff]
  simp only [Bool.or_eq_true, Bool.and_eq_true, Bool.not_eq_true', decide_eq_true_eq, decide_eq_false_iff_not, Bool.and_false, or_false, Bool.false_eq_true]
  unfold ltC
  omega
theorem good_cs : Good dCs (Ev All1) 2 := good_tup good_cl
theorem freeRow_sorted (r : Nat) (row : List Nat) : (freeRow r row).Pairwise ltC := by
  unfold freeRow
  rw [List.pairwise_map]
  refine (List.Pairwise.filter _ (List.pairwise_lt_range (n := row.length))).imp fun h => .inr ⟨rfl, h⟩
theorem freeFrom_sorted : ∀ (b : Bd) (r : Nat), (freeFrom r b).Pairwise ltC
  | [], _ => .nil
  | row :: rest, r => by
    show (freeRow r row ++ freeFrom (r + 1) rest).Pairwise ltC
    rw [List.pairwise_append]
    refine ⟨freeRow_sorted r row, freeFrom_sorted rest (r + 1), fun a ha b hb => ?_⟩
    have h1 := (mem_freeRow.mp ha).1
    have h2 := (mem_freeFrom.mp hb).1
    exact .inl (by omega)
theorem free_sorted (b : Bd) : (free b).Pairwise ltC := freeFrom_sorted b 0
/-! combinations -/
theorem comb_zero (sm suf : List Cl) : comb 0 sm suf = [sm] := by rw [comb]
theorem comb_nil (k : Nat) (sm : List Cl) : comb (k + 1) sm [] = [] := by rw [comb]
theorem comb_cons (k : Nat) (sm : List Cl) (c : Cl) (rest : List Cl) : comb (k + 1) sm (c :: rest) = comb k (sm ++ [c]) rest ++ comb (k + 1) sm rest := by rw [comb]
theorem comb_len : ∀ (k : Nat) (sm suf : List Cl), (comb k sm suf).length ≤ 2 ^ suf.length
  | 0, sm, suf => by
    rw [comb_zero]
    exact Nat.one_le_two_pow
  | k + 1, sm, [] => by
    rw [comb_nil]
    exact Nat.zero_le _
  | k + 1, sm, c :: rest => by
    rw [comb_cons, List.length_append, List.length_cons, Nat.pow_succ]
    have h1 := comb_len k (sm ++ [c]) rest
    have h2 := comb_len (k + 1) sm rest
    omega
/-- the first j turns' -/
def front (k : Nat) (sm suf : List Cl) : Nat → List (List Cl)
  | 0 => []
  | j + 1 => front k sm suf j ++ (match suf.drop j with
    | [] => []
    | c :: rest => comb k (sm ++ [c]) rest)
theorem front_comb (k : Nat) (sm suf : List Cl) : ∀ j, j ≤ suf.length → front k sm suf j ++ comb (k + 1) sm (suf.drop j) = comb (k + 1) sm suf
  | 0, _ => rfl
  | j + 1, h => by
    have ih := front_comb k sm suf j (by omega)
    have hd : suf.drop j = suf[j] :: suf.drop (j + 1) := List.drop_eq_getElem_cons (by omega)
    rw [← ih]
    show (front k sm suf j ++ (match suf.drop j with
      | [] => []
      | c :: rest => comb k (sm ++ [c]) rest)) ++ comb (k + 1) sm (suf.drop (j + 1)) = _
    rw [hd, comb_cons]
    show (front k sm suf j ++ comb k (sm ++ [suf[j]]) (suf.drop (j + 1))) ++ comb (k + 1) sm (suf.drop (j + 1)) = _
    rw [List.append_assoc]
theorem front_all (k : Nat) (sm suf : List Cl) : front k sm suf suf.length = comb (k + 1) sm suf := by
  have := front_comb k sm suf suf.length (Nat.le_refl _)
  rw [List.drop_length] at this
  rw [comb_nil, List.append_nil] at this
  exact this
theorem front_len (k : Nat) (sm suf : List Cl) {j : Nat} (h : j ≤ suf.length) : (front k sm suf j).length ≤ 2 ^ suf.length := by
  have := congrArg List.length (front_comb k sm suf j h)
  rw [List.length_append] at this
  have h2 := comb_len (k + 1) sm suf
  omega
theorem ChOk.step {sm pre suf : List Cl} (C : ChOk sm pre suf) {j : Nat} (hj : j < suf.length) : ChOk (sm ++ [suf[j]]) (pre ++ suf.take (j + 1)) (suf.drop (j + 1)) := by
  have hs : suf = suf.take (j + 1) ++ suf.drop (j + 1) := (List.take_append_drop _ _).symm
  have hsort : ((pre ++ suf.take (j + 1)) ++ suf.drop (j + 1)).Pairwise ltC := by rw [List.append_assoc, ← hs]; exact C.sorted
  have hlast : (sm ++ [suf[j]]).getLast? = some suf[j] := by simp
  obtain ⟨p1, p2, p3⟩ := List.pairwise_append.mp hsort
  refine ⟨hsort, fun c hc => ⟨_, hlast, fun hlt => ?_⟩, fun c hc l hl => ?_⟩
  · rcases List.mem_append.mp hc with z | z
    · obtain ⟨q1, q2, q3⟩ := List.pairwise_append.mp C.sorted
      exact ltC_asym hlt (q3 c z _ (List.getElem_mem hj))
    · obtain ⟨i, hi, rfl⟩ := List.mem_iff_getElem.mp z
      rw [List.length_take] at hi
      rw [List.getElem_take] at hlt
      by_cases e : i = j
      · subst e
        exact ltC_irr _ hlt
      · obtain ⟨_, q2, _⟩ := List.pairwise_append.mp C.sorted
        exact ltC_asym hlt (List.pairwise_iff_getElem.mp q2 i j (by omega) hj (by omega))
  · rw [hlast] at hl
    obtain rfl := Option.some.inj hl
    exact p3 _ (List.mem_append_right _ (by
      rw [List.mem_take_iff_getElem]
      exact ⟨j, by omega, rfl⟩)) c hc
section
variable {K : PySem.W.Frag} {w : World} {vs : List V} {H : Hp} {Q : VK} {E : XK} {c : Cfg} {ρ ρ1 : Env} {te tr tcol : TE} {b : Bd}
/-- some == () or cell > some[-1] -/
theorem et_next {sm : List Cl} {q : Cl} (h0 : ρ[0]? = some (.dat (dCs sm))) (h4 : ρ[4]? = some (.dat (dC q))) :
    EvT c (tOr (tTest (tOp (rEqD c.K) (tVar 0) (tTup tNil))) (tTest (tOp (rGtU c.K) (tVar 4) (tOp (rIx c.K) (tVar 0) (tUn (rU fun i => .int (-i)) (tC (.int 1))))))) ρ ρ (match sm.getLast? with
      | none => true
      | some l => decide (ltC l q)) := by
  have e1 : EvT c (tTest (tOp (rEqD c.K) (tVar 0) (tTup tNil))) ρ ρ (decide (sm = [])) := et_test (ev_op (ev_var h0) (ev_tp ea_nil) (gx_eq (b := []) good_cs (by decide) (fun _ _ => trivial) (fun _ h => by cases h)))
  cases h : sm.getLast? with
  | none =>
    have hn := List.getLast?_eq_none_iff.mp h
    exact et_is (et_or (b := true) e1 (fun z => absurd hn (of_decide_eq_false z))) (by rw [decide_eq_true hn]; rfl)
  | some l =>
    have hn : sm ≠ [] := fun z => by rw [z] at h; cases h
    have hi : atI (sm.map dC) (-1) = some (dC l) := by
      have hlen : 0 < sm.length := List.length_pos_iff.mpr hn
      have : ixN (sm.map dC).length (-1) = some (sm.length - 1) := by
        unfold ixN
        rw [List.length_map, if_neg (by omega), if_pos (by omega)]
        congr 1
        omega
      unfold atI
      rw [this]
      show (sm.map dC)[sm.length - 1]? = _
      rw [List.getElem?_map, ← List.getLast?_eq_getElem?, h]
      rfl
    refine et_is (et_or e1 (fun _ => et_test (ev_op (ev_var h4) (ev_op (ev_var h0) (ev_un ev_int ru_neg) (ux_ixT hi)) (ux_gtD (by rfl) (by intro z; cases z) (Nat.le_trans (good_cl.dep q) (by decide)))))) ?_
    rw [decide_eq_false hn, lt_dC]
    rfl
theorem body_chosen {n : Nat} (h : spF (P_chosen_n K (n + 1)) vs H Q E) : t_chosen K w n E { nx := fun _ H' => Q .non H', rt := Q } (L2.start N_chosen vs) H := pure_of (t := t_chosen K w n) (fun E ds r q => by
  obtain ⟨sm, pre, suf, k, rfl, hk, hs, hl, C, rfl⟩ := q
  have hsm : sm.length ≤ 20 := by omega
  have hsl : suf.length ≤ 12 := by rw [List.length_append] at hl; omega
  have tst : EvT ⟨K, [], [], E⟩ (tTest (tOp (rEqD K) (tCB (rLen K) (tCons (tVar 0) tNil)) (tVar 2))) (env0 N_chosen [dCs sm, .list ((pre ++ suf).map dC), .int ((sm.length + k : Nat))]) (env0 N_chosen [dCs sm, .list ((pre ++ suf).map dC), .int ((sm.length + k : Nat))]) (decide (k = 0)) :=
    et_is (et_test (ev_op (cl_len (ev_var rfl) (n := sm.length) (by show some (sm.map dC).length = _; rw [List.length_map]) (by omega)) (ev_var rfl) gx_eqI)) (decide_eq_decide.mpr (by omega))
  cases k with
  | zero => exact giv (exs_seq_ret (exs_if (b := true) tst (OwnSub.refl _) (fun _ => exs_ret (ev_is (ev_ls (ea_cons (ev_var rfl) ea_nil)) (by rw [comb_zero]; rfl)) (OwnSub.refl _)) (fun z => nomatch z)))
  | succ k =>
    have lp := exs_for (c := ⟨K, [], [], E⟩) (ρ := [.dat (dCs sm), .dat (.list ((pre ++ suf).map dC)), .dat (.int ((sm.length + (k + 1) : Nat))), .dat (.list []), .un]) (wi := iAny K (tVar 1)) (g := gName 4) (items := (pre ++ suf).map dC)
      (t := tIfS (tOr (tTest (tOp (rEqD K) (tVar 0) (tTup tNil))) (tTest (tOp (rGtU K) (tVar 4) (tOp (rIx K) (tVar 0) (tUn (rU fun i => .int (-i)) (tC (.int 1))))))) (tAsg (tOp (rAddU K) (tVar 3) (tCall (spF (P_chosen_n K n)) [] E (tCons (tOp (rAddU K) (tVar 0) (tTup (tCons (tVar 4) tNil))) (tCons (tVar 1) (tCons (tVar 2) tNil))))) (gName 3)) tNext)
      (fun i => [.dat (dCs sm), .dat (.list ((pre ++ suf).map dC)), .dat (.int ((sm.length + (k + 1) : Nat))), .dat (.list ((front k sm suf (i - pre.length)).map dCs)), .un]) (fun i ρ => ρ.set 4 (.dat (dC ((pre ++ suf).getD i (0, 0))))) (fun _ => [4]) (by simpa [front] using ui_list (ev_var (c := ⟨K, [], [], E⟩) (ρ := [.dat (dCs sm), .dat (.list ((pre ++ suf).map dC)), .dat (.int ((sm.length + (k + 1) : Nat))), .dat (.list []), .un]) (i := 1) rfl)) (by simpa [front] using OwnSub.refl _) (fun i ρ => OwnSub.set fun _ _ z => by cases z)
      (fun i d hd => by
        rw [List.getElem?_map] at hd
        cases e : (pre ++ suf)[i]? with
        | none => rw [e] at hd; cases hd
        | some q =>
          rw [e] at hd
          obtain rfl := Option.some.inj hd
          rw [List.getD_eq_getElem?_getD, e]
          exact tg_name)
      (fun i d hd => by
        have hi : i < (pre ++ suf).length := by
          obtain ⟨hl, _⟩ := List.getElem?_eq_some_iff.mp hd
          rwa [List.length_map] at hl
        have tn := fun (ρ : Env) (q : Cl) h0 h4 => et_next (c := ⟨K, [], [], E⟩) (ρ := ρ) (sm := sm) (q := q) h0 h4
        by_cases hp : i < pre.length
        · have ein : (pre ++ suf).getD i (0, 0) = pre[i] := by rw [List.getD_eq_getElem?_getD, List.getElem?_append_left hp, List.getElem?_eq_getElem hp]; rfl
          obtain ⟨l, e1, e2⟩ := C.pre_ pre[i] (List.getElem_mem hp)
          rw [ein]
          have z1 : i - pre.length = 0 := by omega
          have z2 : i + 1 - pre.length = 0 := by omega
          rw [z1, z2]
          exact exs_to (exs_if (b := false) (et_is (tn _ pre[i] rfl rfl) (by rw [e1]; exact decide_eq_false e2)) (OwnSub.refl _) (fun z => nomatch z) (fun _ => exs_nil)) (.eq (.eq (.eq (.eq (.un .nil)))))
        · obtain ⟨j, rfl⟩ : ∃ j, i = pre.length + j := ⟨i - pre.length, by omega⟩
          have hj : j < suf.length := by rw [List.length_append] at hi; omega
          have ein : (pre ++ suf).getD (pre.length + j) (0, 0) = suf[j] := by
            rw [List.getD_eq_getElem?_getD, List.getElem?_append_right (by omega), Nat.add_sub_cancel_left, List.getElem?_eq_getElem hj]; rfl
          have z1 : pre.length + j - pre.length = j := by omega
          have z2 : pre.length + j + 1 - pre.length = j + 1 := by omega
          rw [ein, z1, z2]
          have hT : (match sm.getLast? with
            | none => true
            | some l => decide (ltC l suf[j])) = true := by
            cases e : sm.getLast? with
            | none => rfl
            | some l => exact decide_eq_true (C.suf_ suf[j] (List.getElem_mem hj) l e)
          have hfr : front k sm suf (j + 1) = front k sm suf j ++ comb k (sm ++ [suf[j]]) (suf.drop (j + 1)) := by
            show front k sm suf j ++ (match suf.drop j with
              | [] => []
              | c :: rest => comb k (sm ++ [c]) rest) = _
            rw [List.drop_eq_getElem_cons hj]
          have hspl : (pre ++ suf.take (j + 1)) ++ suf.drop (j + 1) = pre ++ suf := by rw [List.append_assoc, List.take_append_drop]
          refine exs_to (exs_if (b := true) (et_is (tn _ suf[j] rfl rfl) hT) (OwnSub.refl _) (fun _ => exs_set (ev_op (ev_var rfl) (ev_call (P := P_chosen_n K n) (z := .list ((comb k (sm ++ [suf[j]]) (suf.drop (j + 1))).map dCs)) (ea_cons (ev_is (ev_op (ev_var rfl) (ev_tp (ea_cons (ev_var rfl) ea_nil)) (ux_addT ?_)) (y := dCs (sm ++ [suf[j]])) ?_) (ea_cons (ev_var rfl) (ea_cons (ev_var rfl) ea_nil)))
            ⟨sm ++ [suf[j]], pre ++ suf.take (j + 1), suf.drop (j + 1), k, ?_, by omega, by rw [List.length_append, List.length_singleton]; omega, by rw [hspl]; exact hl, C.step hj, rfl⟩) (ux_addL ?_)) (OwnSub.refl _)) (fun z => nomatch z)) ?_
          · rw [List.length_map]; simp; omega
          · unfold dCs; rw [List.map_append]; rfl
          · rw [hspl, List.length_append, List.length_singleton]
            congr 4
            omega
          · rw [List.length_map, List.length_map]
            have h1 := front_len k sm suf (Nat.le_of_lt hj)
            have h2 := comb_len k (sm ++ [suf[j]]) (suf.drop (j + 1))
            have h3 : 2 ^ suf.length ≤ 2 ^ 12 := Nat.pow_le_pow_right (by decide) hsl
            have h4 : 2 ^ (suf.drop (j + 1)).length ≤ 2 ^ 12 := Nat.pow_le_pow_right (by decide) (by rw [List.length_drop]; omega)
            have h5 : (2 : Nat) ^ 12 = 4096 := by decide
            omega
          · rw [hfr, List.map_append (l₁ := front k sm suf j)]
            exact .eq (.eq (.eq (.eq (.un .nil)))))
    rw [List.length_map, List.length_append, Nat.add_sub_cancel_left, front_all] at lp
    exact giv (exs_seq (exs_if (o := .next _) (b := false) tst (OwnSub.refl _) (fun z => nomatch z) (fun _ => exs_nil)) (exs_seq (exs_set (ev_ls ea_nil) (OwnSub.refl _)) (exs_seq lp (exs_ret (ev_var rfl) (OwnSub.refl _)))))) h
end
end Fb

/-! The bodies of the program's defs, by data (12): fewest_freezing. -/
namespace Fb
open PySem PySem.Spec PyProof.Rows L2
/-- for over a typed list, to its end, at slot j -/
theorem exs_list {c : Cfg} {ρ : Env} {wi : TI} {t : TS} {j : Nat} {α : Type} (xs : List α) (enc : α → D) (R : Nat → Env) (hi : EvI c wi ρ (R 0) (xs.map enc)) (s : OwnSub (R 0) ρ) (z : α)
    (hb : ∀ i, i < xs.length → ExS c t ((R i).set j (.dat (enc (xs.getD i z)))) (.next (R (i + 1)))) : ExS c (tFor wi (gName j) t) ρ (.next (R xs.length)) := by
  have lp := exs_for (t := t) (g := gName j) (items := xs.map enc) R (fun i ρ => ρ.set j (.dat (enc (xs.getD i z)))) (fun _ => [j]) hi s (fun i ρ => OwnSub.set fun _ _ z => by cases z)
    (fun i d hd => by
      rw [List.getElem?_map] at hd
      cases e : xs[i]? with
      | none => rw [e] at hd; cases hd
      | some k =>
        rw [e] at hd
        obtain rfl := Option.some.inj hd
        rw [List.getD_eq_getElem?_getD, e]
        exact tg_name)
    (fun i d hd => hb i (by
      obtain ⟨hl, _⟩ := List.getElem?_eq_some_iff.mp hd
      rwa [List.length_map] at hl))
  rwa [List.length_map] at lp
/-- .., left at turn n by a return -/
theorem exs_list_ret {c : Cfg} {ρ ρ' : Env} {wi : TI} {t : TS} {j : Nat} {d : D} {α : Type} (xs : List α) (enc : α → D) (R : Nat → Env) (n : Nat) (hi : EvI c wi ρ (R 0) (xs.map enc)) (s : OwnSub (R 0) ρ) (z : α) (hn : n < xs.length)
    (hb : ∀ i, i < n → ExS c t ((R i).set j (.dat (enc (xs.getD i z)))) (.next (R (i + 1)))) (he : ExS c t ((R n).set j (.dat (enc (xs.getD n z)))) (.ret ρ' d)) : ExS c (tFor wi (gName j) t) ρ (.ret ρ' d) :=
  exs_for_ret (t := t) (g := gName j) (items := xs.map enc) R n (fun i ρ => ρ.set j (.dat (enc (xs.getD i z)))) (fun _ => [j]) hi s (fun i ρ => OwnSub.set fun _ _ z => by cases z)
    (fun i d hd => by
      rw [List.getElem?_map] at hd
      cases e : xs[i]? with
      | none => rw [e] at hd; cases hd
      | some k =>
        rw [e] at hd
        obtain rfl := Option.some.inj hd
        rw [List.getD_eq_getElem?_getD, e]
        exact tg_name) (by rw [List.length_map]; exact hn) (fun i d h _ => hb i h) (fun _ _ => he)
theorem range_map (n : Nat) : (List.range n).map (fun i : Nat => PyData.int (i : Nat)) = (List.range n).map (fun i : Nat => PyData.int (i : Nat)) := rfl
theorem range_getD {n i : Nat} (h : i < n) : (List.range n).getD i 0 = i := by
  rw [List.getD_eq_getElem?_getD, List.getElem?_range h]; rfl
theorem find_first {α : Type} (l : List α) (p : α → Bool) : (l.find? p = none ∧ ∀ x ∈ l, p x = false) ∨ ∃ (j : Nat) (x : α), j < l.length ∧ l[j]? = some x ∧ p x = true ∧ (∀ i y, i < j → l[i]? = some y → p y = false) ∧ l.find? p = some x := by
  induction l with
  | nil => exact .inl ⟨rfl, fun x h => by cases h⟩
  | cons a l ih =>
    by_cases ha : p a = true
    · exact .inr ⟨0, a, by simp, rfl, ha, fun i y h => by omega, by rw [List.find?_cons_of_pos ha]⟩
    · have hf : p a = false := by simpa using ha
      rcases ih with ⟨h1, h2⟩ | ⟨j, x, h0, h1, h2, h3, h4⟩
      · refine .inl ⟨by rw [List.find?_cons_of_neg ha]; exact h1, fun x hx => ?_⟩
        rcases List.mem_cons.mp hx with z | z
        · rw [z]; exact hf
        · exact h2 x z
      · refine .inr ⟨j + 1, x, by simpa using h0, by simpa using h1, h2, fun i y hi hy => ?_, by rw [List.find?_cons_of_neg ha]; exact h4⟩
        cases i with
        | zero =>
          obtain rfl : a = y := by simpa using hy
          exact hf
        | succ i => exact h3 i y (by omega) (by simpa using hy)
theorem find_range {α : Type} (L : Nat → List α) (p : α → Bool) : ∀ n : Nat, (((List.range n).flatMap L).find? p = none ∧ ∀ k, k < n → ∀ x ∈ L k, p x = false) ∨
    ∃ s x, s < n ∧ (∀ k, k < s → ∀ x ∈ L k, p x = false) ∧ (L s).find? p = some x ∧ ((List.range n).flatMap L).find? p = some x
  | 0 => .inl ⟨rfl, fun k h => by omega⟩
  | n + 1 => by
    have e : (List.range (n + 1)).flatMap L = (List.range n).flatMap L ++ L n := by
      rw [List.range_succ, List.flatMap_append]
      simp
    rw [e, List.find?_append]
    rcases find_range L p n with ⟨h1, h2⟩ | ⟨s, x, h0, h1, h2, h3⟩
    · rw [h1]
      rcases find_first (L n) p with ⟨z1, z2⟩ | ⟨j, x, z0, z1, z2, z3, z4⟩
      · refine .inl ⟨by rw [z1]; rfl, fun k hk => ?_⟩
        by_cases hkn : k = n
        · subst hkn; exact z2
        · exact h2 k (by omega)
      · exact .inr ⟨n, x, by omega, h2, z4, by rw [z4]; rfl⟩
    · exact .inr ⟨s, x, by omega, h1, h2, by rw [h3]; rfl⟩
section
variable {K : PySem.W.Frag} {w : World} {vs : List V} {H : Hp} {Q : VK} {E : XK} {c : Cfg} {ρ ρ1 : Env} {te tr tcol : TE} {b : Bd}
theorem body_freezes (h : spF (P_freezes K) vs H Q E) : t_freezes K w E { nx := fun _ H' => Q .non H', rt := Q } (L2.start N_freezes vs) H := pure_of (t := t_freezes K w) (fun E ds r q => by
  obtain ⟨b, cs, n, rfl, W, F, hn, rfl⟩ := q
  have W1 := (W.drawn cs).2
  have W2 := (W.drawn (free b)).2
  have W3 : Wf (allIce b) := W2
  exact giv (exs_seq (exs_par (c := ⟨K, [], [], E⟩) (ρ := env0 N_freezes [dB b, dCs cs]) (ea_cons (ev_drawn (.inr rfl) W (ev_var rfl) (ev_var rfl)) (ea_cons (ev_call (P := P_all_ice K) (ea_cons (ev_var rfl) ea_nil) ⟨b, rfl, W, rfl⟩) ea_nil)) (OwnSub.refl _))
    (exs_ret (ev_and (ev_eqB (c := ⟨K, [], [], E⟩) W3.tick W3 (ev_tick W3 (ev_var rfl)) (ev_var rfl)) (fun _ => ev_eqB (c := ⟨K, [], [], E⟩) (W1.later (n := n)) W3 (ev_call (P := P_later K) (ea_cons (ev_var rfl) (ea_cons (ev_op (ev_fate W1 F hn (ev_var rfl)) ev_int (ux_ixT (d := .int (n : Nat)) rfl)) ea_nil)) ⟨_, n, rfl, W1, by omega, rfl⟩) (ev_var rfl))) (OwnSub.refl _)))) h
theorem body_fewest_freezing (h : spF (P_fewest_freezing K) vs H Q E) : t_fewest_freezing K w E { nx := fun _ H' => Q .non H', rt := Q } (L2.start N_fewest_freezing vs) H := pure_of (t := t_fewest_freezing K w) (fun E ds r q => by
  obtain ⟨v, rfl, hs, ⟨hb, rfl⟩ | ⟨b, rfl, W, ⟨h9, rfl⟩ | ⟨h9, rfl⟩⟩⟩ := q
  · exact givX (exs_seq_exc (exs_drop_exc (c := ⟨K, [], [], E⟩) (ee_call (P := P_need_board K) (ds := [v]) (ea_cons (ev_var env0_0) ea_nil) ⟨v, rfl, hs, by rw [if_neg (by rw [hb]; exact Bool.false_ne_true)]⟩)))
  · exact givX (exs_seq (exs_need W env0_0 rfl) (exs_seq_exc (exs_drop_exc (c := ⟨K, [], [], E⟩) (ee_call (P := P_need_small K) (ds := [dB b]) (ea_cons (ev_var env0_0) ea_nil) ⟨b, rfl, W, by rw [if_neg (by omega)]⟩))))
  · have hl := W.free_len
    have small : ExS ⟨K, [], [], E⟩ (tDrop (tCall (spF (P_need_small K)) [] E (tCons (tVar 0) tNil))) (env0 N_fewest_freezing [dB b]) (.next (env0 N_fewest_freezing [dB b])) := exs_drop (ev_call (P := P_need_small K) (z := .none) (ea_cons (ev_var env0_0) ea_nil) ⟨b, rfl, W, by rw [if_pos h9]⟩) (OwnSub.refl _)
    have start : ∀ {u : TS} {o : Out}, ExS ⟨K, [], [], E⟩ u [.dat (dB b), .dat (.list ((free b).map dC)), .un, .un] o → ExS ⟨K, [], [], E⟩ (tSeq (tDrop (tCall (spF (P_need_board K)) [] E (tCons (tVar 0) tNil))) (tSeq (tDrop (tCall (spF (P_need_small K)) [] E (tCons (tVar 0) tNil))) (tSeq (tAsg (tCall (spF (P_free_cells K)) [] E (tCons (tVar 0) tNil)) (gName 1)) u))) (env0 N_fewest_freezing [dB b]) o := fun hu =>
      exs_seq (exs_need W env0_0 rfl) (exs_seq small (exs_seq (exs_set (ev_free W (ev_var rfl)) (OwnSub.refl _)) hu))
    have hlen : EvX ⟨K, [], [], E⟩ (tOp (rAddU K) (tCB (rLen K) (tCons (tVar 1) tNil)) (tC (.int 1))) [.dat (dB b), .dat (.list ((free b).map dC)), .un, .un] [.dat (dB b), .dat (.list ((free b).map dC)), .un, .un] (.int (((free b).length + 1 : Nat))) :=
      ev_is (ev_op (cl_len (ev_var rfl) (n := (free b).length) (by show some ((free b).map dC).length = _; rw [List.length_map]) (by omega)) ev_int ux_addI) rfl
    have inI : ∀ k : Nat, k ≤ (free b).length → EvI ⟨K, [], [], E⟩ (iAny K (tCall (spF (P_chosen K)) [] E (tCons (tTup tNil) (tCons (tVar 1) (tCons (tVar 2) tNil))))) [.dat (dB b), .dat (.list ((free b).map dC)), .dat (.int (k : Nat)), .un] [.dat (dB b), .dat (.list ((free b).map dC)), .dat (.int (k : Nat)), .un] ((comb k [] (free b)).map dCs) := fun k hk =>
      ui_list (ev_call (P := P_chosen K) (ea_cons (ev_tp ea_nil) (ea_cons (ev_var rfl) (ea_cons (ev_var rfl) ea_nil))) ⟨[], [], free b, k, by simp [dCs], by omega, by simp; omega, by simpa using hl, ⟨by simpa using free_sorted b, (fun c h => nomatch h), (fun c _ l h => nomatch h)⟩, rfl⟩)
    have turn : ∀ (k : Nat) (s : List Cl), EvT ⟨K, [], [], E⟩ (tB (tCall (spF (P_freezes K)) [] E (tCons (tVar 0) (tCons (tVar 3) tNil)))) [.dat (dB b), .dat (.list ((free b).map dC)), .dat (.int (k : Nat)), .dat (dCs s)] [.dat (dB b), .dat (.list ((free b).map dC)), .dat (.int (k : Nat)), .dat (dCs s)] (freezes b s) := fun k s => by
      obtain ⟨F, hF⟩ := fateN_ok (W.drawn s).2
      exact et_B (ev_call (P := P_freezes K) (ea_cons (ev_var rfl) (ea_cons (ev_var rfl) ea_nil)) ⟨b, s, _, rfl, W, F, by omega, rfl⟩)
    have pass : ∀ k : Nat, k ≤ (free b).length → (∀ x ∈ comb k [] (free b), freezes b x = false) → ExS ⟨K, [], [], E⟩ (tFor (iAny K (tCall (spF (P_chosen K)) [] E (tCons (tTup tNil) (tCons (tVar 1) (tCons (tVar 2) tNil))))) (gName 3) (tIfS (tB (tCall (spF (P_freezes K)) [] E (tCons (tVar 0) (tCons (tVar 3) tNil)))) (tRet (tVar 3)) tNext))
        [.dat (dB b), .dat (.list ((free b).map dC)), .dat (.int (k : Nat)), .un] (.next [.dat (dB b), .dat (.list ((free b).map dC)), .un, .un]) := fun k hk hno =>
      exs_to (exs_list (comb k [] (free b)) dCs (fun _ => [.dat (dB b), .dat (.list ((free b).map dC)), .dat (.int (k : Nat)), .un]) (inI k hk) (OwnSub.refl _) [] (fun i hi => exs_to (exs_if (b := false) (et_is (turn k _) (hno _ (by
        rw [List.getD_eq_getElem?_getD, List.getElem?_eq_getElem hi]
        exact List.getElem_mem hi))) (OwnSub.refl _) (fun z => nomatch z) (fun _ => exs_nil)) (.eq (.eq (.eq (.un .nil)))))) (.eq (.eq (.un (.un .nil))))
    rcases find_range (fun k => comb k [] (free b)) (fun s => freezes b s) ((free b).length + 1) with ⟨h1, h2⟩ | ⟨s, x, h0, h1, h2, h3⟩
    · have e : (combs b).find? (fun s => freezes b s) = none := h1
      rw [e]
      have lp := exs_range (c := ⟨K, [], [], E⟩) (j := 2) (n := (free b).length + 1) (fun _ => [.dat (dB b), .dat (.list ((free b).map dC)), .un, .un]) hlen (by omega) (OwnSub.refl _) (fun i hi => pass i (by omega) (h2 i hi))
      exact giv (start (exs_seq lp (exs_ret ev_non (OwnSub.refl _))))
    · have e : (combs b).find? (fun s => freezes b s) = some x := h3
      rw [e]
      obtain ⟨j, y, j0, j1, j2, j3, j4⟩ : ∃ (j : Nat) (y : List Cl), j < (comb s [] (free b)).length ∧ (comb s [] (free b))[j]? = some y ∧ freezes b y = true ∧ (∀ i z, i < j → (comb s [] (free b))[i]? = some z → freezes b z = false) ∧ (comb s [] (free b)).find? (fun s => freezes b s) = some y := by
        rcases find_first (comb s [] (free b)) (fun s => freezes b s) with ⟨z, _⟩ | z
        · rw [z] at h2; cases h2
        · exact z
      obtain rfl : y = x := by
        have := j4.symm.trans h2
        exact Option.some.inj this
      have lp := exs_list_ret (c := ⟨K, [], [], E⟩) (j := 2) (wi := iRng1 (tCons (tOp (rAddU K) (tCB (rLen K) (tCons (tVar 1) tNil)) (tC (.int 1))) tNil)) (ρ := [.dat (dB b), .dat (.list ((free b).map dC)), .un, .un]) (List.range ((free b).length + 1)) (fun i : Nat => PyData.int (i : Nat)) (fun _ => [.dat (dB b), .dat (.list ((free b).map dC)), .un, .un]) s (ei_range hlen (by omega)) (OwnSub.refl _) 0 (by rw [List.length_range]; exact h0)
        (fun i hi => by
          rw [range_getD (by omega)]
          exact pass i (by omega) (h1 i hi))
        (by
          rw [range_getD h0]
          exact exs_list_ret (comb s [] (free b)) dCs (fun _ => [.dat (dB b), .dat (.list ((free b).map dC)), .dat (.int (s : Nat)), .un]) j (inI s (by omega)) (OwnSub.refl _) [] j0
            (fun i hi => exs_to (exs_if (b := false) (et_is (turn s _) (by
              have hil : i < (comb s [] (free b)).length := by omega
              refine j3 i _ hi ?_
              rw [List.getD_eq_getElem?_getD, List.getElem?_eq_getElem hil]
              rfl)) (OwnSub.refl _) (fun z => nomatch z) (fun _ => exs_nil)) (.eq (.eq (.eq (.un .nil)))))
            (by
              have ey : (comb s [] (free b)).getD j [] = y := by rw [List.getD_eq_getElem?_getD, j1]; rfl
              rw [ey]
              exact exs_if (b := true) (et_is (turn s y) j2) (OwnSub.refl _) (fun _ => exs_ret (ev_var rfl) (OwnSub.refl _)) (fun z => nomatch z)))
      exact giv (start (exs_seq_ret lp))) h
end
end Fb

/-! Dice: a list of two ints that the callee changes. -/
namespace Fb
open PySem PySem.Spec PyProof.Rows L2
abbrev dice (a b : Int) : HO := .lst [.int a, .int b]
/-- P: from the dice a, b and the arguments: what comes back, the dice after -/
def spDice (P : Int → Int → List D → D → Int → Int → Prop) : Sp := fun vs H Q _ => ∃ (G : Hp) (p : Addr) (a b : Int) (ws : List V) (ds : List D) (z : D) (a' b' : Int), vs = .ref p :: ws ∧ Ex G H ∧ G p = none ∧ H p = some (dice a b) ∧ IsAll G ws ds ∧ P a b ds z a' b' ∧
  ∀ v G' H', Grow [p] G H G' H' → Ex G' H' → H' p = some (dice a' b') → Is G' v z → Q v H'
section
variable {c : Cfg} {ρ ρ1 ρ2 ρ3 : Env} {ta tb tc te tl : TE} {tr : TA} {t u : TS} {tt : TT} {x y z d : D} {r : R2} {o : Out} {g : TG}
theorem Sit.grow1 {T : List (Addr × Str)} {ρ : Env} {σ : L2.St} {G H G' H' : Hp} {p : Addr} {i : Nat} {o o' : HO} (s : Sit T ρ σ G H) (hi : ρ[i]? = some (.obj p o)) (g : Grow [p] G H G' H') (gh : Ex G' H') (ho : H' p = some o') (ht : ∀ ps, o' ≠ .tbl ps) : Sit T (ρ.set i (.obj p o')) σ G' H' := by
  obtain ⟨q1, q2, q3, q4⟩ := s.ent i _ hi
  refine ⟨gh, by rw [List.length_set]; exact s.len, fun k e hk => ?_, fun k l p' e e' h1 h2 a1 a2 => ?_, g.tb _ s.tabs, fun q hq => (g.fr q.1 (s.tabs.ne q hq)).trans (s.gtab q hq)⟩
  · rcases getset hk with ⟨rfl, rfl, hlt⟩ | ⟨hne, hk⟩
    · exact ⟨q1, ho, by rw [g.fr p (ne_none_of q2)]; exact q3, ht⟩
    · exact (s.ent k e hk).grow g fun a ha hm => by
        have : a = p := by simpa using hm
        exact hne (s.uq k i p e _ hk hi (by rw [ha, this]) rfl)
  · rcases getset h1 with ⟨rfl, rfl, _⟩ | ⟨n1, k1⟩
    · rcases getset h2 with ⟨rfl, rfl, _⟩ | ⟨n2, k2⟩
      · rfl
      · exact s.uq _ _ p' _ _ hi k2 a1 a2
    · rcases getset h2 with ⟨rfl, rfl, _⟩ | ⟨n2, k2⟩
      · exact s.uq _ _ p' _ _ k1 hi a1 a2
      · exact s.uq _ _ p' _ _ k1 k2 a1 a2
/-- f(dice, ..) -/
theorem ev_dice {P : Int → Int → List D → D → Int → Int → Prop} {E : XK} {ds : List D} {i : Nat} {p : Addr} {a b a' b' : Int} (hi : ρ[i]? = some (.obj p (dice a b))) (hB : c.B = [p]) (h : EvA c tr ρ ρ ds) (hP : P a b ds z a' b') :
    EvX c (tCall (spDice P) [] E (tCons (tVar i) tr)) ρ (ρ.set i (.obj p (dice a' b'))) z := fun σ G H s Q q => by
  obtain ⟨q1, q2, q3, q4⟩ := s.ent i _ hi
  refine ⟨.ref p, q1, h σ G H s _ fun vs G1 H1 g1 s1 i1 => ?_⟩
  obtain ⟨w1, w2, w3, w4⟩ := s1.ent i _ hi
  refine ⟨G1, p, a, b, vs, ds, z, a', b', by simp, s1.gh, w3, w2, i1, hP, fun v G2 H2 g2 gh2 h2 i2 => q v G2 H2 (g1.trans (by rw [hB]; exact g2)) (s1.grow1 hi g2 gh2 h2 (fun _ z => by cases z)) i2⟩
/-- dice[j] -/
theorem ev_objIx {i : Nat} {p : Addr} {xs : List V} {j n : Int} (hi : ρ[i]? = some (.obj p (.lst xs))) (hj : atI xs j = some (.int n)) : EvX c (tOp (rIx c.K) (tVar i) (tC (.int j))) ρ ρ (.int n) := fun σ G H s Q q => by
  obtain ⟨q1, q2, q3, q4⟩ := s.ent i _ hi
  exact ⟨.ref p, q1, .inl ⟨p, xs, j, .int n, rfl, rfl, .of q2, hj, q _ G H (.refl _ _ _) s (.int n)⟩⟩
/-- dice[j] = e -/
theorem exs_objSet {i : Nat} {p : Addr} {xs : List V} {j n : Int} {k : Nat} (h : EvX c te ρ ρ (.int n)) (hi : ρ[i]? = some (.obj p (.lst xs))) (hj : ixN xs.length j = some k) (hB : p ∈ c.B) : ExS c (tAsg te (gSub (tVar i) (tC (.int j)) rSetL)) ρ (.next (ρ.set i (.obj p (.lst (xs.set k (.int n)))))) := fun G0 H0 Dn σ G H r q => by
  refine h σ G H r.sit _ fun v G1 H1 g1 s1 i1 => ?_
  cases i1
  obtain ⟨q1, q2, q3, q4⟩ := s1.ent i _ hi
  refine ⟨.ref p, q1, p, xs, j, k, rfl, rfl, q2, hj, ?_⟩
  have gr : Grow c.B G1 H1 G1 (upd H1 p (.lst (xs.set k (.int n)))) := ⟨.refl _, fun a o h1 h2 h3 => by
    have na : a ≠ p := fun z => h2 (by rw [z]; exact hB)
    rw [upd_ne na]; exact h1, fun T hT => tabs_lst hT q2 (fun _ z => by cases z) (fun _ z => by cases z), fun _ _ => rfl, fun a ha => by
    by_cases na : a = p
    · rw [na, upd_same]; exact fun z => by cases z
    · rw [upd_ne na]; exact ha⟩
  refine q σ G1 _ g1.gg ⟨⟨fun a o h => by rw [upd_ne (ne_of_none h q3)]; exact s1.gh a o h, by rw [List.length_set]; exact s1.len, fun k' e hk => ?_, fun k' l p' e e' h1 h2 a1 a2 => ?_, gr.tb _ s1.tabs, s1.gtab⟩, (r.grow.trans g1).trans gr, fun k' p' es hk => ?_⟩
  · rcases getset hk with ⟨rfl, rfl, hlt⟩ | ⟨hne, hk⟩
    · exact ⟨q1, upd_same, q3, fun _ z => by cases z⟩
    · have q := s1.ent k' e hk
      have na : ∀ a, e.addr = some a → a ≠ p := fun a ea z => hne (s1.uq k' i p e _ hk hi (by rw [ea, z]) rfl)
      cases e with
      | un => trivial
      | dat d => exact q
      | raw v => exact q
      | dic a ks =>
        obtain ⟨z1, ⟨vs, z2, zk, z3⟩, z4⟩ := q
        exact ⟨z1, ⟨vs, by rw [upd_ne (na a rfl)]; exact z2, zk, z3⟩, z4⟩
      | own a es =>
        obtain ⟨z1, ⟨vs, z2, z3⟩, z4⟩ := q
        exact ⟨z1, ⟨vs, by rw [upd_ne (na a rfl)]; exact z2, z3⟩, z4⟩
      | obj a o =>
        obtain ⟨z1, z2, z3, z4⟩ := q
        exact ⟨z1, by rw [upd_ne (na a rfl)]; exact z2, z3, z4⟩
  · rcases getset h1 with ⟨rfl, rfl, _⟩ | ⟨n1, k1⟩
    · rcases getset h2 with ⟨rfl, rfl, _⟩ | ⟨n2, k2⟩
      · rfl
      · exact s1.uq _ _ p' _ _ hi k2 a1 a2
    · rcases getset h2 with ⟨rfl, rfl, _⟩ | ⟨n2, k2⟩
      · exact s1.uq _ _ p' _ _ k1 hi a1 a2
      · exact s1.uq _ _ p' _ _ k1 k2 a1 a2
  · rcases getset hk with ⟨_, e, _⟩ | ⟨_, e⟩
    · cases e
    · exact r.new k' p' es e
end
/-- the environment at the entry of a def that is handed dice -/
def envD (N : List Str) (p : Addr) (a b : Int) (ds : List D) : Env := .obj p (dice a b) :: (ds.map .dat ++ List.replicate (N.length - (ds.length + 1)) .un)
theorem start_dice {N : List Str} {p : Addr} {a b : Int} {ws : List V} {ds : List D} {G H : Hp} (gh : Ex G H) (g : G p = none) (hp : H p = some (dice a b)) (h : IsAll G ws ds) : Sit [] (envD N p a b ds) (L2.start N (.ref p :: ws)) G H := by
  have hl := h.length
  have noA : ∀ {k : Nat} {e : Ent}, (ds.map Ent.dat ++ List.replicate (N.length - (ds.length + 1)) Ent.un)[k]? = some e → e.addr = none := fun {k e} hk => by
    have := List.mem_of_getElem? hk
    rcases List.mem_append.mp this with m | m
    · obtain ⟨d, _, rfl⟩ := List.mem_map.mp m
      rfl
    · rw [(List.mem_replicate.mp m).2]; rfl
  refine ⟨gh, by simp [envD, L2.start, hl], fun i e hi => ?_, fun i j q e e' h1 h2 a1 a2 => ?_, tabsQ_nil, fun p hp => by cases hp⟩
  · cases i with
    | zero =>
      obtain rfl : Ent.obj p (dice a b) = e := Option.some.inj hi
      exact ⟨rfl, hp, g, fun _ z => by cases z⟩
    | succ i =>
      have hi : (ds.map Ent.dat ++ List.replicate (N.length - (ds.length + 1)) Ent.un)[i]? = some e := hi
      have hs : (L2.start N (.ref p :: ws))[i + 1]? = (ws.map some ++ List.replicate (N.length - (ws.length + 1)) none)[i]? := by simp [L2.start]
      rw [hs]
      by_cases hlt : i < ds.length
      · rw [List.getElem?_append_left (by simpa using hlt), List.getElem?_map] at hi
        cases q : ds[i]? with
        | none => rw [q] at hi; cases hi
        | some d =>
          rw [q] at hi
          obtain rfl : Ent.dat d = e := Option.some.inj hi
          obtain ⟨v, hv, iv⟩ := h.at q
          refine ⟨v, ?_, iv⟩
          rw [List.getElem?_append_left (by simpa [hl] using hlt), List.getElem?_map, hv]
          rfl
      · rw [List.getElem?_append_right (by simpa using hlt)] at hi
        have := List.mem_of_getElem? hi
        rw [List.mem_replicate] at this
        rw [this.2]
        trivial
  · cases i with
    | zero =>
      cases j with
      | zero => rfl
      | succ j =>
        have := noA (k := j) h2
        rw [this] at a2; cases a2
    | succ i =>
      have := noA (k := i) h1
      rw [this] at a1; cases a1
/-- THE RULE for a def that is handed dice -/
theorem pure_dice {K : PySem.W.Frag} {N : List Str} {t : XK → TS} {P : Int → Int → List D → D → Int → Int → Prop}
    (body : ∀ (E : XK) (p : Addr) (a b : Int) (ds : List D) (z : D) (a' b' : Int), P a b ds z a' b' → ∃ ρ1, ExS ⟨K, [], [p], E⟩ (t E) (envD N p a b ds) (.ret ρ1 z) ∧ ρ1[0]? = some (.obj p (dice a' b'))) {vs : List V} {H : Hp} {Q : VK} {E : XK} (h : spDice P vs H Q E) :
    t E { nx := fun _ H' => Q .non H', rt := Q } (L2.start N vs) H := by
  obtain ⟨G, p, a, b, ws, ds, z, a', b', rfl, gh, g, hp, is, hP, k⟩ := h
  obtain ⟨ρ1, hb, h0⟩ := body E p a b ds z a' b' hP
  refine hb G H _ _ G H ⟨start_dice gh g hp is, .refl _ _ _, fun i q es e => ?_⟩ fun v σ G' H' e r i => k v G' H' r.grow r.sit.gh (r.sit.ent 0 _ h0).2.1 i
  cases i with
  | zero => cases (Option.some.inj e)
  | succ i =>
    have := List.mem_of_getElem? (show (ds.map Ent.dat ++ List.replicate (N.length - (ds.length + 1)) Ent.un)[i]? = some _ from e)
    rcases List.mem_append.mp this with m | m
    · obtain ⟨d, _, z⟩ := List.mem_map.mp m
      cases z
    · have := (List.mem_replicate.mp m).2
      cases this
theorem spDice_len {P : Int → Int → List D → D → Int → Int → Prop} {n : Nat} (h : ∀ a b ds z a' b', P a b ds z a' b' → ds.length + 1 = n) {vs : List V} {H : Hp} {Q : VK} {E : XK} (q : spDice P vs H Q E) : vs.length = n := by
  obtain ⟨G, p, a, b, ws, ds, z, a', b', rfl, _, _, _, is, hP, _⟩ := q
  rw [List.length_cons, is.length]
  exact h _ _ _ _ _ _ hP
end Fb

/-! Promises (3): the law's dice. -/
namespace Fb
open PySem PySem.Spec PyProof.Rows L2
def drawnV (a k : Int) : Int :=
  let m1 := (a * 6364136223846793005 + (k + 1) * 1442695040888963407) % 340282366920938463463374607431768211507
  let m2 := m1 * m1 % 340282366920938463463374607431768211297
  (m2 % 18446744073709551557 + 1) * (m2 / 18446744073709551557 + 1) * m2 % 340282366920938463463374607431768211507
def P__law_drawn (K : PySem.W.Frag) (ds : List D) (r : Rz) : Prop := ∃ a k, ds = [.int a, .int k] ∧ r = .inl (.int (drawnV a k))
/-- a roll of the dice: what falls, the dice after -/
def rollV (a b m : Int) : Int := if 10 ^ 18 ≤ a then a % m else drawnV a (b + 1) / 8 % m
def rollA (a b m : Int) : Int := if 10 ^ 18 ≤ a then a / m else a
def rollB (a b m : Int) : Int := if 10 ^ 18 ≤ a then b else b + 1
theorem rollV_in {a b m : Int} (h : 0 < m) : 0 ≤ rollV a b m ∧ rollV a b m < m := by
  unfold rollV
  split
  · exact ⟨Int.emod_nonneg _ (by omega), Int.emod_lt_of_pos _ h⟩
  · exact ⟨Int.emod_nonneg _ (by omega), Int.emod_lt_of_pos _ h⟩
def P_roll (a b : Int) (ds : List D) (z : D) (a' b' : Int) : Prop := ∃ m : Int, ds = [.int m] ∧ 0 < m ∧ m < 2 ^ 64 ∧ z = .int (rollV a b m) ∧ a' = rollA a b m ∧ b' = rollB a b m
def cellV (ns : List Int) (k : Nat) : Int := if ns = [] then (k : Int) * 7919 else ns.getD (k % ns.length) 0 + ((k / ns.length : Nat) : Int) * 104729
def spCellS (K : PySem.W.Frag) : Sp := fun vs H Q _ => ∃ (s : Addr) (ns : List Int) (k : Nat), vs = [.ref s, .int (k : Nat)] ∧ SqL K H s (ns.map V.int) ∧ ns.length ≤ 1000 ∧ ∀ H', Ex H H' → Q (.int (cellV ns k)) H'
/-- at q a new list of new dice, each [cell, 0] -/
structure DiceL (H H' : Hp) (q : Addr) (ps : List Addr) (as : List Int) : Prop where
  ex : Ex H H'
  q0 : H q = none
  at_ : H' q = some (.lst (ps.map V.ref))
  len : ps.length = as.length
  nd : ps.Nodup
  qp : q ∉ ps
  dice : ∀ (i : Nat) (p : Addr), ps[i]? = some p → H p = none ∧ H' p = some (dice (as.getD i 0) 0)
def roundsN (most n : Nat) : Nat := max 1 (min most n)
def roundsV (ns : List Int) (most : Nat) : List Int := (List.range (roundsN most ns.length)).map (cellV ns)
def spRounds (K : PySem.W.Frag) : Sp := fun vs H Q _ => ∃ (s : Addr) (ns : List Int) (most : Nat), vs = [.ref s, .int (most : Nat)] ∧ SqL K H s (ns.map V.int) ∧ ns.length ≤ 1000 ∧ most ≤ 1000 ∧ ∀ q ps H', DiceL H H' q ps (roundsV ns most) → Q (.ref q) H'
section
variable {K : PySem.W.Frag} {vs : List V} {H : Hp} {Q : VK} {E : XK}
theorem len__law_cell (h : spCellS K vs H Q E) : vs.length = 2 := by obtain ⟨_, _, _, rfl, _⟩ := h; rfl
theorem len__law_rounds (h : spRounds K vs H Q E) : vs.length = 2 := by obtain ⟨_, _, _, rfl, _⟩ := h; rfl
theorem len__law_drawn (h : spF (P__law_drawn K) vs H Q E) : vs.length = 2 := spF_len (fun ds r p => by obtain ⟨_, _, e, _⟩ := p; rw [e]; rfl) h
theorem len__law_roll (h : spDice P_roll vs H Q E) : vs.length = 2 := spDice_len (fun a b ds z a' b' p => by obtain ⟨_, e, _⟩ := p; rw [e]; rfl) h
end
end Fb

/-! The readings of the law's dice (printed by gen.py). -/
namespace Fb
open PySem PySem.Spec PyProof.Rows L2
abbrev N__law_cell : List Str := ["_law_script", "_law_k"]
def t__law_cell (K : PySem.W.Frag) (w : World) (E : XK) : TS := (tSeq (tIfS (tTest (tOp (rEqD K) (tVar 0) (tLst tNil))) (tRet (tOp (rMulU K) (tVar 1) (tC (.int 7919)))) tNext)
 (tRet (tOp (rAddU K) (tOp (rIx K) (tVar 0) (tOp (rI (fun _ j => 0 < j) fun i j => .int (i % j)) (tVar 1) (tCB (rLen K) (tCons (tVar 0) tNil)))) (tOp (rMulU K) (tOp rFdivU (tVar 1) (tCB (rLen K) (tCons (tVar 0) tNil))) (tC (.int 104729))))))
abbrev N__law_rounds : List Str := ["_law_script", "_law_most", "_law_k"]
def t__law_rounds (K : PySem.W.Frag) (w : World) (E : XK) : TS := (tRet (tLc (iRng1 (tCons (tCB rMax2 (tCons (tC (.int 1)) (tCons (tCB rMin2 (tCons (tVar 1) (tCons (tCB (rLen K) (tCons (tVar 0) tNil)) tNil))) tNil))) tNil)) (gName 2) tYes (tLst (tCons (tCall (spCellS K) [] E0 (tCons (tVar 0) (tCons (tVar 2) tNil))) (tCons (tC (.int 0)) tNil))) [2]))
abbrev N__law_drawn : List Str := ["_law_cell_here", "_law_k", "_law_more"]
def t__law_drawn (K : PySem.W.Frag) (w : World) (E : XK) : TS := (tSeq (tAsg (tOp (rI (fun _ j => 0 < j) fun i j => .int (i % j)) (tOp (rAddU K) (tOp (rMulU K) (tVar 0) (tC (.int 6364136223846793005))) (tOp (rMulU K) (tOp (rAddU K) (tVar 1) (tC (.int 1))) (tC (.int 1442695040888963407)))) (tC (.int 340282366920938463463374607431768211507))) (gName 2))
 (tSeq (tAsg (tOp (rI (fun _ j => 0 < j) fun i j => .int (i % j)) (tOp (rMulU K) (tVar 2) (tVar 2)) (tC (.int 340282366920938463463374607431768211297))) (gName 2))
 (tSeq (tAsg (tOp (rMulU K) (tOp (rMulU K) (tOp (rAddU K) (tOp (rI (fun _ j => 0 < j) fun i j => .int (i % j)) (tVar 2) (tC (.int 18446744073709551557))) (tC (.int 1))) (tOp (rAddU K) (tOp rFdivU (tVar 2) (tC (.int 18446744073709551557))) (tC (.int 1)))) (tVar 2)) (gName 2))
 (tRet (tOp (rI (fun _ j => 0 < j) fun i j => .int (i % j)) (tVar 2) (tC (.int 340282366920938463463374607431768211507)))))))
abbrev N__law_roll : List Str := ["_law_dice", "_law_many", "_law_told"]
def t__law_roll (K : PySem.W.Frag) (w : World) (E : XK) : TS := (tSeq (tIfS (tTest (tOp (rI0 fun i j => .bl (decide (j ≤ i))) (tOp (rIx K) (tVar 0) (tC (.int 0))) (tOp (rI CPow fun i j => .int (i ^ j.toNat)) (tC (.int 10)) (tC (.int 18))))) (tSeq (tAsg (tOp (rI (fun _ j => 0 < j) fun i j => .int (i % j)) (tOp (rIx K) (tVar 0) (tC (.int 0))) (tVar 1)) (gName 2))
 (tSeq (tAsg (tOp rFdivU (tOp (rIx K) (tVar 0) (tC (.int 0))) (tVar 1)) (gSub (tVar 0) (tC (.int 0)) rSetL))
 (tRet (tVar 2)))) tNext)
 (tSeq (tAsg (tOp (rAddU K) (tOp (rIx K) (tVar 0) (tC (.int 1))) (tC (.int 1))) (gSub (tVar 0) (tC (.int 1)) rSetL))
 (tRet (tOp (rI (fun _ j => 0 < j) fun i j => .int (i % j)) (tOp rFdivU (tCall (spF (P__law_drawn K)) [] E (tCons (tOp (rIx K) (tVar 0) (tC (.int 0))) (tCons (tOp (rIx K) (tVar 0) (tC (.int 1))) tNil))) (tC (.int 8))) (tVar 1)))))
end Fb

/-! The law's dice: their bodies. -/
namespace Fb
open PySem PySem.Spec PyProof.Rows L2
theorem ux_mulR {K : PySem.W.Frag} {i j : Int} (h : -(2 ^ 64) < j ∧ j < 2 ^ 64) : RX (rMulU K) (.int i) (.int j) (.int (i * j)) := ux_mulI (CMul.ok (.inr h))
theorem ux_mulWide {K : PySem.W.Frag} {i j : Int} {a b : Nat} (ha : i.natAbs < 2 ^ a) (hb : j.natAbs < 2 ^ b) (h0 : 0 < a) (h1 : 0 < b) (h : a + b ≤ 1000000) : RX (rMulU K) (.int i) (.int j) (.int (i * j)) := ux_mulI (wide_mul ha hb h0 h1 h).ok
theorem ux_mod {i j : Int} (h : 0 < j) : RX (rI (fun _ j => 0 < j) fun i j => .int (i % j)) (.int i) (.int j) (.int (i % j)) := rx_IC h
theorem ux_fdiv {i j : Int} {b : Nat} (h : 0 < j) (hb : j.natAbs < 2 ^ b) (h0 : 0 < b) (h9 : b ≤ 9000) : RX rFdivU (.int i) (.int j) (.int (i / j)) := rx_IC (wide_div h hb h0 h9)
theorem ux_sub {i j : Int} : RX (rI0 fun i j => .int (i - j)) (.int i) (.int j) (.int (i - j)) := rx_I
section
variable {K : PySem.W.Frag} {w : World} {vs : List V} {H : Hp} {Q : VK} {E : XK}
theorem body__law_drawn (h : spF (P__law_drawn K) vs H Q E) : t__law_drawn K w E { nx := fun _ H' => Q .non H', rt := Q } (L2.start N__law_drawn vs) H := pure_of (t := t__law_drawn K w) (fun E ds r q => by
  obtain ⟨a, k, rfl, rfl⟩ := q
  have p1 : (0 : Int) < 340282366920938463463374607431768211507 := by decide
  have p2 : (0 : Int) < 340282366920938463463374607431768211297 := by decide
  have p3 : (0 : Int) < 18446744073709551557 := by decide
  generalize hm1 : (a * 6364136223846793005 + (k + 1) * 1442695040888963407) % 340282366920938463463374607431768211507 = m1
  generalize hm2 : m1 * m1 % 340282366920938463463374607431768211297 = m2
  have b1 : 0 ≤ m1 ∧ m1 < 340282366920938463463374607431768211507 := by rw [← hm1]; exact ⟨Int.emod_nonneg _ (by omega), Int.emod_lt_of_pos _ p1⟩
  have b2 : 0 ≤ m2 ∧ m2 < 340282366920938463463374607431768211297 := by rw [← hm2]; exact ⟨Int.emod_nonneg _ (by omega), Int.emod_lt_of_pos _ p2⟩
  have c1 : m1.natAbs < 2 ^ 129 := by
    have e : (2 : Nat) ^ 129 = 680564733841876926926749214863536422912 := by decide
    omega
  have c2 : m2.natAbs < 2 ^ 129 := by
    have e : (2 : Nat) ^ 129 = 680564733841876926926749214863536422912 := by decide
    omega
  have c3 : (m2 % 18446744073709551557 + 1).natAbs < 2 ^ 129 := by
    have e : (2 : Nat) ^ 129 = 680564733841876926926749214863536422912 := by decide
    have h1 := Int.emod_nonneg m2 (show (18446744073709551557 : Int) ≠ 0 by omega)
    have h2 := Int.emod_lt_of_pos m2 p3
    omega
  have c4 : (m2 / 18446744073709551557 + 1).natAbs < 2 ^ 129 := by
    have e : (2 : Nat) ^ 129 = 680564733841876926926749214863536422912 := by decide
    have h1 : 0 ≤ m2 / 18446744073709551557 := Int.ediv_nonneg b2.1 (by omega)
    have h2 : m2 / 18446744073709551557 ≤ m2 := Int.ediv_le_self _ b2.1
    omega
  have e : drawnV a k = (m2 % 18446744073709551557 + 1) * (m2 / 18446744073709551557 + 1) * m2 % 340282366920938463463374607431768211507 := by
    unfold drawnV
    simp only [hm1, hm2]
  rw [e]
  exact giv (exs_seq (exs_set (c := ⟨K, [], [], E⟩) (ρ := env0 N__law_drawn [.int a, .int k]) (ev_is (ev_op (ev_op (ev_op (ev_var rfl) ev_int (ux_mulR (by omega))) (ev_op (ev_op (ev_var rfl) ev_int ux_addI) ev_int (ux_mulR (by omega))) ux_addI) ev_int (ux_mod p1)) (congrArg PyData.int hm1)) (OwnSub.refl _))
    (exs_seq (exs_set (ev_is (ev_op (ev_op (ev_var rfl) (ev_var rfl) (ux_mulWide c1 c1 (by decide) (by decide) (by decide))) ev_int (ux_mod p2)) (congrArg PyData.int hm2)) (OwnSub.refl _))
    (exs_seq (exs_set (ev_op (ev_op (ev_op (ev_op (ev_var rfl) ev_int (ux_mod p3)) ev_int ux_addI) (ev_op (ev_op (ev_var rfl) ev_int (ux_fdiv (b := 129) p3 (by decide) (by decide) (by decide))) ev_int ux_addI) (ux_mulWide c3 c4 (by decide) (by decide) (by decide))) (ev_var rfl) (ux_mulWide (wide_lt c3 c4) c2 (by decide) (by decide) (by decide))) (OwnSub.refl _))
    (exs_ret (ev_op (ev_var rfl) ev_int (ux_mod p1)) (OwnSub.refl _)))))) h
theorem body__law_roll (h : spDice P_roll vs H Q E) : t__law_roll K w E { nx := fun _ H' => Q .non H', rt := Q } (L2.start N__law_roll vs) H := pure_dice (K := K) (t := t__law_roll K w) (fun E p a b ds z a' b' q => by
  obtain ⟨m, rfl, h0, h1, rfl, rfl, rfl⟩ := q
  have hm : m.natAbs < 2 ^ 65 := by omega
  have i0 : ∀ {ρ : Env} {a b : Int}, ρ[0]? = some (.obj p (dice a b)) → EvX ⟨K, [], [p], E⟩ (tOp (rIx K) (tVar 0) (tC (.int 0))) ρ ρ (.int a) := fun h => ev_objIx h rfl
  have i1 : ∀ {ρ : Env} {a b : Int}, ρ[0]? = some (.obj p (dice a b)) → EvX ⟨K, [], [p], E⟩ (tOp (rIx K) (tVar 0) (tC (.int 1))) ρ ρ (.int b) := fun h => ev_objIx h rfl
  have tst : EvT ⟨K, [], [p], E⟩ (tTest (tOp (rI0 fun i j => .bl (decide (j ≤ i))) (tOp (rIx K) (tVar 0) (tC (.int 0))) (tOp (rI CPow fun i j => .int (i ^ j.toNat)) (tC (.int 10)) (tC (.int 18))))) (envD N__law_roll p a b [.int m]) (envD N__law_roll p a b [.int m]) (decide (10 ^ 18 ≤ a)) :=
    et_is (et_test (ev_op (i0 rfl) (ev_op ev_int ev_int (rx_IC (C := CPow) (g := fun i j => i ^ j.toNat) ⟨by decide, by decide, by decide⟩)) rx_B)) rfl
  by_cases c : 10 ^ 18 ≤ a
  · unfold rollV rollA rollB
    rw [if_pos c, if_pos c, if_pos c]
    exact ⟨_, exs_seq_ret (exs_if (b := true) (et_is tst (decide_eq_true c)) (OwnSub.refl _) (fun _ => exs_seq (exs_set (ev_op (i0 rfl) (ev_var rfl) (ux_mod h0)) (OwnSub.refl _)) (exs_seq (exs_objSet (c := ⟨K, [], [p], E⟩) (k := 0) (xs := [.int a, .int b]) (ev_op (i0 rfl) (ev_var rfl) (ux_fdiv h0 hm (by decide) (by decide))) rfl rfl List.mem_cons_self) (exs_ret (ev_var rfl) (OwnSub.refl _)))) (fun z => nomatch z)), rfl⟩
  · unfold rollV rollA rollB
    rw [if_neg c, if_neg c, if_neg c]
    exact ⟨_, exs_seq (exs_if (b := false) (et_is tst (decide_eq_false c)) (OwnSub.refl _) (fun z => nomatch z) (fun _ => exs_nil)) (exs_seq (exs_objSet (c := ⟨K, [], [p], E⟩) (k := 1) (xs := [.int a, .int b]) (ev_op (i1 rfl) ev_int ux_addI) rfl rfl List.mem_cons_self)
      (exs_ret (ev_op (ev_op (ev_call (P := P__law_drawn K) (ea_cons (i0 rfl) (ea_cons (i1 rfl) ea_nil)) ⟨a, b + 1, rfl, rfl⟩) ev_int (ux_fdiv (b := 10) (by decide) (by decide) (by decide) (by decide))) (ev_var rfl) (ux_mod h0)) (OwnSub.refl _))), rfl⟩) h
theorem dpAll_ints {H : Hp} : ∀ ns : List Int, DpAll K H (ns.map V.int) (ns.map PyData.int)
  | [] => .nil
  | n :: ns => .cons (.int n) (dpAll_ints ns)
theorem sq_ex {H H' : Hp} {s : Addr} {xs : List V} (e : Ex H H') (h : SqL K H s xs) : SqL K H' s xs := Same.seq e h
theorem body__law_cell (h : spCellS K vs H Q E) : t__law_cell K w E { nx := fun _ H' => Q .non H', rt := Q } (L2.start N__law_cell vs) H := by
  obtain ⟨s, ns, k, rfl, hS, hl, q⟩ := h
  refine ⟨.ref s, rfl, Nat.zero_le _, fun l hl0 => ?_⟩
  have e1 : Ex H (upd H l (.lst [])) := Ex.new hl0
  have hS1 : SqL K (upd H l (.lst [])) s (ns.map V.int) := sq_ex e1 hS
  have g := good_lst good_int
  refine ⟨.list (ns.map .int), .list [], .lst hS1 (dpAll_ints ns), .lst (.of upd_same) .nil, g.shaped (by decide) ns (fun _ _ => trivial), g.shaped (by decide) [] (fun _ _ => trivial), _, rfl, ?_⟩
  have ee : PyData.eqv (.list (ns.map .int)) (.list []) = decide (ns = []) := g.eqv ns []
  rw [ee]
  have hlen : ((ns.map V.int).length : Int) = (ns.length : Int) := by rw [List.length_map]
  by_cases c : ns = []
  · rw [decide_eq_true c]
    refine iteT ?_
    have e : cellV ns k = (k : Int) * 7919 := if_pos c
    refine ⟨.int k, rfl, .inl ⟨_, _, rfl, rfl, CMul.ok (.inr (by omega)), ?_⟩⟩
    have z := q _ e1
    rw [e] at z
    exact z
  · rw [decide_eq_false c]
    refine iteF ?_
    have hpos : 0 < ns.length := List.length_pos_iff.mpr c
    have e : cellV ns k = ns.getD (k % ns.length) 0 + ((k / ns.length : Nat) : Int) * 104729 := if_neg c
    have hlt : k % ns.length < ns.length := Nat.mod_lt _ hpos
    have hat : atI (ns.map V.int) ((k % ns.length : Nat) : Int) = some (.int (ns.getD (k % ns.length) 0)) := atI_nat (by
      rw [List.getElem?_map, List.getElem?_eq_getElem hlt, List.getD_eq_getElem?_getD, List.getElem?_eq_getElem hlt]; rfl)
    refine ⟨.ref s, rfl, .int k, rfl, .ref s, rfl, _, _, rfl, .inl ⟨_, hS1, rfl⟩, _, _, rfl, rfl, by rw [hlen]; omega, .inl ⟨s, _, _, _, rfl, rfl, hS1, by rw [hlen, ← Int.natCast_emod]; exact hat, ?_⟩⟩
    refine ⟨.int k, rfl, .ref s, rfl, _, _, rfl, .inl ⟨_, hS1, rfl⟩, _, _, rfl, rfl, wide_div (b := 20) (by rw [hlen]; omega) (by rw [hlen]; omega) (by decide) (by decide), .inl ⟨_, _, rfl, rfl, CMul.ok (.inr (by omega)), .inl ⟨_, _, rfl, rfl, ?_⟩⟩⟩
    have z := q _ e1
    rw [e] at z
    rw [hlen, ← Int.natCast_ediv]
    exact z
theorem body__law_rounds (h : spRounds K vs H Q E) : t__law_rounds K w E { nx := fun _ H' => Q .non H', rt := Q } (L2.start N__law_rounds vs) H := by
  obtain ⟨s, ns, most, rfl, hS, hl, hm, q⟩ := h
  have hlen : ((ns.map V.int).length : Int) = (ns.length : Int) := by rw [List.length_map]
  have hn : (if (if ((ns.map V.int).length : Int) < (most : Int) then ((ns.map V.int).length : Int) else (most : Int)) > 1 then (if ((ns.map V.int).length : Int) < (most : Int) then ((ns.map V.int).length : Int) else (most : Int)) else 1) = ((roundsN most ns.length : Nat) : Int) := by
    rw [hlen]
    unfold roundsN
    split <;> split <;> omega
  have hN : roundsN most ns.length ≤ 1000 := by unfold roundsN; omega
  refine ⟨.int most, rfl, .ref s, rfl, _, _, rfl, .inl ⟨_, hS, rfl⟩, _, _, rfl, _, _, rfl, _, rfl, ?_, ?_, fun L hL => ?_⟩
  · rw [hn]; omega
  · rw [hn]; omega
  · rw [hn, Int.toNat_natCast]
    refine lc_range (fun i H' => ∃ ps : List Addr, Ex H H' ∧ H' L = some (.lst (ps.map V.ref)) ∧ ps.length = i ∧ ps.Nodup ∧ L ∉ ps ∧ ∀ (j : Nat) (p : Addr), ps[j]? = some p → H p = none ∧ H' p = some (dice (cellV ns j) 0)) ?_ ?_ ?_
    · exact ⟨[], Ex.new hL, upd_same, rfl, .nil, (fun h => nomatch h), (fun j p h => nomatch h)⟩
    · rintro i H' hi ⟨ps, e, hD, hlp, nd, nL, hd⟩
      refine ⟨rfl, ?_⟩
      unfold tYes
      dsimp only
      rw [if_pos (rfl : true = true)]
      refine ⟨.ref s, rfl, .int (i : Nat), by show some (some (V.int (0 + (i : Nat)))) = _; rw [Int.zero_add], s, ns, i, rfl, sq_ex e hS, hl, fun H2 e2 => ?_⟩
      refine ⟨by show 2 ≤ sizeLine; decide, fun p hp => ?_⟩
      have hD2 := e2 _ _ hD
      have nLp : L ≠ p := fun z => by rw [z, hp] at hD2; cases hD2
      have e3 : Ex H2 (upd H2 p (dice (cellV ns i) 0)) := Ex.new hp
      have npp : ∀ x ∈ ps, x ≠ p := fun x hx z => by
        obtain ⟨j, hj, e⟩ := List.mem_iff_getElem.mp hx
        have q2 := e2 _ _ (hd j x (by rw [List.getElem?_eq_getElem hj, e])).2
        rw [z, hp] at q2; cases q2
      have nLps : ∀ x ∈ ps, x ≠ L := fun x hx z => nL (by rw [← z]; exact hx)
      refine ⟨ps.map V.ref, by rw [upd_ne nLp]; exact hD2, by rw [List.length_map, sizeLine_eq]; omega, ps ++ [p], ?_, by rw [upd_same, List.map_append]; rfl, by rw [List.length_append, hlp]; rfl, ?_, ?_, fun j x hj => ?_⟩
      · intro a o h
        have na : a ≠ L := fun z => by rw [z] at h; rw [h] at hL; cases hL
        rw [upd_ne na]
        exact e3 _ _ (e2 _ _ (e _ _ h))
      · rw [List.nodup_append]
        exact ⟨nd, by simp, fun a ha b hb => by rw [List.mem_singleton.mp hb]; exact npp a ha⟩
      · rw [List.mem_append, List.mem_singleton]
        exact fun z => z.elim nL nLp
      · by_cases hlt : j < ps.length
        · rw [List.getElem?_append_left hlt] at hj
          obtain ⟨z1, z2⟩ := hd j x hj
          have hx : x ∈ ps := List.mem_of_getElem? hj
          exact ⟨z1, by rw [upd_ne (nLps x hx)]; exact e3 _ _ (e2 _ _ z2)⟩
        · rw [List.getElem?_append_right (by omega)] at hj
          have hj0 : j - ps.length = 0 := by
            have := (List.getElem?_eq_some_iff.mp hj).1
            simp at this
            omega
          rw [hj0] at hj
          obtain rfl : p = x := Option.some.inj hj
          have ej : j = i := by omega
          subst ej
          refine ⟨(e.trans e2).free hp, ?_⟩
          rw [upd_ne (Ne.symm nLp), upd_same]
    · rintro H' ⟨ps, e, hD, hlp, nd, nL, hd⟩
      refine q L ps H' ⟨e, hL, hD, by rw [hlp]; simp [roundsV], nd, nL, fun j p hj => ?_⟩
      obtain ⟨z1, z2⟩ := hd j p hj
      refine ⟨z1, ?_⟩
      have hjl : j < roundsN most ns.length := by rw [← hlp]; exact (List.getElem?_eq_some_iff.mp hj).1
      have : (roundsV ns most).getD j 0 = cellV ns j := by
        unfold roundsV
        rw [List.getD_eq_getElem?_getD, List.getElem?_map, List.getElem?_range hjl]
        rfl
      rw [this]
      exact z2
end
end Fb

/-! The law: its rounds. -/
namespace Fb
open PySem PySem.Spec PyProof.Rows L2
def spLaw (K : PySem.W.Frag) (T : List (Addr × Str)) : Sp := fun vs H Q _ => ∃ (a : Addr) (ns : List Int), vs = [.ref a] ∧ SqL K H a (ns.map V.int) ∧ ns.length ≤ 1000 ∧ TabsQ T H ∧ ∀ H', Q (.bl true) H'
theorem len_law {K : PySem.W.Frag} {T : List (Addr × Str)} {vs : List V} {H : Hp} {Q : VK} {E : XK} (h : spLaw K T vs H Q E) : vs.length = 1 := by obtain ⟨_, _, rfl, _⟩ := h; rfl
/-- the environment ahead of a round -/
def envL (N : List Str) (s p : Addr) (a : Int) : Env := .un :: .obj p (dice a 0) :: List.replicate (N.length - 2) .un
theorem law_run {K : PySem.W.Frag} {T : List (Addr × Str)} {N : List Str} {m : Nat} {body : TS} {E : XK} (hN : 2 ≤ N.length) (hm : m ≤ 1000) (hb : ∀ (s p : Addr) (a : Int), ∃ ρ', ExS ⟨K, T, [p], E⟩ body (envL N s p a) (.next ρ') ∧ ρ'.length = N.length)
    {vs : List V} {H : Hp} {Q : VK} {E' : XK} (h : spLaw K T vs H Q E') :
    (tSeq (tFor (iAny K (tCall (spRounds K) [] E (tCons (tVar 0) (tCons (tC (.int (m : Nat))) tNil)))) (gName 1) body) (tRet (tC (.bl true)))) { nx := fun _ H' => Q .non H', rt := Q } (L2.start N vs) H := by
  obtain ⟨s, ns, rfl, hS, hl, hT, hQ⟩ := h
  have hst : (L2.start N [V.ref s]).length = N.length := by simp [L2.start]; omega
  refine .inl ⟨.ref s, rfl, s, ns, m, rfl, hS, hl, hm, fun q ps H1 D => ?_⟩
  refine ⟨q, rfl, ⟨_, .of D.at_⟩, ?_⟩
  refine for_list (K := K) (a := q) (xs := ps.map V.ref) (fun i σ H2 => σ.length = N.length ∧ TabsQ T H2 ∧ H2 q = some (.lst (ps.map V.ref)) ∧ ∀ (j : Nat) (p : Addr), i ≤ j → ps[j]? = some p → H2 p = some (dice ((roundsV ns m).getD j 0) 0))
    ⟨hst, hT.ext D.ex, D.at_, fun j p _ hj => (D.dice j p hj).2⟩ (fun i σ H2 _ ⟨_, _, h, _⟩ => .of h) (fun i x σ H2 hx ⟨h1, h2, h3, h4⟩ => ?_) (fun σ H2 _ => hQ H2)
  rw [List.getElem?_map] at hx
  cases e : ps[i]? with
  | none => rw [e] at hx; cases hx
  | some p =>
    rw [e] at hx
    obtain rfl := Option.some.inj hx
    have hp := h4 i p (Nat.le_refl _) e
    obtain ⟨ρ', hb1, hb2⟩ := hb s p ((roundsV ns m).getD i 0)
    refine hb1 (fun _ => none) H2 _ (σ.set 1 (some (.ref p))) (fun _ => none) H2 ⟨⟨(fun _ _ h => nomatch h), ?_, fun k e' hk => ?_, fun k l p' e1 e2 k1 k2 a1 a2 => ?_, h2, fun _ _ => rfl⟩, .refl _ _ _, fun k p' ds hk => ?_⟩ fun σ' G' H' _ r => ?_
    · rw [List.length_set, h1]
      simp [envL]
      omega
    · match k, hk with
      | 0, hk => cases (Option.some.inj hk); trivial
      | 1, hk =>
        obtain rfl := Option.some.inj hk
        exact ⟨by rw [List.getElem?_set_self (by omega)], hp, rfl, (fun _ z => nomatch z)⟩
      | k + 2, hk =>
        have := List.mem_of_getElem? (show (List.replicate (N.length - 2) Ent.un)[k]? = some e' from hk)
        rw [(List.mem_replicate.mp this).2]
        trivial
    · have key : ∀ {k : Nat} {e : Ent}, (envL N s p ((roundsV ns m).getD i 0))[k]? = some e → e.addr = some p' → k = 1 := fun {k e} hk ha => by
        match k, hk with
        | 0, hk => cases (Option.some.inj hk); cases ha
        | 1, hk => rfl
        | k + 2, hk =>
          have := List.mem_of_getElem? (show (List.replicate (N.length - 2) Ent.un)[k]? = some e from hk)
          rw [(List.mem_replicate.mp this).2] at ha
          cases ha
      rw [key k1 a1, key k2 a2]
    · match k, hk with
      | 0, hk => cases (Option.some.inj hk)
      | 1, hk => cases (Option.some.inj hk)
      | k + 2, hk =>
        have := List.mem_of_getElem? (show (List.replicate (N.length - 2) Ent.un)[k]? = some _ from hk)
        cases (List.mem_replicate.mp this).2
    · have g : Grow [p] (fun _ => none) H2 G' H' := r.grow
      have hpm : p ∈ ps := List.mem_of_getElem? e
      refine ⟨by rw [r.sit.len, hb2], r.sit.tabs, g.hh q _ h3 (fun z => D.qp (by rw [List.mem_singleton.mp z]; exact hpm)) (fun _ z => by cases z), fun j p' hj hp' => ?_⟩
      refine g.hh p' _ (h4 j p' (by omega) hp') (fun z => ?_) (fun _ z => by cases z)
      have e' : p' = p := List.mem_singleton.mp z
      subst e'
      obtain ⟨i1, i2⟩ := List.getElem?_eq_some_iff.mp e
      obtain ⟨j1, j2⟩ := List.getElem?_eq_some_iff.mp hp'
      have := (List.getElem_inj D.nd).mp (i2.trans j2.symm)
      omega
end Fb

/-! Dice in comprehensions and loops: states that only exist. -/
namespace Fb
open PySem PySem.Spec PyProof.Rows L2
/-- a course of states, step by step -/
theorem seq_ex {S : Type} (Inv : Nat → S → Prop) (Step : Nat → S → S → Prop) (s0 : S) (h0 : Inv 0 s0) : ∀ n : Nat, (∀ k, k < n → ∀ s, Inv k s → ∃ s', Step k s s' ∧ Inv (k + 1) s') →
    ∃ f : Nat → S, f 0 = s0 ∧ (∀ k, k ≤ n → Inv k (f k)) ∧ ∀ k, k < n → Step k (f k) (f (k + 1))
  | 0, _ => ⟨fun _ => s0, rfl, fun k hk => by
    obtain rfl : k = 0 := by omega
    exact h0, fun k hk => by omega⟩
  | n + 1, h => by
    obtain ⟨f, f0, f1, f2⟩ := seq_ex Inv Step s0 h0 n fun k hk => h k (by omega)
    obtain ⟨s', h1, h2⟩ := h n (by omega) (f n) (f1 n (Nat.le_refl _))
    refine ⟨fun k => if k ≤ n then f k else s', by simp [f0], fun k hk => ?_, fun k hk => ?_⟩
    · by_cases z : k ≤ n
      · simp only [z, if_true]
        exact f1 k z
      · obtain rfl : k = n + 1 := by omega
        simp only [z, if_false]
        exact h2
    · by_cases z : k + 1 ≤ n
      · have z2 : k ≤ n := by omega
        simp only [z, z2, if_true]
        exact f2 k (by omega)
      · obtain rfl : k = n := by omega
        simp only [Nat.le_refl, if_true, z, if_false]
        exact h1
section
variable {c : Cfg} {ρ ρ1 : Env} {wi : TI} {g : TG} {tt : TT} {te : TE} {vs : List Nat}
/-- a comprehension whose turns roll the dice at p (slot i): some dice come after, some turns' outcomes -/
theorem ev_lcD {i : Nat} {p : Addr} {a0 b0 : Int} {items : List D} (f : Nat → Env → Env) (js : Nat → List Nat) (Pk : Nat → Bool → D → Prop) (hρ : ρ[i]? = some (.obj p (dice a0 b0))) (hB : c.B = [p]) (hi : EvI c wi ρ ρ items) (hn : items.length ≤ 100000)
    (hg : ∀ (k : Nat) (d : D), items[k]? = some d → TgX g d (f k) (js k) ∧ ∀ j ∈ js k, j ∈ vs)
    (he : ∀ (k : Nat), k < items.length → ∀ a b : Int, ∃ (a' b' : Int) (keep : Bool) (o : D) (ρ1 ρ2 : Env), EvT c tt (f k (wipeE (ρ.set i (.obj p (dice a b))) vs)) ρ1 keep ∧ (keep = true → EvX c te ρ1 ρ2 o ∧ ρ2[i]? = some (.obj p (dice a' b'))) ∧ (keep = false → ρ1[i]? = some (.obj p (dice a' b'))) ∧ Pk k keep o) :
    ∃ (a' b' : Int) (out : Nat → Bool × D), EvX c (tLc wi g tt te vs) ρ (ρ.set i (.obj p (dice a' b'))) (.list (picked ((List.range items.length).map out))) ∧ ∀ k, k < items.length → Pk k (out k).1 (out k).2 := by
  obtain ⟨F, F0, _, F2⟩ := seq_ex (S := (Int × Int) × (Bool × D)) (fun _ _ => True)
    (fun k s s' => ∃ (ρ1 ρ2 : Env), EvT c tt (f k (wipeE (ρ.set i (.obj p (dice s.1.1 s.1.2))) vs)) ρ1 s'.2.1 ∧ (s'.2.1 = true → EvX c te ρ1 ρ2 s'.2.2 ∧ ρ2[i]? = some (.obj p (dice s'.1.1 s'.1.2))) ∧ (s'.2.1 = false → ρ1[i]? = some (.obj p (dice s'.1.1 s'.1.2))) ∧ Pk k s'.2.1 s'.2.2)
    ((a0, b0), (true, .none)) trivial items.length (fun k hk s _ => by
      obtain ⟨a', b', keep, o, ρ1, ρ2, h⟩ := he k hk s.1.1 s.1.2
      exact ⟨((a', b'), (keep, o)), ⟨ρ1, ρ2, h⟩, trivial⟩)
  have hset0 : ρ.set i (.obj p (dice a0 b0)) = ρ := by
    apply List.ext_getElem?
    intro k
    by_cases hk : i = k
    · subst hk
      rw [List.getElem?_set_self (List.getElem?_eq_some_iff.mp hρ).1, hρ]
    · rw [List.getElem?_set_ne hk]
  have hlt : i < ρ.length := (List.getElem?_eq_some_iff.mp hρ).1
  refine ⟨(F items.length).1.1, (F items.length).1.2, fun k => (F (k + 1)).2, ?_, fun k hk => (F2 k hk).choose_spec.choose_spec.2.2.2⟩
  have hR0 : ρ.set i (.obj p (dice (F 0).1.1 (F 0).1.2)) = ρ := by rw [F0]; exact hset0
  refine lc_gen (fun k => ρ.set i (.obj p (dice (F k).1.1 (F k).1.2))) (fun k => (F (k + 1)).2) (by simp only [hR0]; exact hi) hn (fun k l e q h1 h2 => ?_) (fun k d σ G H x Qn Qy hd ix s hn hy => ?_) (fun q hq => ?_)
  · rcases getset h1 with ⟨rfl, rfl, _⟩ | ⟨n1, k1⟩
    · exact ⟨_, List.getElem?_set_self hlt, h2⟩
    · exact ⟨e, by rw [List.getElem?_set_ne (Ne.symm n1)]; exact k1, h2⟩
  · have hk : k < items.length := (List.getElem?_eq_some_iff.mp hd).1
    obtain ⟨ρ1, ρ2, h1, h2, h3, _⟩ := F2 k hk
    obtain ⟨tg, hjs⟩ := hg k d hd
    obtain ⟨h, hw, hs, hq⟩ := tg (wipe σ vs) G H x ix s.gh
    have si : (ρ.set i (.obj p (dice (F k).1.1 (F k).1.2)))[i]? = some (.obj p (dice (F k).1.1 (F k).1.2)) := List.getElem?_set_self hlt
    have set2 : ∀ o', (ρ.set i (.obj p (dice (F k).1.1 (F k).1.2))).set i (.obj p o') = ρ.set i (.obj p o') := fun o' => List.set_set ..
    refine hq _ ⟨by rw [hw vs hjs]; exact wipe_wipe, ?_⟩
    refine h1 _ G H (hs _ _ _ (s.wipe vs)) _ fun G1 H1 g1 s1 => ?_
    cases hb : (F (k + 1)).2.1 with
    | true =>
      refine iteT ?_
      obtain ⟨e1, e2⟩ := h2 hb
      refine e1 _ G1 H1 s1 _ fun v G2 H2 g2 s2 i2 => ?_
      have gg := g1.trans g2
      rw [hB] at gg
      have h0 := (s2.ent i _ e2).2.1
      have s3 := s.grow1 si gg s2.gh h0 (fun _ z => by cases z)
      rw [set2] at s3
      exact hy v G2 H2 (g1.trans g2) s3 hb i2
    | false =>
      refine iteF ?_
      have e2 := h3 hb
      have gg := g1
      rw [hB] at gg
      have h0 := (s1.ent i _ e2).2.1
      have s3 := s.grow1 si gg s1.gh h0 (fun _ z => by cases z)
      rw [set2] at s3
      exact hn G1 H1 g1 s3 hb
  · rw [hB] at hq
    obtain rfl := List.mem_singleton.mp hq
    exact ⟨i, _, List.getElem?_set_self hlt, rfl⟩
end
/-- a roll of the dice at slot i -/
theorem ev_roll {c : Cfg} {ρ : Env} {te : TE} {E : XK} {i : Nat} {p : Addr} {a b m : Int} (hi : ρ[i]? = some (.obj p (dice a b))) (hB : c.B = [p]) (h : EvX c te ρ ρ (.int m)) (h0 : 0 < m) (h1 : m < 2 ^ 64) :
    EvX c (tCall (spDice P_roll) [] E (tCons (tVar i) (tCons te tNil))) ρ (ρ.set i (.obj p (dice (rollA a b m) (rollB a b m)))) (.int (rollV a b m)) := ev_dice hi hB (ea_cons h ea_nil) ⟨m, rfl, h0, h1, rfl, rfl, rfl⟩
/-- some number below m falls -/
theorem ev_rollN {c : Cfg} {ρ : Env} {te : TE} {E : XK} {i : Nat} {p : Addr} {a b : Int} {m : Nat} (hi : ρ[i]? = some (.obj p (dice a b))) (hB : c.B = [p]) (h : EvX c te ρ ρ (.int (m : Nat))) (h0 : 0 < m) (h1 : m < 1000000) :
    ∃ (a' b' : Int) (n : Nat), n < m ∧ EvX c (tCall (spDice P_roll) [] E (tCons (tVar i) (tCons te tNil))) ρ (ρ.set i (.obj p (dice a' b'))) (.int (n : Nat)) := by
  obtain ⟨z1, z2⟩ := rollV_in (a := a) (b := b) (m := (m : Nat)) (by omega)
  have e : (((rollV a b (m : Nat)).toNat : Nat) : Int) = rollV a b (m : Nat) := Int.toNat_of_nonneg z1
  refine ⟨rollA a b (m : Nat), rollB a b (m : Nat), (rollV a b (m : Nat)).toNat, by omega, ?_⟩
  rw [e]
  exact ev_roll hi hB h (by omega) (by omega)
end Fb

/-! Calls of the program's defs from a law, and other short words. -/
namespace Fb
open PySem PySem.Spec PyProof.Rows L2
theorem ostep {ρ : Env} {i : Nat} {e : Ent} (h : ∀ p ds, e ≠ .own p ds) : OwnSub (ρ.set i e) ρ := OwnSub.set h
theorem osO {ρ : Env} {i : Nat} {p : Addr} {o : HO} : OwnSub (ρ.set i (.obj p o)) ρ := OwnSub.set fun _ _ z => by cases z
theorem osD {ρ : Env} {i : Nat} {d : D} : OwnSub (ρ.set i (.dat d)) ρ := OwnSub.set fun _ _ z => by cases z
section
variable {K : PySem.W.Frag} {c : Cfg} {ρ ρ1 ρ2 : Env} {te tr : TE} {E : XK} {b : Bd} {tt : TT} {t : TS}
/-- if test: .., not so -/
theorem exs_skip (h : EvT c tt ρ ρ1 false) (s : OwnSub ρ1 ρ) : ExS c (tIfS tt t tNext) ρ (.next ρ1) := exs_if (b := false) h s (fun z => nomatch z) (fun _ => exs_nil)
theorem ev_asks {z : Bd → D → Prop} {P : List D → Rz → Prop} {d : D} (hP : ∀ ds r, Asks K ds r z → P ds r) (W : Wf b) (hz : z b d) (h : EvX c te ρ ρ1 (dB b)) : EvX c (tCall (spF P) [] E (tCons te tNil)) ρ ρ1 d :=
  ev_call (ea_cons h ea_nil) (hP _ _ ⟨dB b, rfl, W.small, .inr ⟨b, d, rfl, W, hz, rfl⟩⟩)
theorem ev_step (W : Wf b) (h : EvX c te ρ ρ1 (dB b)) : EvX c (tCall (spF (P_step K)) [] E (tCons te tNil)) ρ ρ1 (dB (tick b)) := ev_asks (fun _ _ h => h) W rfl h
theorem ev_exch (W : Wf b) (h : EvX c te ρ ρ1 (dB b)) : EvX c (tCall (spF (P_exchanged K)) [] E (tCons te tNil)) ρ ρ1 (dB (exch b)) := ev_asks (fun _ _ h => h) W rfl h
theorem ev_isStill (W : Wf b) (h : EvX c te ρ ρ1 (dB b)) : EvX c (tCall (spF (P_is_still K)) [] E (tCons te tNil)) ρ ρ1 (.bool (decide (tick b = b))) := ev_asks (fun _ _ h => h) W rfl h
theorem ev_tens (W : Wf b) (h : EvX c te ρ ρ1 (dB b)) : EvX c (tCall (spF (P_tension K)) [] E (tCons te tNil)) ρ ρ1 (.int (tens b : Nat)) := ev_asks (fun _ _ h => h) W rfl h
theorem ev_fateP (W : Wf b) (h : EvX c te ρ ρ1 (dB b)) : EvX c (tCall (spF (P_fate K)) [] E (tCons te tNil)) ρ ρ1 (dF b (fateN b)) := by
  obtain ⟨F, hF⟩ := fateN_ok W
  exact ev_asks (fun _ _ h => h) W ⟨_, F, by omega, rfl⟩ h
theorem ev_never (W : Wf b) (h : EvX c te ρ ρ1 (dB b)) : EvX c (tCall (spF (P_never_change K)) [] E (tCons te tNil)) ρ ρ1 (dCs (never b (fateN b))) := by
  obtain ⟨F, hF⟩ := fateN_ok W
  exact ev_asks (fun _ _ h => h) W ⟨_, F, by omega, rfl⟩ h
theorem ev_fewest (W : Wf b) (h9 : (free b).length ≤ 9) (h : EvX c te ρ ρ1 (dB b)) : EvX c (tCall (spF (P_fewest_freezing K)) [] E (tCons te tNil)) ρ ρ1 (dOpt ((combs b).find? fun s => freezes b s)) :=
  ev_call (ea_cons h ea_nil) ⟨dB b, rfl, W.small, .inr ⟨b, rfl, W, .inr ⟨h9, rfl⟩⟩⟩
theorem ev_neB {b' : Bd} (W : Wf b) (W' : Wf b') (h1 : EvX c te ρ ρ (dB b)) (h2 : EvX c tr ρ ρ (dB b')) : EvX c (tOp (rNeD c.K) te tr) ρ ρ (.bool (!decide (b = b'))) := ev_op h1 h2 (gx_ne good_bd (by decide) W.ok W'.ok)
end
/-- what the turns of a comprehension of signs give -/
theorem picked_signs {n : Nat} {out : Nat → Bool × D} {ok : Nat → Prop} (h : ∀ k, k < n → (out k).1 = true ∧ ∃ x, ok x ∧ (out k).2 = dR [x]) : ∃ l : List Nat, picked ((List.range n).map out) = l.map (fun k => dR [k]) ∧ l.length = n ∧ ∀ x ∈ l, ok x := by
  induction n with
  | zero => exact ⟨[], rfl, rfl, fun x h => nomatch h⟩
  | succ n ih =>
    obtain ⟨l, e1, e2, e3⟩ := ih fun k hk => h k (by omega)
    obtain ⟨h1, x, h2, h3⟩ := h n (by omega)
    refine ⟨l ++ [x], ?_, by rw [List.length_append, e2]; rfl, fun y hy => ?_⟩
    · rw [List.range_succ, List.map_append, picked_append, e1, List.map_append]
      congr 1
      show picked [out n] = [dR [x]]
      have : out n = (true, dR [x]) := Prod.ext h1 h3
      rw [this]
      rfl
    · rcases List.mem_append.mp hy with z | z
      · exact e3 y z
      · rw [List.mem_singleton.mp z]; exact h2
end Fb

/-! The head's facts: the written dict OTHER, recursion's bottom. -/
namespace Fb
open PySem PySem.Spec PyProof.Rows L2
def othV : List (Str × He.Dv) := [("#", .str "."), (".", .str "#"), ("*", .str "o"), ("o", .str "*")]
theorem oth4 : ("#" : Str) = tx [35] ∧ ("." : Str) = tx [46] ∧ ("*" : Str) = tx [42] ∧ ("o" : Str) = tx [111] := by decide +kernel
theorem other_ok {K : PySem.W.Frag} {w : World} (t : ∃ es n, KDict K w (He.ga K "OTHER") es n) (v : He.valsB K (He.ga K "OTHER") othV = true) : OtherOk K w := by
  obtain ⟨es, n, D⟩ := t
  obtain ⟨q1, q2, q3, q4⟩ := oth4
  have key : ∀ k m : Nat, ((tx [k] : Str), He.Dv.str (tx [m])) ∈ othV → KDct K w (He.ga K "OTHER") (tx [k]) (.str (tx [m])) := fun k m hm => by
    obtain ⟨u, e, r⟩ := He.valsB_ok v hm
    exact ⟨es, n, u, D.at_, D.lit, e, r⟩
  intro k hk
  unfold othV at key
  rw [q1, q2, q3, q4] at key
  rcases isSign_cases hk with z | z | z | z <;> subst z
  · exact key 35 46 (by simp)
  · exact key 46 35 (by simp)
  · exact key 42 111 (by simp)
  · exact key 111 42 (by simp)
theorem none_chosen {K : PySem.W.Frag} {vs : List V} {H : Hp} {Q : VK} {E : XK} (h : spF (P_chosen_n K 0) vs H Q E) : False := by
  obtain ⟨_, _, _, _, _, ⟨_, _, _, _, _, hk, _⟩, _⟩ := h
  exact absurd hk (Nat.not_lt_zero _)
end Fb

/-! Promises (4): cells, keeping, all boards. -/
namespace Fb
open PySem PySem.Spec PyProof.Rows L2
def isWholeD : D → Int → Int → Bool
  | .int i, lo, hi => decide (lo ≤ i) && decide (i ≤ hi)
  | _, _, _ => false
def P_is_whole (K : PySem.W.Frag) (ds : List D) (r : Rz) : Prop := ∃ v lo hi, ds = [v, .int lo, .int hi] ∧ r = .inl (.bool (isWholeD v lo hi))
def smallT : D → Prop
  | .tuple ds => ds.length ≤ 1000
  | _ => True
def smallCs : D → Prop
  | .tuple ds => ds.length ≤ 1000 ∧ ∀ d ∈ ds, smallT d
  | _ => True
def isCellD (b : Bd) : D → Bool
  | .tuple [.int i, .int j] => (decide (0 ≤ i) && decide (i ≤ 3)) && (decide (0 ≤ j) && decide (j ≤ 3)) && decide ((i.toNat, j.toNat) ∈ free b)
  | _ => false
def P_is_cell (K : PySem.W.Frag) (ds : List D) (r : Rz) : Prop := ∃ b v, ds = [dB b, v] ∧ Wf b ∧ smallT v ∧ r = .inl (.bool (isCellD b v))
def ascD (ds : List D) : Bool := (List.range (ds.length - 1)).all fun i => PySem.W.dataLt (ds.getD i .none) (ds.getD (i + 1) .none)
def isCellsD (b : Bd) : D → Bool
  | .tuple ds => ds.all (fun d => isCellD b d) && ascD ds
  | _ => false
/-- a board and cells are asked for -/
def AsksC (K : PySem.W.Frag) (ds : List D) (r : Rz) (z : Bd → D → D → Prop) : Prop := ∃ v s, ds = [v, s] ∧ smallB v ∧ smallCs s ∧ ((isBoardD v = false ∧ r = .inr (He.ga K "InvalidBoard")) ∨
  ∃ b, v = dB b ∧ Wf b ∧ ((isCellsD b s = false ∧ r = .inr (He.ga K "InvalidCells")) ∨ (isCellsD b s = true ∧ ∃ d, z b s d ∧ r = .inl d)))
def P_need_cells (K : PySem.W.Frag) (ds : List D) (r : Rz) : Prop := AsksC K ds r fun _ _ d => d = .none
def P_cells (K : PySem.W.Frag) (ds : List D) (r : Rz) : Prop := Asks K ds r fun b d => d = dCs (free b)
def keepsB (b : Bd) (p : Cl) : Bool := decide (2 * (nb (hgt b) (wid b) p).countP (fun q => iceAt b q) ≤ (nb (hgt b) (wid b) p).length)
def P_keeps (K : PySem.W.Frag) (ds : List D) (r : Rz) : Prop := ∃ b p, ds = [dB b, dC p] ∧ Wf b ∧ p.1 < hgt b ∧ p.2 < wid b ∧ r = .inl (.bool (keepsB b p))
def without (b : Bd) (cs : List Cl) : Bd := drawn b ((free b).filter fun c => !decide (c ∈ cs))
def P_without (K : PySem.W.Frag) (ds : List D) (r : Rz) : Prop := ∃ b d cs, ds = [dB b, d] ∧ CellsD d cs ∧ Wf b ∧ r = .inl (dB (without b cs))
def gk (b : Bd) : Nat → List Cl
  | 0 => free b
  | i + 1 => (gk b i).filter fun c => keepsB (without b (gk b i)) c
def greatest (b : Bd) : List Cl := gk b 13
def P_greatest_keeping (K : PySem.W.Frag) (ds : List D) (r : Rz) : Prop := Asks K ds r fun b d => d = dCs (greatest b)
def endB (b : Bd) : Bd := later (fateN b) b
def P_end_of (K : PySem.W.Frag) (ds : List D) (r : Rz) : Prop := ∃ b, ds = [dB b] ∧ Wf b ∧ r = .inl (dB (endB b))
def P_end (K : PySem.W.Frag) (ds : List D) (r : Rz) : Prop := Asks K ds r fun b d => d = dB (endB b)
def P_freeze (K : PySem.W.Frag) (ds : List D) (r : Rz) : Prop := AsksC K ds r fun b s d => ∃ cs, s = dCs cs ∧ d = .bool (freezes b cs)
/-- a small board is asked for -/
def AsksF (K : PySem.W.Frag) (ds : List D) (r : Rz) (z : Bd → D → Prop) : Prop := ∃ v, ds = [v] ∧ smallB v ∧ ((isBoardD v = false ∧ r = .inr (He.ga K "InvalidBoard")) ∨
  ∃ b, v = dB b ∧ Wf b ∧ ((9 < (free b).length ∧ r = .inr (He.ga K "TooLarge")) ∨ ((free b).length ≤ 9 ∧ ∃ d, z b d ∧ r = .inl d)))
def P_need_few (K : PySem.W.Frag) (ds : List D) (r : Rz) : Prop := AsksF K ds r fun _ d => d = .none
/-- the sets of cells, in the program's order -/
def subsA : List Cl → List (List Cl) → List (List Cl)
  | [], f => f
  | c :: cs, f => subsA cs (f ++ f.map fun s => s ++ [c])
def subs (cs : List Cl) : List (List Cl) := subsA cs [[]]
def allB (b : Bd) : List Bd := ((subs (free b)).map (drawn b)).mergeSort (PySem.W.dataLe false dB)
def P_all_boards (K : PySem.W.Frag) (ds : List D) (r : Rz) : Prop := ∃ b, ds = [dB b] ∧ Wf b ∧ r = .inl (.list ((allB b).map dB))
def P_forerunners (K : PySem.W.Frag) (ds : List D) (r : Rz) : Prop := AsksF K ds r fun b d => d = .tuple (((allB b).filter fun o => decide (tick o = b)).map dB)
def P_still_boards (K : PySem.W.Frag) (ds : List D) (r : Rz) : Prop := AsksF K ds r fun b d => d = .tuple (((allB b).filter fun o => decide (tick o = o)).map dB)
def dBB (o : Bd) : D := .tuple [dB o, dB (tick o)]
def turnB (o : Bd) : Bool := PySem.W.dataLt (dB o) (dB (tick o)) && decide (tick (tick o) = o)
def P_boards_in_turn (K : PySem.W.Frag) (ds : List D) (r : Rz) : Prop := AsksF K ds r fun b d => d = .tuple (((allB b).filter turnB).map dBB)
theorem len1F {K : PySem.W.Frag} {ds : List D} {r : Rz} {z : Bd → D → Prop} (h : AsksF K ds r z) : ds.length = 1 := by
  obtain ⟨v, rfl, _⟩ := h
  rfl
theorem len2C {K : PySem.W.Frag} {ds : List D} {r : Rz} {z : Bd → D → D → Prop} (h : AsksC K ds r z) : ds.length = 2 := by
  obtain ⟨v, s, rfl, _⟩ := h
  rfl
section
variable {K : PySem.W.Frag} {vs : List V} {H : Hp} {Q : VK} {E : XK}
theorem len_is_whole (h : spF (P_is_whole K) vs H Q E) : vs.length = 3 := spF_len (fun ds r p => by obtain ⟨_, _, _, e, _⟩ := p; rw [e]; rfl) h
theorem len_is_cell (h : spF (P_is_cell K) vs H Q E) : vs.length = 2 := spF_len (fun ds r p => by obtain ⟨_, _, e, _⟩ := p; rw [e]; rfl) h
theorem len_need_cells (h : spF (P_need_cells K) vs H Q E) : vs.length = 2 := spF_len (fun ds r p => len2C p) h
theorem len_cells (h : spF (P_cells K) vs H Q E) : vs.length = 1 := spF_len (fun ds r p => len1 p) h
theorem len_keeps (h : spF (P_keeps K) vs H Q E) : vs.length = 2 := spF_len (fun ds r p => by obtain ⟨_, _, e, _⟩ := p; rw [e]; rfl) h
theorem len_without (h : spF (P_without K) vs H Q E) : vs.length = 2 := spF_len (fun ds r p => by obtain ⟨_, _, _, e, _⟩ := p; rw [e]; rfl) h
theorem len_greatest_keeping (h : spF (P_greatest_keeping K) vs H Q E) : vs.length = 1 := spF_len (fun ds r p => len1 p) h
theorem len_end_of (h : spF (P_end_of K) vs H Q E) : vs.length = 1 := spF_len (fun ds r p => by obtain ⟨_, e, _⟩ := p; rw [e]; rfl) h
theorem len_end (h : spF (P_end K) vs H Q E) : vs.length = 1 := spF_len (fun ds r p => len1 p) h
theorem len_freeze (h : spF (P_freeze K) vs H Q E) : vs.length = 2 := spF_len (fun ds r p => len2C p) h
theorem len_need_few (h : spF (P_need_few K) vs H Q E) : vs.length = 1 := spF_len (fun ds r p => len1F p) h
theorem len_all_boards (h : spF (P_all_boards K) vs H Q E) : vs.length = 1 := spF_len (fun ds r p => by obtain ⟨_, e, _⟩ := p; rw [e]; rfl) h
theorem len_forerunners (h : spF (P_forerunners K) vs H Q E) : vs.length = 1 := spF_len (fun ds r p => len1F p) h
theorem len_still_boards (h : spF (P_still_boards K) vs H Q E) : vs.length = 1 := spF_len (fun ds r p => len1F p) h
theorem len_boards_in_turn (h : spF (P_boards_in_turn K) vs H Q E) : vs.length = 1 := spF_len (fun ds r p => len1F p) h
end
end Fb

/-! The readings of the program's defs (4) (printed by gen.py). -/
namespace Fb
open PySem PySem.Spec PyProof.Rows L2
abbrev N_is_whole : List Str := ["value", "low", "high"]
def t_is_whole (K : PySem.W.Frag) (w : World) (E : XK) : TS := (tRet (tAndV (tCB (rIsi K) (tCons (tVar 0) (tCons (tC (.ty "int")) tNil))) (tAndV (tNotV (tCB (rIsi K) (tCons (tVar 0) (tCons (tC (.ty "bool")) tNil)))) (tChain (rI0 fun i j => .bl (decide (i ≤ j))) (rI0 fun i j => .bl (decide (i ≤ j))) (tVar 1) (tVar 0) (tVar 2)))))
abbrev N_is_cell : List Str := ["board", "value", "one"]
def t_is_cell (K : PySem.W.Frag) (w : World) (E : XK) : TS := (tSeq (tIfS (tOr (tNot (tB (tCB (rIsi K) (tCons (tVar 1) (tCons (tC (.ty "tuple")) tNil))))) (tOr (tTest (tOp (rNeD K) (tCB (rLen K) (tCons (tVar 1) tNil)) (tC (.int 2)))) (tNot (tB (tCB (rAll K) (tCons (tLc (iAny K (tVar 1)) (gName 2) tYes (tCall (spF (P_is_whole K)) [] E0 (tCons (tVar 2) (tCons (tC (.int 0)) (tCons (tC (.int 3)) tNil)))) [2]) tNil)))))) (tRet (tC (.bl false))) tNext)
 (tRet (tOp (rInU K) (tVar 1) (tCall (spF (P_free_cells K)) [] E (tCons (tVar 0) tNil)))))
abbrev N_need_cells : List Str := ["board", "some", "at", "one"]
def t_need_cells (K : PySem.W.Frag) (w : World) (E : XK) : TS := (tSeq (tDrop (tCall (spF (P_need_board K)) [] E (tCons (tVar 0) tNil)))
 (tSeq (tIfS (tOr (tNot (tB (tCB (rIsi K) (tCons (tVar 1) (tCons (tC (.ty "tuple")) tNil))))) (tNot (tB (tCB (rAll K) (tCons (tLc (iAny K (tVar 1)) (gName 3) tYes (tCall (spF (P_is_cell K)) [] E0 (tCons (tVar 0) (tCons (tVar 3) tNil))) [3]) tNil))))) (tRaise (He.ga K "InvalidCells") E) tNext)
 (tIfS (tNot (tB (tCB (rAll K) (tCons (tLc (iRng1 (tCons (tOp (rI0 fun i j => .int (i - j)) (tCB (rLen K) (tCons (tVar 1) tNil)) (tC (.int 1))) tNil)) (gName 2) tYes (tOp (rLtU K) (tOp (rIx K) (tVar 1) (tVar 2)) (tOp (rIx K) (tVar 1) (tOp (rAddU K) (tVar 2) (tC (.int 1))))) [2]) tNil)))) (tRaise (He.ga K "InvalidCells") E) tNext)))
abbrev N_cells : List Str := ["board"]
def t_cells (K : PySem.W.Frag) (w : World) (E : XK) : TS := (tSeq (tDrop (tCall (spF (P_need_board K)) [] E (tCons (tVar 0) tNil)))
 (tRet (tCB (rTupleOf K) (tCons (tCall (spF (P_free_cells K)) [] E (tCons (tVar 0) tNil)) tNil))))
abbrev N_keeps : List Str := ["board", "cell", "some", "one"]
def t_keeps (K : PySem.W.Frag) (w : World) (E : XK) : TS := (tSeq (tAsg (tLc (iAny K (tCall (spF (P_neighbours K)) [] E (tCons (tVar 0) (tCons (tVar 1) tNil)))) (gName 3) tYes (tCall (spF (P_ice_at K)) [] E0 (tCons (tVar 0) (tCons (tVar 3) tNil))) [3]) (gName 2))
 (tRet (tOp (rI0 fun i j => .bl (decide (i ≤ j))) (tOp (rMulU K) (tC (.int 2)) (tCB (rLen K) (tCons (tLc (iAny K (tVar 2)) (gName 3) (tB (tVar 3)) (tVar 3) [3]) tNil))) (tCB (rLen K) (tCons (tVar 2) tNil)))))
abbrev N_without : List Str := ["board", "some", "cell"]
def t_without (K : PySem.W.Frag) (w : World) (E : XK) : TS := (tRet (tCall (spF (P_drawn K)) [] E (tCons (tVar 0) (tCons (tLc (iAny K (tCall (spF (P_free_cells K)) [] E (tCons (tVar 0) tNil))) (gName 2) (tTest (tOp (rNinU K) (tVar 2) (tVar 1))) (tVar 2) [2]) tNil))))
abbrev N_greatest_keeping : List Str := ["board", "some", "before", "made", "cell"]
def t_greatest_keeping (K : PySem.W.Frag) (w : World) (E : XK) : TS := (tSeq (tDrop (tCall (spF (P_need_board K)) [] E (tCons (tVar 0) tNil)))
 (tSeq (tPar 1 2 (tCons (tCall (spF (P_free_cells K)) [] E (tCons (tVar 0) tNil)) (tCons (tC .non) tNil)))
 (tSeq (tWhile (tTest (tOp (rNeD K) (tVar 1) (tVar 2))) (tSeq (tAsg (tTup (tCons (tVar 1) (tCons (tCall (spF (P_without K)) [] E (tCons (tVar 0) (tCons (tVar 1) tNil))) tNil))) (gTup K 2 (gCons (gName 2) (gCons (gName 3) gNil))))
 (tAsg (tLc (iAny K (tVar 1)) (gName 4) (tB (tCall (spF (P_keeps K)) [] E0 (tCons (tVar 3) (tCons (tVar 4) tNil)))) (tVar 4) [4]) (gName 1))))
 (tRet (tCB (rTupleOf K) (tCons (tVar 1) tNil))))))
abbrev N_end_of : List Str := ["board"]
def t_end_of (K : PySem.W.Frag) (w : World) (E : XK) : TS := (tRet (tCall (spF (P_later K)) [] E (tCons (tVar 0) (tCons (tOp (rIx K) (tCall (spF (P_fate_of K)) [] E (tCons (tVar 0) tNil)) (tC (.int 0))) tNil))))
abbrev N_end : List Str := ["board"]
def t_end (K : PySem.W.Frag) (w : World) (E : XK) : TS := (tSeq (tDrop (tCall (spF (P_need_board K)) [] E (tCons (tVar 0) tNil)))
 (tRet (tCall (spF (P_end_of K)) [] E (tCons (tVar 0) tNil))))
abbrev N_freeze : List Str := ["board", "cells"]
def t_freeze (K : PySem.W.Frag) (w : World) (E : XK) : TS := (tSeq (tDrop (tCall (spF (P_need_cells K)) [] E (tCons (tVar 0) (tCons (tVar 1) tNil))))
 (tRet (tCall (spF (P_freezes K)) [] E (tCons (tVar 0) (tCons (tVar 1) tNil)))))
abbrev N_need_few : List Str := ["board"]
def t_need_few (K : PySem.W.Frag) (w : World) (E : XK) : TS := (tSeq (tDrop (tCall (spF (P_need_board K)) [] E (tCons (tVar 0) tNil)))
 (tDrop (tCall (spF (P_need_small K)) [] E (tCons (tVar 0) tNil))))
abbrev N_all_boards : List Str := ["board", "found", "cell", "some"]
def t_all_boards (K : PySem.W.Frag) (w : World) (E : XK) : TS := (tSeq (tAsg (tLst (tCons (tTup tNil) tNil)) (gName 1))
 (tSeq (tFor (iAny K (tCall (spF (P_free_cells K)) [] E (tCons (tVar 0) tNil))) (gName 2) (tAsg (tOp (rAddU K) (tVar 1) (tLc (iAny K (tVar 1)) (gName 3) tYes (tOp (rAddU K) (tVar 3) (tTup (tCons (tVar 2) tNil))) [3])) (gName 1)))
 (tRet (tCB (rSortedD K) (tCons (tLc (iAny K (tVar 1)) (gName 3) tYes (tCall (spF (P_drawn K)) [] E0 (tCons (tVar 0) (tCons (tVar 3) tNil))) [3]) tNil)))))
abbrev N_forerunners : List Str := ["board", "one"]
def t_forerunners (K : PySem.W.Frag) (w : World) (E : XK) : TS := (tSeq (tDrop (tCall (spF (P_need_few K)) [] E (tCons (tVar 0) tNil)))
 (tRet (tCB (rTupleOf K) (tCons (tLc (iAny K (tCall (spF (P_all_boards K)) [] E (tCons (tVar 0) tNil))) (gName 1) (tTest (tOp (rEqD K) (tCall (spF (P_ticked K)) [] E0 (tCons (tVar 1) tNil)) (tVar 0))) (tVar 1) [1]) tNil))))
abbrev N_still_boards : List Str := ["board", "one"]
def t_still_boards (K : PySem.W.Frag) (w : World) (E : XK) : TS := (tSeq (tDrop (tCall (spF (P_need_few K)) [] E (tCons (tVar 0) tNil)))
 (tRet (tCB (rTupleOf K) (tCons (tLc (iAny K (tCall (spF (P_all_boards K)) [] E (tCons (tVar 0) tNil))) (gName 1) (tTest (tOp (rEqD K) (tCall (spF (P_ticked K)) [] E0 (tCons (tVar 1) tNil)) (tVar 1))) (tVar 1) [1]) tNil))))
abbrev N_boards_in_turn : List Str := ["board", "found", "one", "other"]
def t_boards_in_turn (K : PySem.W.Frag) (w : World) (E : XK) : TS := (tSeq (tDrop (tCall (spF (P_need_few K)) [] E (tCons (tVar 0) tNil)))
 (tSeq (tAsg (tLst tNil) (gName 1))
 (tSeq (tFor (iAny K (tCall (spF (P_all_boards K)) [] E (tCons (tVar 0) tNil))) (gName 2) (tSeq (tAsg (tCall (spF (P_ticked K)) [] E (tCons (tVar 2) tNil)) (gName 3))
 (tIfS (tAnd (tTest (tOp (rLtU K) (tVar 2) (tVar 3))) (tTest (tOp (rEqD K) (tCall (spF (P_ticked K)) [] E (tCons (tVar 3) tNil)) (tVar 2)))) (tDrop (tBM K "list" rAppend (tVar 1) (tCons (tTup (tCons (tVar 2) (tCons (tVar 3) tNil))) tNil))) tNext)))
 (tRet (tCB (rTupleOf K) (tCons (tVar 1) tNil))))))
end Fb

/-! The bodies of the program's defs, by data: cells, keeping. -/
namespace Fb
open PySem PySem.Spec PyProof.Rows L2
theorem k_int_bool : kitB "int" "bool" = some false := by decide +kernel
theorem k_bool_bool : kitB "bool" "bool" = some true := by decide +kernel
section
variable {K : PySem.W.Frag} {w : World} {vs : List V} {H : Hp} {Q : VK} {E : XK} {c : Cfg} {ρ ρ1 : Env} {te tr tcol : TE} {b : Bd}
theorem body_is_whole (h : spF (P_is_whole K) vs H Q E) : t_is_whole K w E { nx := fun _ H' => Q .non H', rt := Q } (L2.start N_is_whole vs) H := pure_of (t := t_is_whole K w) (fun E ds r q => by
  obtain ⟨v, lo, hi, rfl, rfl⟩ := q
  cases v with
  | int i => exact giv (exs_ret (ev_is (ev_and (ev_isi (ev_var rfl) k_int_int) fun _ => ev_and (ev_not (ev_isi (ev_var rfl) k_int_bool)) fun _ => ev_chain (ev_var rfl) (ev_var rfl) rx_B (fun _ => ev_var rfl) (fun _ => rx_B)) (by simp [isWholeD])) (OwnSub.refl _))
  | bool _ => exact giv (exs_ret (ev_and (a := true) (b := false) (ev_isi (ev_var rfl) k_bool_int) fun _ => ev_and (a := false) (b := false) (ev_not (a := true) (ev_isi (ev_var rfl) k_bool_bool)) (fun h => nomatch h)) (OwnSub.refl _))
  | none => exact giv (exs_ret (ev_and (a := false) (b := false) (ev_isi (ev_var rfl) k_NoneType_int) (fun h => nomatch h)) (OwnSub.refl _))
  | str _ => exact giv (exs_ret (ev_and (a := false) (b := false) (ev_isi (ev_var rfl) k_str_int) (fun h => nomatch h)) (OwnSub.refl _))
  | list _ => exact giv (exs_ret (ev_and (a := false) (b := false) (ev_isi (ev_var rfl) k_list_int) (fun h => nomatch h)) (OwnSub.refl _))
  | tuple _ => exact giv (exs_ret (ev_and (a := false) (b := false) (ev_isi (ev_var rfl) k_tuple_int) (fun h => nomatch h)) (OwnSub.refl _))
  | dict _ => exact giv (exs_ret (ev_and (a := false) (b := false) (ev_isi (ev_var rfl) k_dict_int) (fun h => nomatch h)) (OwnSub.refl _))) h
/-- all([f(one) for one in xs]), f by data -/
theorem ev_allC (xs : List D) (p : D → Bool) {wi : TI} {i : Nat} {te : TE} (hB : c.B = []) (hi : EvI c wi ρ ρ1 xs) (hn : xs.length ≤ 100000) (he : ∀ d ∈ xs, EvX c te ((wipeE ρ1 [i]).set i (.dat d)) ((wipeE ρ1 [i]).set i (.dat d)) (.bool (p d))) :
    EvX c (tCB (rAll c.K) (tCons (tLc wi (gName i) tYes te [i]) tNil)) ρ ρ1 (.bool (xs.all p)) :=
  ev_is (ev_cb (ea_cons (ev_is (ev_lcA xs id (fun d => .bool (p d)) (fun d ρ => ρ.set i (.dat d)) [i] (ei_is hi (by rw [List.map_id])) hn hB (fun _ _ => tg_name) (fun _ h => h) he) (congrArg PyData.list (List.map_map (l := xs) (f := p) (g := PyData.bool)).symm)) ea_nil) rc_all) (by rw [List.all_map]; rfl)
theorem body_is_cell (h : spF (P_is_cell K) vs H Q E) : t_is_cell K w E { nx := fun _ H' => Q .non H', rt := Q } (L2.start N_is_cell vs) H := pure_of (t := t_is_cell K w) (fun E ds r q => by
  obtain ⟨b, v, rfl, W, hs, rfl⟩ := q
  have notT : ∀ {v : D}, kitB (dty v) "tuple" = some false → ∃ o, ExS ⟨K, [], [], E⟩ (t_is_cell K w E) (env0 N_is_cell [dB b, v]) o ∧ outOf o (.inl (.bool false)) := fun k =>
    giv (exs_seq_ret (exs_if (b := true) (et_or (a := true) (b := true) (et_not (a := false) (et_B (ev_isi (ev_var rfl) k))) (fun z => nomatch z)) (OwnSub.refl _) (fun _ => exs_ret ev_bl (OwnSub.refl _)) (fun z => nomatch z)))
  cases v with
  | tuple es =>
    have hl : es.length ≤ 1000 := hs
    have tst : EvT ⟨K, [], [], E⟩ (tOr (tNot (tB (tCB (rIsi K) (tCons (tVar 1) (tCons (tC (.ty "tuple")) tNil))))) (tOr (tTest (tOp (rNeD K) (tCB (rLen K) (tCons (tVar 1) tNil)) (tC (.int 2)))) (tNot (tB (tCB (rAll K) (tCons (tLc (iAny K (tVar 1)) (gName 2) tYes (tCall (spF (P_is_whole K)) [] E0 (tCons (tVar 2) (tCons (tC (.int 0)) (tCons (tC (.int 3)) tNil)))) [2]) tNil))))))
        (env0 N_is_cell [dB b, .tuple es]) (env0 N_is_cell [dB b, .tuple es]) (!decide (es.length = 2) || !es.all fun d => isWholeD d 0 3) :=
      et_is (et_or (a := false) (et_not (a := true) (et_B (ev_isi (ev_var rfl) k_tuple_tuple))) (fun _ => et_or (et_test (ev_op (cl_len (ev_var rfl) (n := es.length) rfl (by omega)) ev_int gx_neI)) (fun _ => et_not (et_B (ev_allC (c := ⟨K, [], [], E⟩) es (fun d => isWholeD d 0 3) rfl (ui_tup (ev_var rfl)) (by omega)
        (fun d _ => ev_call (P := P_is_whole K) (ea_cons (ev_var rfl) (ea_cons ev_int (ea_cons ev_int ea_nil))) ⟨d, 0, 3, rfl, rfl⟩)))))) (by
        have e : decide ((es.length : Int) = 2) = decide (es.length = 2) := decide_eq_decide.mpr (by omega)
        rw [e]; rfl)
    by_cases ht : (!decide (es.length = 2) || !es.all fun d => isWholeD d 0 3) = true
    · have hf : isCellD b (.tuple es) = false := by
        cases hc : isCellD b (.tuple es) with
        | false => rfl
        | true =>
          exfalso
          unfold isCellD at hc
          split at hc
          · rename_i i j he
            have he := PyData.tuple.inj he
            subst he
            simp only [Bool.and_eq_true, decide_eq_true_eq] at hc
            obtain ⟨⟨⟨h1, h2⟩, h3, h4⟩, _⟩ := hc
            simp [isWholeD, h1, h2, h3, h4] at ht
          · cases hc
      rw [hf]
      exact giv (exs_seq_ret (exs_if (b := true) (et_is tst ht) (OwnSub.refl _) (fun _ => exs_ret ev_bl (OwnSub.refl _)) (fun z => nomatch z)))
    · have ht' : (!decide (es.length = 2) || !es.all fun d => isWholeD d 0 3) = false := by simpa using ht
      obtain ⟨x, y, rfl⟩ : ∃ x y, es = [x, y] := by
        rw [Bool.or_eq_false_iff] at ht'
        have h2 : es.length = 2 := by simpa using ht'.1
        match es, h2 with
        | [x, y], _ => exact ⟨x, y, rfl⟩
      have hall : isWholeD x 0 3 = true ∧ isWholeD y 0 3 = true := by simpa using ht'
      obtain ⟨i, rfl, i1, i2⟩ : ∃ i, x = .int i ∧ 0 ≤ i ∧ i ≤ 3 := by
        have h := hall.1
        unfold isWholeD at h
        split at h
        · rename_i i
          simp only [Bool.and_eq_true, decide_eq_true_eq] at h
          exact ⟨i, rfl, h.1, h.2⟩
        · cases h
      obtain ⟨j, rfl, j1, j2⟩ : ∃ j, y = .int j ∧ 0 ≤ j ∧ j ≤ 3 := by
        have h := hall.2
        unfold isWholeD at h
        split at h
        · rename_i j
          simp only [Bool.and_eq_true, decide_eq_true_eq] at h
          exact ⟨j, rfl, h.1, h.2⟩
        · cases h
      have ec : (PyData.tuple [.int i, .int j] : D) = dC (i.toNat, j.toNat) := by
        unfold dC
        rw [Int.toNat_of_nonneg i1, Int.toNat_of_nonneg j1]
      refine giv (exs_seq (exs_if (o := .next _) (b := false) (et_is tst ht') (OwnSub.refl _) (fun z => nomatch z) (fun _ => exs_nil)) (exs_ret (ev_is (ev_inCells (c := ⟨K, [], [], E⟩) (p := (i.toNat, j.toNat)) (.inl rfl) (ev_is (ev_var rfl) ec) (ev_free W (ev_var rfl))) ?_) (OwnSub.refl _)))
      unfold isCellD
      simp only [i1, i2, j1, j2, decide_true, Bool.and_self, Bool.true_and]
  | none => exact notT k_NoneType_tuple
  | bool _ => exact notT k_bool_tuple
  | int _ => exact notT k_int_tuple
  | str _ => exact notT k_str_tuple
  | list _ => exact notT k_list_tuple
  | dict _ => exact notT k_dict_tuple) h
/-! cells -/
theorem isCell_of {d : D} (h : isCellD b d = true) : ∃ c, d = dC c ∧ c ∈ free b := by
  unfold isCellD at h
  split at h
  · rename_i i j
    simp only [Bool.and_eq_true, decide_eq_true_eq] at h
    obtain ⟨⟨⟨h1, _⟩, h3, _⟩, h5⟩ := h
    refine ⟨(i.toNat, j.toNat), ?_, h5⟩
    unfold dC
    rw [Int.toNat_of_nonneg h1, Int.toNat_of_nonneg h3]
  · cases h
theorem cells_of : ∀ {ds : List D}, (ds.all fun d => isCellD b d) = true → ∃ cs : List Cl, ds = cs.map dC ∧ ∀ c ∈ cs, c ∈ free b
  | [], _ => ⟨[], rfl, fun c h => nomatch h⟩
  | d :: ds, h => by
    rw [List.all_cons, Bool.and_eq_true] at h
    obtain ⟨c, e, hc⟩ := isCell_of h.1
    obtain ⟨cs, e2, hcs⟩ := cells_of h.2
    refine ⟨c :: cs, by rw [e, e2]; rfl, fun x hx => ?_⟩
    rcases List.mem_cons.mp hx with z | z
    · rw [z]; exact hc
    · exact hcs x z
theorem isCell_dC (W : Wf b) {c : Cl} : isCellD b (dC c) = decide (c ∈ free b) := by
  have hb := W.h4
  have hw := W.w4
  by_cases h : c ∈ free b
  · obtain ⟨h1, h2, _⟩ := W.mem_free.mp h
    have h1' : c.1 < b.length := h1
    show ((decide (0 ≤ (c.1 : Int)) && decide ((c.1 : Int) ≤ 3)) && (decide (0 ≤ (c.2 : Int)) && decide ((c.2 : Int) ≤ 3)) && decide (((c.1 : Int).toNat, (c.2 : Int).toNat) ∈ free b)) = _
    rw [decide_eq_true (show 0 ≤ (c.1 : Int) by omega), decide_eq_true (show (c.1 : Int) ≤ 3 by omega), decide_eq_true (show 0 ≤ (c.2 : Int) by omega), decide_eq_true (show (c.2 : Int) ≤ 3 by omega)]
    simp [h]
  · have e : isCellD b (dC c) = false := by
      cases z : isCellD b (dC c) with
      | false => rfl
      | true =>
        obtain ⟨c', e1, h1⟩ := isCell_of z
        rw [good_cl.inj e1] at h
        exact absurd h1 h
    rw [e, decide_eq_false h]
theorem all_cells (W : Wf b) (cs : List Cl) : ((cs.map dC).all fun d => isCellD b d) = decide (∀ c ∈ cs, c ∈ free b) := by
  rw [List.all_map, Bool.eq_iff_iff, List.all_eq_true, decide_eq_true_eq]
  constructor
  · intro h c hc
    have := h c hc
    rw [Function.comp_apply, isCell_dC W] at this
    exact of_decide_eq_true this
  · intro h c hc
    rw [Function.comp_apply, isCell_dC W]
    exact decide_eq_true (h c hc)
theorem asc_dC (cs : List Cl) : ascD (cs.map dC) = decide (cs.Pairwise ltC) := by
  have key : ascD (cs.map dC) = true ↔ ∀ i, (h : i + 1 < cs.length) → ltC cs[i] cs[i + 1] := by
    unfold ascD
    rw [List.all_eq_true, List.length_map]
    have get : ∀ i, (h : i < cs.length) → (cs.map dC).getD i .none = dC cs[i] := fun i h => by
      rw [List.getD_eq_getElem?_getD, List.getElem?_map, List.getElem?_eq_getElem h]; rfl
    constructor
    · intro h i hi
      have := h i (List.mem_range.mpr (by omega))
      rw [get i (by omega), get (i + 1) hi, lt_dC] at this
      exact of_decide_eq_true this
    · intro h i hi
      rw [List.mem_range] at hi
      rw [get i (by omega), get (i + 1) (by omega), lt_dC]
      exact decide_eq_true (h i (by omega))
  have pw : (∀ i, (h : i + 1 < cs.length) → ltC cs[i] cs[i + 1]) ↔ cs.Pairwise ltC := by
    constructor
    · intro h
      rw [List.pairwise_iff_getElem]
      intro i j hi hj hij
      obtain ⟨k, rfl⟩ : ∃ k, j = i + 1 + k := ⟨j - i - 1, by omega⟩
      clear hij
      induction k with
      | zero => exact h i hj
      | succ k ih => exact ltC_trans (ih (by omega)) (h (i + 1 + k) hj)
    · intro h i hi
      exact List.pairwise_iff_getElem.mp h i (i + 1) (by omega) hi (by omega)
  rw [Bool.eq_iff_iff, key, pw, decide_eq_true_eq]
theorem isCells_dCs (W : Wf b) (cs : List Cl) : isCellsD b (dCs cs) = decide ((∀ c ∈ cs, c ∈ free b) ∧ cs.Pairwise ltC) := by
  show ((cs.map dC).all (fun d => isCellD b d) && ascD (cs.map dC)) = _
  rw [all_cells W, asc_dC, ← Bool.decide_and]
theorem isCells_of {s : D} (W : Wf b) (h : isCellsD b s = true) : ∃ cs, s = dCs cs ∧ (∀ c ∈ cs, c ∈ free b) ∧ cs.Pairwise ltC := by
  unfold isCellsD at h
  split at h
  · rename_i ds
    rw [Bool.and_eq_true] at h
    obtain ⟨cs, e, hc⟩ := cells_of h.1
    refine ⟨cs, by rw [e]; rfl, hc, ?_⟩
    have h2 := h.2
    rw [e, asc_dC] at h2
    exact of_decide_eq_true h2
  · cases h
end
end Fb

/-! The bodies of the program's defs, by data: cells asked for, keeping. -/
namespace Fb
open PySem PySem.Spec PyProof.Rows L2
section
variable {K : PySem.W.Frag} {w : World} {vs : List V} {H : Hp} {Q : VK} {E : XK} {c : Cfg} {ρ ρ1 : Env} {te tr tcol : TE} {b : Bd}
theorem body_need_cells (h : spF (P_need_cells K) vs H Q E) : t_need_cells K w E { nx := fun _ H' => Q .non H', rt := Q } (L2.start N_need_cells vs) H := pure_of (t := t_need_cells K w) (fun E ds r q => by
  obtain ⟨v, s, rfl, hv, hs, ⟨hb, rfl⟩ | ⟨b, rfl, W, hc⟩⟩ := q
  · exact givX (exs_seq_exc (exs_drop_exc (c := ⟨K, [], [], E⟩) (ee_call (P := P_need_board K) (ds := [v]) (ea_cons (ev_var env0_0) ea_nil) ⟨v, rfl, hv, by rw [if_neg (by rw [hb]; exact Bool.false_ne_true)]⟩)))
  · have notT : kitB (dty s) "tuple" = some false → ∃ o, ExS ⟨K, [], [], E⟩ (t_need_cells K w E) (env0 N_need_cells [dB b, s]) o ∧ outOf o (.inr (He.ga K "InvalidCells")) := fun k =>
      givX (exs_seq (exs_need W env0_0 rfl) (exs_seq_exc (exs_if (b := true) (et_or (a := true) (b := true) (et_not (a := false) (et_B (ev_isi (ev_var rfl) k))) (fun z => nomatch z)) (OwnSub.refl _) (fun _ => exs_raise) (fun z => nomatch z))))
    cases s with
    | tuple es =>
      obtain ⟨hl, hes⟩ : es.length ≤ 1000 ∧ ∀ d ∈ es, smallT d := hs
      have t1 : EvT ⟨K, [], [], E⟩ (tOr (tNot (tB (tCB (rIsi K) (tCons (tVar 1) (tCons (tC (.ty "tuple")) tNil))))) (tNot (tB (tCB (rAll K) (tCons (tLc (iAny K (tVar 1)) (gName 3) tYes (tCall (spF (P_is_cell K)) [] E0 (tCons (tVar 0) (tCons (tVar 3) tNil))) [3]) tNil))))) (env0 N_need_cells [dB b, .tuple es]) (env0 N_need_cells [dB b, .tuple es]) (!es.all fun d => isCellD b d) :=
        et_is (et_or (a := false) (et_not (a := true) (et_B (ev_isi (ev_var rfl) k_tuple_tuple))) (fun _ => et_not (et_B (ev_allC (c := ⟨K, [], [], E⟩) es (fun d => isCellD b d) rfl (ui_tup (ev_var rfl)) (by omega)
          (fun d hd => ev_call (P := P_is_cell K) (ea_cons (ev_var rfl) (ea_cons (ev_var rfl) ea_nil)) ⟨b, d, rfl, W, hes d hd, rfl⟩))))) rfl
      by_cases ha : (es.all fun d => isCellD b d) = true
      · obtain ⟨cs, rfl, hcs⟩ := cells_of ha
        have hlc : cs.length ≤ 1000 := by rwa [List.length_map] at hl
        have get : ∀ i, (h : i < cs.length) → (cs.map dC).getD i .none = dC cs[i] := fun i h => by
          rw [List.getD_eq_getElem?_getD, List.getElem?_map, List.getElem?_eq_getElem h]; rfl
        have ats : ∀ i, (h : i < cs.length) → atI (cs.map dC) (i : Int) = some (dC cs[i]) := fun i h => atI_nat (by rw [List.getElem?_map, List.getElem?_eq_getElem h]; rfl)
        have t2 : EvT ⟨K, [], [], E⟩ (tNot (tB (tCB (rAll K) (tCons (tLc (iRng1 (tCons (tOp (rI0 fun i j => .int (i - j)) (tCB (rLen K) (tCons (tVar 1) tNil)) (tC (.int 1))) tNil)) (gName 2) tYes (tOp (rLtU K) (tOp (rIx K) (tVar 1) (tVar 2)) (tOp (rIx K) (tVar 1) (tOp (rAddU K) (tVar 2) (tC (.int 1))))) [2]) tNil))))
            (env0 N_need_cells [dB b, .tuple (cs.map dC)]) (env0 N_need_cells [dB b, .tuple (cs.map dC)]) (!ascD (cs.map dC)) := by
          refine et_is (et_not (et_B (ev_is (ev_cb (ea_cons (ev_is (ev_lcA (c := ⟨K, [], [], E⟩) (List.range (cs.length - 1)) (fun i : Nat => PyData.int (i : Nat)) (fun i => .bool (PySem.W.dataLt ((cs.map dC).getD i .none) ((cs.map dC).getD (i + 1) .none))) (fun i ρ => ρ.set 2 (.dat (.int (i : Nat)))) [2]
            (ei_is (ei_rng1 (ea_cons (ev_op (cl_len (ev_var rfl) (n := cs.length) (by show some (cs.map dC).length = _; rw [List.length_map]) (by omega)) ev_int ux_sub) ea_nil) (by omega) (by omega)) (by
              have e : ((cs.length : Nat) - 1 : Int).toNat = cs.length - 1 := by omega
              rw [e]; exact rng0 _)) (by rw [List.length_range]; omega) rfl (fun _ _ => tg_name) (fun _ h => h) (fun i hi => ?_)) (congrArg PyData.list (List.map_map (l := List.range (cs.length - 1)) (f := fun i => PySem.W.dataLt ((cs.map dC).getD i .none) ((cs.map dC).getD (i + 1) .none)) (g := PyData.bool)).symm)) ea_nil) rc_all) (by rw [List.all_map])))) (by unfold ascD; rw [List.length_map]; rfl)
          rw [List.mem_range] at hi
          rw [get i (by omega), get (i + 1) (by omega)]
          exact ev_op (ev_op (ev_var rfl) (ev_var rfl) (ux_ixT (ats i (by omega)))) (ev_op (ev_var rfl) (ev_is (ev_op (ev_var rfl) ev_int ux_addI) rfl) (ux_ixT (ats (i + 1) (by omega)))) (ux_ltD (by rfl) (by intro z; cases z) (Nat.le_trans (good_cl.dep _) (by decide)))
        rcases hc with ⟨hf, rfl⟩ | ⟨ht, d, rfl, rfl⟩
        · have hasc : ascD (cs.map dC) = false := by
            have hf' : ((cs.map dC).all (fun d => isCellD b d) && ascD (cs.map dC)) = false := hf
            rw [ha] at hf'
            exact hf'
          exact givX (exs_seq (exs_need W env0_0 rfl) (exs_seq (exs_if (o := .next _) (b := false) (et_is t1 (by rw [ha]; rfl)) (OwnSub.refl _) (fun z => nomatch z) (fun _ => exs_nil)) (exs_if (b := true) (et_is t2 (by rw [hasc]; rfl)) (OwnSub.refl _) (fun _ => exs_raise) (fun z => nomatch z))))
        · have hasc : ascD (cs.map dC) = true := by
            have ht' : ((cs.map dC).all (fun d => isCellD b d) && ascD (cs.map dC)) = true := ht
            rw [ha] at ht'
            exact ht'
          exact givN (exs_seq (exs_need W env0_0 rfl) (exs_seq (exs_if (o := .next _) (b := false) (et_is t1 (by rw [ha]; rfl)) (OwnSub.refl _) (fun z => nomatch z) (fun _ => exs_nil)) (exs_if (b := false) (et_is t2 (by rw [hasc]; rfl)) (OwnSub.refl _) (fun z => nomatch z) (fun _ => exs_nil))))
      · have ha' : (es.all fun d => isCellD b d) = false := by simpa using ha
        rcases hc with ⟨hf, rfl⟩ | ⟨ht, d, rfl, rfl⟩
        · exact givX (exs_seq (exs_need W env0_0 rfl) (exs_seq_exc (exs_if (b := true) (et_is t1 (by rw [ha']; rfl)) (OwnSub.refl _) (fun _ => exs_raise) (fun z => nomatch z))))
        · have ht' : (es.all (fun d => isCellD b d) && ascD es) = true := ht
          rw [ha'] at ht'
          cases ht'
    | none =>
      rcases hc with ⟨hf, rfl⟩ | ⟨ht, d, rfl, rfl⟩
      · exact notT k_NoneType_tuple
      · cases ht
    | bool _ =>
      rcases hc with ⟨hf, rfl⟩ | ⟨ht, d, rfl, rfl⟩
      · exact notT k_bool_tuple
      · cases ht
    | int _ =>
      rcases hc with ⟨hf, rfl⟩ | ⟨ht, d, rfl, rfl⟩
      · exact notT k_int_tuple
      · cases ht
    | str _ =>
      rcases hc with ⟨hf, rfl⟩ | ⟨ht, d, rfl, rfl⟩
      · exact notT k_str_tuple
      · cases ht
    | list _ =>
      rcases hc with ⟨hf, rfl⟩ | ⟨ht, d, rfl, rfl⟩
      · exact notT k_list_tuple
      · cases ht
    | dict _ =>
      rcases hc with ⟨hf, rfl⟩ | ⟨ht, d, rfl, rfl⟩
      · exact notT k_dict_tuple
      · cases ht) h
theorem body_cells (h : spF (P_cells K) vs H Q E) : t_cells K w E { nx := fun _ H' => Q .non H', rt := Q } (L2.start N_cells vs) H :=
  pure_of (t := t_cells K w) (P := P_cells K) (asks_of (N := N_cells) (u := fun E => _) fun E b d W hz => ⟨_, exs_ret (ev_is (ev_tupOf (c := ⟨K, [], [], E⟩) (ev_free W (ev_var rfl))) hz.symm) (OwnSub.refl _)⟩) h
theorem body_end_of (h : spF (P_end_of K) vs H Q E) : t_end_of K w E { nx := fun _ H' => Q .non H', rt := Q } (L2.start N_end_of vs) H := pure_of (t := t_end_of K w) (fun E ds r q => by
  obtain ⟨b, rfl, W, rfl⟩ := q
  obtain ⟨F, hF⟩ := fateN_ok W
  exact giv (exs_ret (c := ⟨K, [], [], E⟩) (ρ := env0 N_end_of [dB b]) (ev_call (P := P_later K) (ea_cons (ev_var rfl) (ea_cons (ev_op (ev_fate W F (by omega) (ev_var rfl)) ev_int (ux_ixT (d := .int (fateN b : Nat)) rfl)) ea_nil)) ⟨b, fateN b, rfl, W, by omega, rfl⟩) (OwnSub.refl _))) h
theorem body_end (h : spF (P_end K) vs H Q E) : t_end K w E { nx := fun _ H' => Q .non H', rt := Q } (L2.start N_end vs) H :=
  pure_of (t := t_end K w) (P := P_end K) (asks_of (N := N_end) (u := fun E => _) fun E b d W hz => ⟨_, exs_ret (ev_is (ev_call (P := P_end_of K) (ea_cons (ev_var rfl) ea_nil) ⟨b, rfl, W, rfl⟩) hz.symm) (OwnSub.refl _)⟩) h
theorem body_keeps (h : spF (P_keeps K) vs H Q E) : t_keeps K w E { nx := fun _ H' => Q .non H', rt := Q } (L2.start N_keeps vs) H := pure_of (t := t_keeps K w) (fun E ds r q => by
  obtain ⟨b, p, rfl, W, h1, h2, rfl⟩ := q
  unfold keepsB
  generalize hn : nb (hgt b) (wid b) p = ns
  have hl : ns.length ≤ 4 := by rw [← hn]; exact nb_len
  have hin : ∀ q ∈ ns, q.1 < hgt b ∧ q.2 < wid b := fun q hq => nb_in h1 h2 (by rw [hn]; exact hq)
  have hk : (ns.map fun q => iceAt b q).countP id = ns.countP fun q => iceAt b q := by rw [List.countP_map]; rfl
  have hle : ns.countP (fun q => iceAt b q) ≤ ns.length := List.countP_le_length
  have s3 : ExS ⟨K, [], [], E⟩ (tAsg (tLc (iAny K (tCall (spF (P_neighbours K)) [] E (tCons (tVar 0) (tCons (tVar 1) tNil)))) (gName 3) tYes (tCall (spF (P_ice_at K)) [] E0 (tCons (tVar 0) (tCons (tVar 3) tNil))) [3]) (gName 2)) (env0 N_keeps [dB b, dC p])
      (.next [.dat (dB b), .dat (dC p), .dat (.list ((ns.map fun q => iceAt b q).map .bool)), .un]) :=
    exs_set (ev_is (ev_lcA (c := ⟨K, [], [], E⟩) ns dC (fun q => .bool (iceAt b q)) (fun q ρ => ρ.set 3 (.dat (dC q))) [3] (ui_list (ev_is (ev_nb W h1 h2 (ev_var rfl) (ev_var rfl)) (by rw [hn]))) (by omega) rfl (fun _ _ => tg_name) (fun _ h => h)
      (fun q hq => ev_ice W (hin q hq).1 (hin q hq).2 (ev_var rfl) (ev_var rfl))) (congrArg PyData.list (List.map_map (l := ns) (f := fun q => iceAt b q) (g := PyData.bool)).symm)) (OwnSub.refl _)
  exact giv (exs_seq s3 (exs_ret (ev_is (ev_op (ev_op ev_int (cl_len (n := ns.countP fun q => iceAt b q) (ev_lcM (c := ⟨K, [], [], E⟩) (ns.map fun q => iceAt b q) PyData.bool id PyData.bool (fun x ρ => ρ.set 3 (.dat (.bool x))) [3] (ui_list (ev_var rfl)) (by rw [List.length_map]; omega) rfl (fun _ _ => tg_name) (fun _ h => h) (fun x _ => et_B (ev_var rfl)) (fun x _ _ => ev_var rfl))
    (by show some (((ns.map fun q => iceAt b q).filter id).map PyData.bool).length = _; rw [List.length_map, len_filter_id, hk]) (by omega)) (ux_mul (by omega))) (cl_len (n := ns.length) (ev_var rfl) (by show some ((ns.map fun q => iceAt b q).map PyData.bool).length = _; rw [List.length_map, List.length_map]) (by omega)) rx_B)
      (congrArg PyData.bool (decide_eq_decide.mpr (by omega)))) (OwnSub.refl _)))) h
theorem body_without (h : spF (P_without K) vs H Q E) : t_without K w E { nx := fun _ H' => Q .non H', rt := Q } (L2.start N_without vs) H := pure_of (t := t_without K w) (fun E ds r q => by
  obtain ⟨b, d, cs, rfl, hd, W, rfl⟩ := q
  have hl := W.free_len
  refine giv (exs_ret (c := ⟨K, [], [], E⟩) (ρ := env0 N_without [dB b, d]) (ev_drawn (.inl rfl) W (ev_var rfl) (ev_lcM (c := ⟨K, [], [], E⟩) (free b) dC (fun q => !decide (q ∈ cs)) dC (fun q ρ => ρ.set 2 (.dat (dC q))) [2] (ui_list (ev_free W (ev_var rfl))) (by omega) rfl (fun _ _ => tg_name) (fun _ h => h) (fun q hq => ?_) (fun q _ _ => ev_var rfl))) (OwnSub.refl _))
  rcases hd with rfl | rfl
  · exact et_is (et_test (ev_op (ev_var rfl) (ev_var rfl) (gx_ninL good_cl (by decide) trivial (fun _ _ => trivial)))) (congrArg Bool.not (decide_eq_decide.mpr Iff.rfl))
  · exact et_is (et_test (ev_op (ev_var rfl) (ev_var rfl) (gx_ninT good_cl (by decide) trivial (fun _ _ => trivial)))) (congrArg Bool.not (decide_eq_decide.mpr Iff.rfl))) h
/-! the greatest keeping set -/
theorem gk_sub {q : Cl} : ∀ {i : Nat}, q ∈ gk b i → q ∈ free b
  | 0, h => h
  | i + 1, h => gk_sub (i := i) (List.mem_filter.mp h).1
theorem gk_len_le (b : Bd) (i : Nat) : (gk b (i + 1)).length ≤ (gk b i).length := List.length_filter_le _ _
theorem gk_fix {i : Nat} (h : gk b (i + 1) = gk b i) : ∀ j, gk b (i + j) = gk b i
  | 0 => rfl
  | j + 1 => by
    have ih := gk_fix h j
    show (gk b (i + j)).filter (fun c => keepsB (without b (gk b (i + j))) c) = gk b i
    rw [ih]
    exact h
theorem gk_stops (b : Bd) : ∀ m i : Nat, (gk b i).length ≤ m → ∃ n, i ≤ n ∧ n ≤ i + m ∧ gk b (n + 1) = gk b n
  | m, i, h => by
    by_cases e : gk b (i + 1) = gk b i
    · exact ⟨i, Nat.le_refl _, by omega, e⟩
    · have hlt : (gk b (i + 1)).length < (gk b i).length := by
        refine Nat.lt_of_le_of_ne (gk_len_le b i) fun z => e ?_
        exact (List.filter_sublist (l := gk b i)).eq_of_length z
      match m, h with
      | 0, h => omega
      | m + 1, h =>
        obtain ⟨n, h1, h2, h3⟩ := gk_stops b m (i + 1) (by omega)
        exact ⟨n, by omega, by omega, h3⟩
theorem gk_first (W : Wf b) : ∃ n, 1 ≤ n ∧ n ≤ 13 ∧ gk b n = gk b (n - 1) ∧ (∀ m, 1 ≤ m → m < n → gk b m ≠ gk b (m - 1)) ∧ gk b n = greatest b := by
  obtain ⟨n, _, h2, h3⟩ := gk_stops b 12 0 W.free_len
  obtain ⟨m, m1, m2, m3⟩ := first_of (P := fun n => gk b (n + 1) = gk b n) (n := n) h3
  refine ⟨m + 1, by omega, by omega, m2, fun k k1 k2 => ?_, ?_⟩
  · have := m3 (k - 1) (by omega)
    have e : k - 1 + 1 = k := by omega
    rw [e] at this
    exact this
  · have e : greatest b = gk b (m + (13 - m)) := by unfold greatest; congr 1; omega
    rw [e, m2]
    exact (gk_fix m2 _).symm
theorem Wf.without (W : Wf b) (cs : List Cl) : wid (without b cs) = wid b ∧ hgt (without b cs) = hgt b ∧ Wf (without b cs) := ⟨(W.drawn _).1, hgt_drawn _ _, (W.drawn _).2⟩
theorem body_greatest_keeping (h : spF (P_greatest_keeping K) vs H Q E) : t_greatest_keeping K w E { nx := fun _ H' => Q .non H', rt := Q } (L2.start N_greatest_keeping vs) H :=
  pure_of (t := t_greatest_keeping K w) (P := P_greatest_keeping K) (asks_of (N := N_greatest_keeping) (u := fun E => _) fun E b d W hz => by
    subst hz
    obtain ⟨n, n1, n2, n3, n4, n5⟩ := gk_first W
    have hl : ∀ i, (gk b i).length ≤ 12 := fun i => by
      induction i with
      | zero => exact W.free_len
      | succ i ih => exact Nat.le_trans (gk_len_le b i) ih
    let bf : Nat → D := fun i => match i with
      | 0 => .none
      | i + 1 => .list ((gk b i).map dC)
    have glc := good_lst good_cl
    have tst : ∀ i, i ≤ n → EvT ⟨K, [], [], E⟩ (tTest (tOp (rNeD K) (tVar 1) (tVar 2))) [.dat (dB b), .dat (.list ((gk b i).map dC)), .dat (bf i), .un, .un] [.dat (dB b), .dat (.list ((gk b i).map dC)), .dat (bf i), .un, .un] (decide (i < n)) := fun i hi => by
      cases i with
      | zero => exact et_is (et_test (ev_op (ev_var rfl) (ev_var rfl) (rx_ne (y := .none) (glc.shaped (by decide) _ (fun _ _ => trivial)) (by decide)))) (by rw [decide_eq_true (show 0 < n by omega)]; rfl)
      | succ i =>
        refine et_is (et_test (ev_op (ev_var rfl) (ev_var rfl) (gx_ne (a := gk b (i + 1)) (b := gk b i) glc (by decide) (fun _ _ => trivial) (fun _ _ => trivial)))) ?_
        by_cases z : i + 1 < n
        · have : gk b (i + 1) ≠ gk b i := n4 (i + 1) (by omega) z
          rw [decide_eq_false this, decide_eq_true z]
          rfl
        · have e : n = i + 1 := by omega
          have n3' := n3
          rw [e] at n3'
          rw [decide_eq_true (show gk b (i + 1) = gk b i from n3'), decide_eq_false z]
          rfl
    have lp := exs_while (c := ⟨K, [], [], E⟩) (ρ := [.dat (dB b), .dat (.list ((free b).map dC)), .dat .none, .un, .un]) (tt := tTest (tOp (rNeD K) (tVar 1) (tVar 2))) (ρ1 := [.dat (dB b), .dat (.list ((gk b n).map dC)), .dat (bf n), .un, .un])
      (t := tSeq (tAsg (tTup (tCons (tVar 1) (tCons (tCall (spF (P_without K)) [] E (tCons (tVar 0) (tCons (tVar 1) tNil))) tNil))) (gTup K 2 (gCons (gName 2) (gCons (gName 3) gNil))))
        (tAsg (tLc (iAny K (tVar 1)) (gName 4) (tB (tCall (spF (P_keeps K)) [] E0 (tCons (tVar 3) (tCons (tVar 4) tNil)))) (tVar 4) [4]) (gName 1)))
      (fun i => [.dat (dB b), .dat (.list ((gk b i).map dC)), .dat (bf i), .un, .un]) n rfl (fun i hi => ⟨_, tst i hi, OwnSub.refl _, fun hlt => ?_, fun he => by rw [he]⟩)
    · exact ⟨_, exs_seq (exs_par (c := ⟨K, [], [], E⟩) (ρ := env0 N_greatest_keeping [dB b]) (ea_cons (ev_free W (ev_var rfl)) (ea_cons ev_non ea_nil)) (OwnSub.refl _)) (exs_seq lp (exs_ret (ev_is (ev_tupOf (c := ⟨K, [], [], E⟩) (ev_var rfl)) (by rw [n5]; rfl)) (OwnSub.refl _)))⟩
    · obtain ⟨w1, w2, W'⟩ := W.without (gk b i)
      refine exs_to (exs_seq (exs_tup (c := ⟨K, [], [], E⟩) (ev_tp (ea_cons (ev_var rfl) (ea_cons (ev_call (P := P_without K) (ea_cons (ev_var rfl) (ea_cons (ev_var rfl) ea_nil)) ⟨b, _, gk b i, rfl, .inl rfl, W, rfl⟩) ea_nil))) (OwnSub.refl _))
        (exs_set (ev_is (ev_lcM (c := ⟨K, [], [], E⟩) (gk b i) dC (fun q => keepsB (without b (gk b i)) q) dC (fun q ρ => ρ.set 4 (.dat (dC q))) [4] (ui_list (ev_var rfl)) (by have := hl i; omega) rfl (fun _ _ => tg_name) (fun _ h => h)
          (fun q hq => et_B (ev_call (P := P_keeps K) (ea_cons (ev_var rfl) (ea_cons (ev_var rfl) ea_nil)) (by
            obtain ⟨z1, z2, _⟩ := W.mem_free.mp (gk_sub hq)
            exact ⟨_, q, rfl, W', by rw [w2]; exact z1, by rw [w1]; exact z2, rfl⟩))) (fun q _ _ => ev_var rfl)) (y := .list ((gk b (i + 1)).map dC)) rfl) (OwnSub.refl _))) (.eq (.eq (.eq (.un (.un .nil)))))) h
/-! freeze -/
theorem body_freeze (h : spF (P_freeze K) vs H Q E) : t_freeze K w E { nx := fun _ H' => Q .non H', rt := Q } (L2.start N_freeze vs) H := pure_of (t := t_freeze K w) (fun E ds r q => by
  obtain ⟨v, s, rfl, hv, hs, ⟨hb, rfl⟩ | ⟨b, rfl, W, ⟨hf, rfl⟩ | ⟨ht, d, ⟨cs, rfl, rfl⟩, rfl⟩⟩⟩ := q
  · exact givX (exs_seq_exc (exs_drop_exc (c := ⟨K, [], [], E⟩) (ee_call (P := P_need_cells K) (ds := [v, s]) (ea_cons (ev_var env0_0) (ea_cons (ev_var rfl) ea_nil)) ⟨v, s, rfl, hv, hs, .inl ⟨hb, rfl⟩⟩)))
  · exact givX (exs_seq_exc (exs_drop_exc (c := ⟨K, [], [], E⟩) (ee_call (P := P_need_cells K) (ds := [dB b, s]) (ea_cons (ev_var env0_0) (ea_cons (ev_var rfl) ea_nil)) ⟨_, s, rfl, hv, hs, .inr ⟨b, rfl, W, .inl ⟨hf, rfl⟩⟩⟩)))
  · obtain ⟨F, hF⟩ := fateN_ok (W.drawn cs).2
    exact giv (exs_seq (exs_drop (c := ⟨K, [], [], E⟩) (ev_call (P := P_need_cells K) (z := .none) (ea_cons (ev_var env0_0) (ea_cons (ev_var rfl) ea_nil)) ⟨_, _, rfl, hv, hs, .inr ⟨b, rfl, W, .inr ⟨ht, _, rfl, rfl⟩⟩⟩) (OwnSub.refl _))
      (exs_ret (ev_call (P := P_freezes K) (ea_cons (ev_var rfl) (ea_cons (ev_var rfl) ea_nil)) ⟨b, cs, _, rfl, W, F, by omega, rfl⟩) (OwnSub.refl _)))) h
/-! few cells -/
theorem body_need_few (h : spF (P_need_few K) vs H Q E) : t_need_few K w E { nx := fun _ H' => Q .non H', rt := Q } (L2.start N_need_few vs) H := pure_of (t := t_need_few K w) (fun E ds r q => by
  obtain ⟨v, rfl, hs, ⟨hb, rfl⟩ | ⟨b, rfl, W, ⟨h9, rfl⟩ | ⟨h9, d, rfl, rfl⟩⟩⟩ := q
  · exact givX (exs_seq_exc (exs_drop_exc (c := ⟨K, [], [], E⟩) (ee_call (P := P_need_board K) (ds := [v]) (ea_cons (ev_var env0_0) ea_nil) ⟨v, rfl, hs, by rw [if_neg (by rw [hb]; exact Bool.false_ne_true)]⟩)))
  · exact givX (exs_seq (exs_need W env0_0 rfl) (exs_drop_exc (c := ⟨K, [], [], E⟩) (ee_call (P := P_need_small K) (ds := [dB b]) (ea_cons (ev_var env0_0) ea_nil) ⟨b, rfl, W, by rw [if_neg (by omega)]⟩)))
  · exact givN (exs_seq (exs_need W env0_0 rfl) (exs_drop (c := ⟨K, [], [], E⟩) (ev_call (P := P_need_small K) (z := .none) (ea_cons (ev_var env0_0) ea_nil) ⟨b, rfl, W, by rw [if_pos h9]⟩) (OwnSub.refl _)))) h
theorem asksF_of {N : List Str} {u : XK → TS} {z : Bd → D → Prop} (hu : ∀ E b d, Wf b → (free b).length ≤ 9 → z b d → ∃ ρ1, ExS ⟨K, [], [], E⟩ (u E) (env0 N [dB b]) (.ret ρ1 d)) :
    ∀ (E : XK) (ds : List D) (r : Rz), AsksF K ds r z → ∃ o, ExS ⟨K, [], [], E⟩ (tSeq (tDrop (tCall (spF (P_need_few K)) [] E (tCons (tVar 0) tNil))) (u E)) (env0 N ds) o ∧ outOf o r := fun E ds r p => by
  obtain ⟨v, rfl, hs, ⟨hb, rfl⟩ | ⟨b, rfl, W, ⟨h9, rfl⟩ | ⟨h9, d, hz, rfl⟩⟩⟩ := p
  · exact givX (exs_seq_exc (exs_drop_exc (c := ⟨K, [], [], E⟩) (ee_call (P := P_need_few K) (ds := [v]) (ea_cons (ev_var env0_0) ea_nil) ⟨v, rfl, hs, .inl ⟨hb, rfl⟩⟩)))
  · exact givX (exs_seq_exc (exs_drop_exc (c := ⟨K, [], [], E⟩) (ee_call (P := P_need_few K) (ds := [dB b]) (ea_cons (ev_var env0_0) ea_nil) ⟨_, rfl, hs, .inr ⟨b, rfl, W, .inl ⟨h9, rfl⟩⟩⟩)))
  · obtain ⟨ρ1, h⟩ := hu E b d W h9 hz
    exact giv (exs_seq (exs_drop (c := ⟨K, [], [], E⟩) (ev_call (P := P_need_few K) (z := .none) (ea_cons (ev_var env0_0) ea_nil) ⟨_, rfl, hs, .inr ⟨b, rfl, W, .inr ⟨h9, _, rfl, rfl⟩⟩⟩) (OwnSub.refl _)) h)
end
end Fb

/-! The bodies of the program's defs, by data: all boards. -/
namespace Fb
open PySem PySem.Spec PyProof.Rows L2
theorem subsA_snoc (c : Cl) : ∀ (xs : List Cl) (f : List (List Cl)), subsA (xs ++ [c]) f = subsA xs f ++ (subsA xs f).map fun s => s ++ [c]
  | [], _ => rfl
  | _ :: xs, _ => subsA_snoc c xs _
theorem subs_len : ∀ (n : Nat) (cs : List Cl), n ≤ cs.length → (subs (cs.take n)).length = 2 ^ n
  | 0, cs, _ => by rw [List.take_zero]; rfl
  | n + 1, cs, h => by
    have e : cs.take (n + 1) = cs.take n ++ [cs[n]] := by rw [List.take_succ_eq_append_getElem h]
    rw [e]
    unfold subs
    rw [subsA_snoc, List.length_append, List.length_map]
    have ih := subs_len n cs (by omega)
    unfold subs at ih
    rw [ih, Nat.pow_succ]
    omega
theorem subs_mem_len {n : Nat} {cs : List Cl} (h : n ≤ cs.length) : ∀ {s : List Cl}, s ∈ subs (cs.take n) → s.length ≤ n := by
  induction n with
  | zero =>
    intro s hs
    rw [List.take_zero] at hs
    have : s ∈ [[]] := hs
    rw [List.mem_singleton.mp this]
    exact Nat.le_refl _
  | succ n ih =>
    intro s hs
    have e : cs.take (n + 1) = cs.take n ++ [cs[n]] := by rw [List.take_succ_eq_append_getElem h]
    rw [e] at hs
    unfold subs at hs
    rw [subsA_snoc] at hs
    rcases List.mem_append.mp hs with z | z
    · exact Nat.le_succ_of_le (ih (by omega) z)
    · obtain ⟨t, ht, rfl⟩ := List.mem_map.mp z
      have := ih (by omega) (s := t) ht
      rw [List.length_append, List.length_singleton]
      omega
theorem alike_dB : ∀ x y : Bd, PySem.W.alike (dB x) (dB y) = true := fun x y => by
  have key : ∀ x y : Bd, PySem.W.alikeAll (x.map dR) (y.map dR) = true := by
    intro x
    induction x with
    | nil => intro y; simp [PySem.W.alikeAll]
    | cons a x ih =>
      intro y
      cases y with
      | nil => simp [PySem.W.alikeAll]
      | cons b y =>
        rw [List.map_cons, List.map_cons, PySem.W.alikeAll, ih]
        simp [dR, PySem.W.alike]
  unfold dB
  rw [PySem.W.alike]
  exact key x y
section
variable {K : PySem.W.Frag} {w : World} {vs : List V} {H : Hp} {Q : VK} {E : XK} {c : Cfg} {ρ ρ1 : Env} {te tr tcol : TE} {b : Bd}
theorem allB_perm (b : Bd) : (allB b).Perm ((subs (free b)).map (drawn b)) := List.mergeSort_perm _ _
theorem allB_wf (W : Wf b) {o : Bd} (h : o ∈ allB b) : hgt o = hgt b ∧ wid o = wid b ∧ Wf o := by
  rw [(allB_perm b).mem_iff] at h
  obtain ⟨s, _, rfl⟩ := List.mem_map.mp h
  exact ⟨hgt_drawn _ _, (W.drawn s).1, (W.drawn s).2⟩
theorem allB_len (W : Wf b) : (allB b).length ≤ 4096 := by
  rw [(allB_perm b).length_eq, List.length_map]
  have h := subs_len (free b).length (free b) (Nat.le_refl _)
  rw [List.take_length] at h
  rw [h]
  exact Nat.pow_le_pow_right (by decide) W.free_len
theorem body_all_boards (h : spF (P_all_boards K) vs H Q E) : t_all_boards K w E { nx := fun _ H' => Q .non H', rt := Q } (L2.start N_all_boards vs) H := pure_of (t := t_all_boards K w) (fun E ds r q => by
  obtain ⟨b, rfl, W, rfl⟩ := q
  have hl := W.free_len
  have p12 : (2 : Nat) ^ 12 = 4096 := by decide
  have lp := exs_list (c := ⟨K, [], [], E⟩) (ρ := [.dat (dB b), .dat (.list [dCs []]), .un, .un]) (wi := iAny K (tCall (spF (P_free_cells K)) [] E (tCons (tVar 0) tNil))) (j := 2)
    (t := tAsg (tOp (rAddU K) (tVar 1) (tLc (iAny K (tVar 1)) (gName 3) tYes (tOp (rAddU K) (tVar 3) (tTup (tCons (tVar 2) tNil))) [3])) (gName 1))
    (free b) dC (fun i => [.dat (dB b), .dat (.list ((subs ((free b).take i)).map dCs)), .un, .un]) (ui_list (ev_free W (ev_var rfl))) (OwnSub.refl _) (0, 0) (fun i hi => ?_)
  · rw [List.take_length] at lp
    have hs := subs_len (free b).length (free b) (Nat.le_refl _)
    rw [List.take_length] at hs
    have hs2 : (subs (free b)).length ≤ 4096 := by rw [hs, ← p12]; exact Nat.pow_le_pow_right (by decide) hl
    have hne : ∀ d ∈ ((subs (free b)).map (drawn b)).map dB, ∃ x r, d = .tuple (x :: r) := fun d hd => by
      obtain ⟨o, ho, rfl⟩ := List.mem_map.mp hd
      obtain ⟨s, _, rfl⟩ := List.mem_map.mp ho
      have h1 := (W.drawn s).2.h1
      unfold dB
      cases hx : drawn b s with
      | nil => rw [hx] at h1; simp at h1
      | cons a r => exact ⟨_, _, rfl⟩
    have sr := rc_sorted (K := K) (ds := ((subs (free b)).map (drawn b)).map dB) (fun d hd d' hd' => by
      obtain ⟨o, _, rfl⟩ := List.mem_map.mp hd
      obtain ⟨o', _, rfl⟩ := List.mem_map.mp hd'
      exact alike_dB o o') (.inl hne) (by rw [List.length_map, List.length_map]; omega) (fun d hd => by
      obtain ⟨o, _, rfl⟩ := List.mem_map.mp hd
      exact Nat.le_trans (good_bd.dep o) (by decide))
    have es : ((((subs (free b)).map (drawn b)).map dB).mergeSort (PySem.W.dataLe false id)) = (allB b).map dB := by
      unfold allB
      rw [List.map_mergeSort (r := PySem.W.dataLe false dB) (s := PySem.W.dataLe false id) (f := dB) (fun a _ b _ => rfl)]
    rw [es, List.map_map] at sr
    exact giv (exs_seq (exs_set (c := ⟨K, [], [], E⟩) (ρ := env0 N_all_boards [dB b]) (ev_ls (ea_cons (ev_tp ea_nil) ea_nil)) (OwnSub.refl _)) (exs_seq lp (exs_ret (ev_cb (ea_cons (ev_lcA (c := ⟨K, [], [], E⟩) (subs (free b)) dCs (fun s => dB (drawn b s)) (fun s ρ => ρ.set 3 (.dat (dCs s))) [3] (ui_list (ev_var rfl)) (by omega) rfl (fun _ _ => tg_name) (fun _ h => h)
      (fun s _ => ev_drawn (.inr rfl) W (ev_var rfl) (ev_var rfl))) ea_nil) sr) (OwnSub.refl _))))
  · have hs := subs_len i (free b) (by omega)
    have hs2 : (subs ((free b).take i)).length ≤ 4096 := by rw [hs, ← p12]; exact Nat.pow_le_pow_right (by decide) (by omega)
    have ei : (free b).getD i (0, 0) = (free b)[i] := by rw [List.getD_eq_getElem?_getD, List.getElem?_eq_getElem hi]; rfl
    rw [ei]
    have es : subs ((free b).take (i + 1)) = subs ((free b).take i) ++ (subs ((free b).take i)).map fun s => s ++ [(free b)[i]] := by
      rw [List.take_succ_eq_append_getElem hi]
      exact subsA_snoc _ _ _
    refine exs_to (exs_set (ev_op (ev_var rfl) (ev_lcA (c := ⟨K, [], [], E⟩) (subs ((free b).take i)) dCs (fun s => dCs (s ++ [(free b)[i]])) (fun s ρ => ρ.set 3 (.dat (dCs s))) [3] (ui_list (ev_var rfl)) (by omega) rfl (fun _ _ => tg_name) (fun _ h => h)
      (fun s hs' => ev_is (ev_op (ev_var rfl) (ev_tp (ea_cons (ev_var rfl) ea_nil)) (ux_addT ?_)) ?_)) (ux_addL (by rw [List.length_map, List.length_map]; omega))) (OwnSub.refl _)) ?_
    · have := subs_mem_len (show i ≤ (free b).length by omega) hs'
      rw [List.length_map]; simp; omega
    · unfold dCs; rw [List.map_append]; rfl
    · rw [es, List.map_append (l₁ := subs ((free b).take i)), List.map_map]
      exact .eq (.eq (.un (.un .nil)))) h
theorem ev_allB (W : Wf b) {E' : XK} (hb : EvX c te ρ ρ1 (dB b)) : EvX c (tCall (spF (P_all_boards K)) [] E' (tCons te tNil)) ρ ρ1 (.list ((allB b).map dB)) := ev_call (P := P_all_boards K) (ea_cons hb ea_nil) ⟨b, rfl, W, rfl⟩
theorem body_forerunners (h : spF (P_forerunners K) vs H Q E) : t_forerunners K w E { nx := fun _ H' => Q .non H', rt := Q } (L2.start N_forerunners vs) H :=
  pure_of (t := t_forerunners K w) (P := P_forerunners K) (asksF_of (N := N_forerunners) (u := fun E => _) fun E b d W h9 hz => by
    subst hz
    have hl := allB_len W
    exact ⟨_, exs_ret (ev_tupOf (c := ⟨K, [], [], E⟩) (ev_lcM (c := ⟨K, [], [], E⟩) (allB b) dB (fun o => decide (tick o = b)) dB (fun o ρ => ρ.set 1 (.dat (dB o))) [1] (ui_list (ev_allB W (ev_var rfl))) (by omega) rfl (fun _ _ => tg_name) (fun _ h => h)
      (fun o ho => et_test (ev_eqB (c := ⟨K, [], [], E⟩) (allB_wf W ho).2.2.tick W (ev_tick (allB_wf W ho).2.2 (ev_var rfl)) (ev_var rfl))) (fun o _ _ => ev_var rfl))) (OwnSub.refl _)⟩) h
theorem body_still_boards (h : spF (P_still_boards K) vs H Q E) : t_still_boards K w E { nx := fun _ H' => Q .non H', rt := Q } (L2.start N_still_boards vs) H :=
  pure_of (t := t_still_boards K w) (P := P_still_boards K) (asksF_of (N := N_still_boards) (u := fun E => _) fun E b d W h9 hz => by
    subst hz
    have hl := allB_len W
    exact ⟨_, exs_ret (ev_tupOf (c := ⟨K, [], [], E⟩) (ev_lcM (c := ⟨K, [], [], E⟩) (allB b) dB (fun o => decide (tick o = o)) dB (fun o ρ => ρ.set 1 (.dat (dB o))) [1] (ui_list (ev_allB W (ev_var rfl))) (by omega) rfl (fun _ _ => tg_name) (fun _ h => h)
      (fun o ho => et_test (ev_eqB (c := ⟨K, [], [], E⟩) (allB_wf W ho).2.2.tick (allB_wf W ho).2.2 (ev_tick (allB_wf W ho).2.2 (ev_var rfl)) (ev_var rfl))) (fun o _ _ => ev_var rfl))) (OwnSub.refl _)⟩) h
theorem filter_take {α : Type} (p : α → Bool) (l : List α) (i : Nat) (h : i < l.length) : (l.take (i + 1)).filter p = (l.take i).filter p ++ if p l[i] = true then [l[i]] else [] := by
  rw [List.take_succ_eq_append_getElem h, List.filter_append]
  congr 1
  rw [filter1, List.filter_nil, List.append_nil]
theorem body_boards_in_turn (h : spF (P_boards_in_turn K) vs H Q E) : t_boards_in_turn K w E { nx := fun _ H' => Q .non H', rt := Q } (L2.start N_boards_in_turn vs) H :=
  pure_of (t := t_boards_in_turn K w) (P := P_boards_in_turn K) (asksF_of (N := N_boards_in_turn) (u := fun E => _) fun E b d W h9 hz => by
    subst hz
    have hl := allB_len W
    refine ⟨[.dat (dB b), .dat (.list (((allB b).filter turnB).map dBB)), .un, .un], exs_own (c := ⟨K, [], [], E⟩) (ρ := env0 N_boards_in_turn [dB b]) (i := 1) fun pa => ?_⟩
    have lp := exs_list (c := ⟨K, [], [], E⟩) (ρ := [.dat (dB b), .own pa [], .un, .un]) (wi := iAny K (tCall (spF (P_all_boards K)) [] E (tCons (tVar 0) tNil))) (j := 2)
      (t := tSeq (tAsg (tCall (spF (P_ticked K)) [] E (tCons (tVar 2) tNil)) (gName 3)) (tIfS (tAnd (tTest (tOp (rLtU K) (tVar 2) (tVar 3))) (tTest (tOp (rEqD K) (tCall (spF (P_ticked K)) [] E (tCons (tVar 3) tNil)) (tVar 2)))) (tDrop (tBM K "list" rAppend (tVar 1) (tCons (tTup (tCons (tVar 2) (tCons (tVar 3) tNil))) tNil))) tNext))
      (allB b) dB (fun i => [.dat (dB b), .own pa ((((allB b).take i).filter turnB).map dBB), .un, .un]) (ui_list (ev_allB W (ev_var rfl))) (OwnSub.refl _) [] (fun i hi => ?_)
    · rw [List.take_length] at lp
      exact exs_seq lp (exs_tell (i := 1) rfl (exs_ret (ev_tupOf (c := ⟨K, [], [], E⟩) (ev_var rfl)) (OwnSub.refl _)))
    · have ei : (allB b).getD i [] = (allB b)[i] := by rw [List.getD_eq_getElem?_getD, List.getElem?_eq_getElem hi]; rfl
      rw [ei, filter_take turnB _ i hi]
      generalize ho : (allB b)[i] = o
      have W1 : Wf o := (allB_wf W (by rw [← ho]; exact List.getElem_mem hi)).2.2
      have hlen : ((((allB b).take i).filter turnB).map dBB).length ≤ 4096 := by
        rw [List.length_map]
        refine Nat.le_trans (List.length_filter_le _ _) ?_
        rw [List.length_take]; omega
      generalize hds : (((allB b).take i).filter turnB).map dBB = ds at hlen
      have tst : EvT ⟨K, [], [], E⟩ (tAnd (tTest (tOp (rLtU K) (tVar 2) (tVar 3))) (tTest (tOp (rEqD K) (tCall (spF (P_ticked K)) [] E (tCons (tVar 3) tNil)) (tVar 2)))) [.dat (dB b), .own pa ds, .dat (dB o), .dat (dB (tick o))] [.dat (dB b), .own pa ds, .dat (dB o), .dat (dB (tick o))] (turnB o) :=
        et_and (et_test (ev_op (ev_var rfl) (ev_var rfl) (ux_ltD (alike_dB _ _) (by intro z; cases z) (Nat.le_trans (good_bd.dep o) (by decide))))) (fun _ => et_test (ev_eqB (c := ⟨K, [], [], E⟩) W1.tick.tick W1 (ev_tick W1.tick (ev_var rfl)) (ev_var rfl)))
      by_cases ht : turnB o = true
      · rw [if_pos ht, List.map_append, hds]
        exact exs_to (exs_seq (exs_set (ev_tick W1 (ev_var rfl)) (OwnSub.refl _)) (exs_if (b := true) (et_is tst ht) (OwnSub.refl _) (fun _ => exs_app (i := 1) (p := pa) (ds := ds) rfl (ev_tp (ea_cons (ev_var rfl) (ea_cons (ev_var rfl) ea_nil))) rfl (OwnSub.refl _) (by omega) (fun h => by cases h)) (fun z => nomatch z))) (.eq (.eq (.un (.un .nil))))
      · have hf : turnB o = false := by simpa using ht
        rw [if_neg ht, List.append_nil, hds]
        exact exs_to (exs_seq (exs_set (ev_tick W1 (ev_var rfl)) (OwnSub.refl _)) (exs_if (b := false) (et_is tst hf) (OwnSub.refl _) (fun z => nomatch z) (fun _ => exs_nil))) (.eq (.eq (.un (.un .nil))))) h
end
end Fb

/-! Within an except suite: the end of a walk over a list, a comprehension over one, its sum. -/
namespace Fb
open PySem PySem.Spec PyProof.Rows L2 HotX L2H
section
variable {prog : Program} {w : World} {A : Around} {E : Value → Shared → Prop} {s : Shared}
theorem lst_end_hot {it l x1 : Addr} {i : Nat} {items : Array Value} {Q : Option Value → Shared → Prop} (hot : HotAt A x1 s.heap) (hn : x1 ≠ it)
    (hit : s.heap.IsListIter it l i) (hl : s.heap.IsList l items) (hx : items[i]? = none)
    (hQ : ∀ h', Heap.ExtBut it s.heap h' → Q none { s with heap := h' }) : wpAny (model prog w) A (pyNext (.ref it)) Q E s := by
  obtain ⟨hh, o1, vs1, h1, d1, c1⟩ := hot
  obtain ⟨oi, ho, hc, hd⟩ := id hit
  obtain ⟨ol, hol, _, nl, hdl⟩ := hl
  unfold pyNext
  refine wpAny_bind (wpAny_attempt (wpAny_callSpecial?_slot (name := Str.ofString "__next__") hit.typeIs slot_listiter_next
    (wpAny_call_entry slot_listiter_next hit.typeIs entry_listiter_next ?_ (args_listiter_next _))))
  show wpAny _ _ (field (.ref it) 0 >>= _) _ _ s
  refine wpAny_bind (wpAny_field ho hd (x := .ref l) rfl ?_)
  show wpAny _ _ (if (Value.ref l == Value.none) = true then _ else _) _ _ s
  rw [if_neg (show ¬ ((Value.ref l == Value.none) = true) from Bool.false_ne_true)]
  show wpAny _ _ (field (.ref it) 1 >>= _) _ _ s
  refine wpAny_bind (wpAny_field ho hd (x := .int i 0) rfl ?_)
  show wpAny _ _ (seqItems? (.ref l) >>= _) _ _ s
  refine wpAny_bind (wpAny_seqItems hol hdl ?_)
  simp only [Int.toNat_natCast, hx]
  refine wpAny_bind (wpAny_rule (wpAny_bind (wpAny_setField ho hd (by simp) ?_)))
  show wpAny _ _ (newExc (.type "StopIteration") [] >>= _) _ _ _
  refine wpAny_bind ?_
  simp only [newExc, newTuple]
  refine wpAny_bind (wpAny_newObj_type ?_ (by size_fits))
  refine wpAny_bind (m := firstArgMember _ _) (wpAny_of_eq (a := Value.none) (by first | rfl | (simp only [firstArgMember]; rfl)) ?_)
  refine wpAny_newObj_type ?_ (by size_fits)
  refine raiseNew_hot ⟨hh, o1, vs1, Heap.get?_push_of_some _ (Heap.get?_push_of_some _ ((Heap.get?_update_other _ _ (Ne.symm hn)).trans h1)), d1, c1⟩
    (Nat.ne_of_lt (Heap.lt_size (Heap.get?_push_of_some _ ((Heap.get?_update_other _ _ (Ne.symm hn)).trans h1)))) (Heap.get?_push_size _ rfl) rfl (by first | (simp; done) | (simp; omega) | (simp only [Array.size_append]; simp; omega)) ?_
  refine wpAny_bind (wpAny_isInstance (T := "StopIteration") (b := true) ⟨_, Heap.get?_update_self _ (Heap.get?_push_size _ rfl) rfl, rfl⟩ isSubtype_stop ?_)
  refine wpAny_pure (hQ _ fun b o hb e => ?_)
  have e2 : (s.heap.update it (Obj.mapFields (·.setIfInBounds 0 Value.none))).get? b = some o := (Heap.get?_update_other _ _ (Ne.symm hb)).trans e
  refine (Heap.get?_update_other _ _ ?_).trans (Heap.get?_push_of_some _ (Heap.get?_push_of_some _ e2))
  exact Nat.ne_of_gt (Heap.lt_size (Heap.get?_push_of_some _ e2))
end
end Fb

/-! Within an except suite: [int(b) for b in bs], sum of a list of ints. -/
namespace Fb
open PySem PySem.Spec PyProof.Rows L2 HotX L2H
def b01 (b : Bool) : V := .int (if b then 1 else 0)
section
variable {X : Cx}
theorem pe_lcHot {q1 : Addr × Obj} {tg iter elt : Expr} {scope : Scope} {own : List (Str × Nat)} {pos : Pos} {ti te : TE} {nm : Str} {i0 : Nat} (hot : Hot1 X.A q1) (hq : q1 ∈ X.pn) (hN : X.N.Nodup) (hi : PE X iter ti) (ok : BlkOk X.N X.env.scope scope own) (hown : own = [(nm, i0)]) (hi0 : i0 < X.N.length)
    (hg : ∀ (s : Shared) (H : Hp) (C : Addr) (cl : List (Str × Addr)) (fp : List Addr), PG (X.blk s H scope (compEnvC scope cl C X.env) fp) tg (gName i0))
    (he : ∀ (s : Shared) (H : Hp) (C : Addr) (cl : List (Str × Addr)) (fp : List Addr), PE (X.blk s H scope (compEnvC scope cl C X.env) fp) elt te)
    (hte : ∀ (σ : L2.St) (H : Hp) (b : Bool) (Q : VK), σ[i0]? = some (some (.bl b)) → Q (b01 b) H → te σ H Q)
    (hgo : ∀ (A : Around) (s : Shared) (it : Addr) (a : Addr) (i : Nat) (u : Value) (Q : Unit → Shared → Prop) (E : Value → Shared → Prop), s.heap.IsListIter it a i → Q () s → wpAny (model X.prog X.w) A (letOwnedTupleGo tg (.ref it) u) Q E s)
    (hs : ∀ x, foldedSetIterable iter X.env x = pure x := by intro _; rfl) :
    PE X (.ListComp elt [⟨tg, iter, [], 0⟩] scope pos) (fun σ H Q => ti σ H fun v H1 => ∃ (a : Addr) (bs : List Bool), v = .ref a ∧ H1 a = some (.lst (bs.map V.bl)) ∧ bs.length ≤ 100 ∧ ∀ D, H1 D = none → Q (.ref D) (upd H1 D (.lst (bs.map b01)))) := by
  refine ⟨fun pins s σ H Q I h => ?_⟩
  have hfree : ∀ y ∈ scope.names, y.2 = .free → ∃ c, X.env.cells.lookup y.1 = some c := fun y hy e => by
    rcases ok.free y hy e with k | k
    · exact I.ok.has _ (.inl k)
    · exact I.ok.has _ (.inr k)
  rw [eval_ListComp]
  refine wpAny_comprehension_free rfl hs (closure_ok hfree) ok.kind (fun y hy e => by rw [ok.uniq y hy, e]) (thn (hi.run pins s σ H _ I h) fun xv s1 hx => ?_)
  obtain ⟨xvv, H1, I1, rx, a, bs, rfl, ha, hlen, q⟩ := hx
  obtain rfl : xv = .ref a := rx
  obtain ⟨its, rits, pla, _⟩ := I1.list (show SqL X.K H1 a (bs.map V.bl) from .of ha)
  refine wpAny_pyIter_list pla.isList ?_
  generalize hit : s1.heap.objs.size = it
  generalize hs2 : ({ s1 with heap := s1.heap.push { cls := .type "list_iterator", data := .fields #[.ref a, .int 0 0] } } : Shared) = s2
  have h2 : s2.heap = s1.heap.push { cls := .type "list_iterator", data := .fields #[.ref a, .int 0 0] } := by rw [← hs2]
  have I2 : Inv X pins σ H1 s2 := by rw [← hs2]; exact I1.kept (t' := s1.toks) fun b o e => Heap.get?_push_of_some _ e
  have st2 : s2.heap.IsListIter it a 0 := by rw [h2, ← hit]; exact ⟨_, Heap.get?_push_size _ rfl, rfl, rfl⟩
  have f2 : FpOk X pins H1 it := I1.fpOk (Nat.le_of_eq hit) (I1.hok.fresh (Nat.le_of_eq hit))
  refine wpAny_newObj_type (newEnv_comp ?_) (by show 0 ≤ sizeLine; decide)
  generalize hD : s2.heap.objs.size = D
  have hDn : H1 D = none := I2.hok.fresh (Nat.le_of_eq hD)
  have qD := q D hDn
  generalize hs3 : ({ s2 with heap := s2.heap.push { cls := .type "list", data := .seq ([] : List Value).toArray } } : Shared) = s3
  have I3 : Inv X pins σ (upd H1 D (.lst [])) s3 := by
    rw [← hs3]
    refine I2.laid (t' := s2.toks) (fun b o e => Heap.get?_push_of_some _ e) (Nat.le_of_eq hD) ⟨Nat.zero_le _, [], 0, .nil, ?_⟩
    rw [← hD]
    exact Heap.get?_push_size _ rfl
  have h3 : s3.heap = s2.heap.push { cls := .type "list", data := .seq ([] : List Value).toArray } := by rw [← hs3]
  have itlt : it < s2.heap.objs.size := by obtain ⟨o, e, _⟩ := st2; exact Heap.lt_size e
  have itD : it ≠ D := by rw [← hD]; exact Nat.ne_of_lt itlt
  have aD : a ≠ D := fun z => by rw [z, hDn] at ha; cases ha
  have f3 : ∀ b ∈ [it], FpOk X pins (upd H1 D (.lst [])) b ∧ b < s3.heap.objs.size := fun b hb => by
    obtain rfl : b = it := by simpa using hb
    refine ⟨⟨?_, f2.2⟩, by rw [h3, Heap.size_push]; exact Nat.lt_succ_of_lt itlt⟩
    rw [upd_ne itD]
    exact f2.1
  have st3 : s3.heap.IsListIter it a 0 := by
    obtain ⟨o, e, r⟩ := st2
    exact ⟨o, by rw [h3]; exact Heap.get?_push_of_some _ e, r⟩
  have I4 := block_start I3 ok hN f3
  have hot3 := I3.pin q1 (List.mem_append_left _ hq)
  have pg := hg s3 (upd H1 D (.lst [])) s3.heap.objs.size (cellsFrom (s3.heap.objs.size + 1) scope.names (cloFrom X.env.cells scope.names [])) [it]
  have pe := he s3 (upd H1 D (.lst [])) s3.heap.objs.size (cellsFrom (s3.heap.objs.size + 1) scope.names (cloFrom X.env.cells scope.names [])) [it]
  show codeAny _ _ (.compStart (.ListComp elt [⟨tg, iter, [], 0⟩] scope pos) 0 (.ref it) (.ref D) (compEnvC scope (cellsFrom (s3.heap.objs.size + 1) scope.names (cloFrom X.env.cells scope.names [])) s3.heap.objs.size X.env)) (compPost (model X.prog X.w) X.A X.xe none (EP X pins σ Q) (.ref D) s3.heap.objs.size) { s3 with heap := pushCells (s3.heap.push { cls := .type "dict", data := .dict #[] }) scope.names }
  generalize hce : compEnvC scope (cellsFrom (s3.heap.objs.size + 1) scope.names (cloFrom X.env.cells scope.names [])) s3.heap.objs.size X.env = ce at I4 pg pe ⊢
  have cL : ce.locals = s3.heap.objs.size := by subst hce; rfl
  have kp4 : ∀ b o, s3.heap.get? b = some o → (pushCells (s3.heap.push { cls := .type "dict", data := .dict #[] }) scope.names).get? b = some o := fun b o e => pushCells_keeps _ _ _ _ (Heap.get?_push_of_some _ e)
  generalize hH3 : upd H1 D (.lst []) = H3 at I3 I4 pg pe f3 hot3
  generalize hs4 : ({ s3 with heap := pushCells (s3.heap.push { cls := .type "dict", data := .dict #[] }) scope.names } : Shared) = s4 at I4 ⊢
  have kp4' : ∀ b o, s3.heap.get? b = some o → s4.heap.get? b = some o := fun b o e => by rw [← hs4]; exact kp4 b o e
  have st4 : s4.heap.IsListIter it a 0 := by
    obtain ⟨o, e, r⟩ := st3
    exact ⟨o, kp4' _ _ e, r⟩
  obtain ⟨hhd, v1, ev1, cv1⟩ := hot
  have I4p : Inv (X.blk s3 H3 scope ce [it]) [q1] (wipe σ (own.map (·.2))) H3 s4 := I4.pins_of fun p hp => by
    obtain rfl : p = q1 := by simpa using hp
    refine ⟨kp4' _ _ hot3.1, hot3.2.1, ?_, ?_, hot3.2.2.2.2⟩
    · show p.1 ≠ ce.locals
      rw [cL]
      exact Nat.ne_of_lt (Heap.lt_size hot3.1)
    · show p.1 ∉ frs X.stack
      intro hm
      exact (List.mem_cons.mp (I3.stkSub p.1 hm)).elim hot3.2.2.1 hot3.2.2.2.1
  have q1it : q1.1 ≠ it := f2.2.2.2.2.2 q1 (List.mem_append_left _ hq)
  have stat : ∀ {σ' : L2.St} {H' : Hp} {s' : Shared} {pp : List (Addr × Obj)}, (∀ p ∈ pp, p.1 ≠ it) → Inv (X.blk s3 H3 scope ce [it]) pp σ' H' s' → H' it = none → FpOk (X.blk s3 H3 scope ce [it]) pp H' it := fun {σ' H' s' pp} hpp I' hn =>
    ⟨hn, (I'.ok.exf it (List.mem_cons_self)).1, I'.ok.exfs it (List.mem_cons_self), .inl (List.mem_cons_self), fun x c e => (I'.ok.exf it (List.mem_cons_self)).2 x c e, fun p hp => hpp p (by simpa using hp)⟩
  have hpq : ∀ p ∈ [q1], p.1 ≠ it := fun p hp => by
    obtain rfl : p = q1 := by simpa using hp
    exact q1it
  have loop : codeAny (model X.prog X.w) X.A (.compLoop (.ListComp elt [⟨tg, iter, [], 0⟩] scope pos) 0 (.ref it) (.ref D) ce) (compPost (model X.prog X.w) X.A X.xe none (EP X pins σ Q) (.ref D) s3.heap.objs.size) s4 := by
    refine compLoop_any (fun n s' => ∃ i, n + i = bs.length ∧ Inv (X.blk s3 H3 scope ce [it]) [q1] (wipe σ (own.map (·.2))) (upd H1 D (.lst ((bs.take i).map b01))) s' ∧ s'.heap.IsListIter it a i) ?_ bs.length ⟨0, rfl, by rw [List.take_zero]; show Inv _ _ _ (upd H1 D (.lst [])) _; rw [hH3]; exact I4p, st4⟩
    rintro n s5 ⟨i, hni, I5, st5⟩
    have ha5 : (upd H1 D (.lst ((bs.take i).map b01))) a = some (.lst (bs.map V.bl)) := by rw [upd_ne aD]; exact ha
    have n5 : (upd H1 D (.lst ((bs.take i).map b01))) it = none := by rw [upd_ne itD]; exact f2.1
    obtain ⟨its5, ri5, pl5, _⟩ := I5.list (show SqL (X.blk s3 H3 scope ce [it]).K _ a (bs.map V.bl) from .of ha5)
    have hl5 : its5.length = bs.length := by rw [← ri5.length, List.length_map]
    have ff5 : FpOk (X.blk s3 H3 scope ce [it]) [q1] _ it := stat hpq I5 n5
    have pin5 := I5.pin q1 (List.mem_append_right _ List.mem_cons_self)
    cases n with
    | zero =>
      have hi : i = bs.length := by omega
      subst hi
      refine lst_end_hot (x1 := q1.1) ⟨hhd, q1.2, v1, pin5.1, ev1, cv1⟩ q1it st5 pl5.isList (by simp [hl5]) fun h' eb => ?_
      rw [List.take_length] at I5 ff5
      have I6 : Inv (X.blk s3 H3 scope ce [it]) [q1] (wipe σ (own.map (·.2))) (upd H1 D (.lst (bs.map b01))) { s5 with heap := h' } := I5.turned (t' := s5.toks) (fun b o hb e => eb b o hb e) ff5.1 ff5.2.1 ff5.2.2.2.1 ff5.2.2.2.2.1 ff5.2.2.2.2.2
      have I7 : Inv X pins σ (upd H1 D (.lst (bs.map b01))) { s5 with heap := h' } := I3.call' (ch := [it]) I6.os I6.base I6.hok I6.bare fun b hb => ⟨(f3 b hb).1.2.2.2.1, (f3 b hb).1.2.1, (f3 b hb).1.2.2.2.2.1, (f3 b hb).1.2.2.2.2.2⟩
      have nC : (upd H1 D (.lst (bs.map b01))) s3.heap.objs.size = none := by
        have z : (upd H1 D (.lst (bs.map b01))) ce.locals = none := I6.free
        rw [cL] at z
        exact z
      obtain ⟨m, hn, _⟩ := I6.loc
      have hn : h'.Ns ce.locals m := hn
      rw [cL] at hn
      obtain ⟨f0, f1, f2, f3', f4, f5⟩ := I3.fpOk (Nat.le_refl _) nC
      exact ⟨m, hn, fun h'' sb => ⟨.ref D, _, I7.turned (t' := s5.toks) (fun b o hb e => (sb.2 b hb).trans e) f0 f1 f3' f4 f5, rfl, qD⟩⟩
    | succ n =>
      have hi : i < bs.length := by omega
      have gx : its5.toArray[i]? = some its5[i] := by simp [hl5, hi]
      have rx5 : RelV (.bl bs[i]) its5[i] := by
        obtain ⟨u, hu, ru⟩ := ri5.get (i := i) (x := .bl bs[i]) (by rw [List.getElem?_map, List.getElem?_eq_getElem hi]; rfl)
        rw [List.getElem?_eq_getElem (by omega)] at hu
        cases hu
        exact ru
      refine wpAny_pyNext_list_item st5 pl5.isList gx fun h' st6 sb => ?_
      have I6 : Inv (X.blk s3 H3 scope ce [it]) [q1] (wipe σ (own.map (·.2))) (upd H1 D (.lst ((bs.take i).map b01))) { s5 with heap := h' } := I5.turned (t' := s5.toks) (fun b o hb e => (sb.2 b hb).trans e) ff5.1 ff5.2.1 ff5.2.2.2.1 ff5.2.2.2.2.1 ff5.2.2.2.2.2
      refine hgo _ _ _ a (i + 1) _ _ _ st6 ?_
      have I7 : Inv (X.blk s3 H3 scope ce [it]) ([q1] ++ pinsAt [it] h') (wipe σ (own.map (·.2))) (upd H1 D (.lst ((bs.take i).map b01))) { s5 with heap := h' } := I6.pinned (fun b hb => by
        obtain rfl : b = it := by simpa using hb
        exact stat hpq I6 n5) fun b hb => by
        obtain rfl : b = it := by simpa using hb
        obtain ⟨o, e, _, d⟩ := st6
        exact ⟨o, e, fun v z => by rw [d] at z; cases z⟩
      refine thnF (pg.run _ _ _ _ (.bl bs[i]) _ (fun σ' H' => σ' = (wipe σ (own.map (·.2))).set i0 (some (.bl bs[i])) ∧ H' = upd H1 D (.lst ((bs.take i).map b01))) I7 rx5 ⟨rfl, rfl⟩) fun _ s8 ⟨σ8, H8, I8, e8, eH8⟩ => ?_
      subst e8 eH8
      refine wpAny_tests_nil ?_
      simp only [if_true]
      refine thnF (pe.run _ s8 _ _ (fun v H' => v = b01 bs[i] ∧ H' = upd H1 D (.lst ((bs.take i).map b01))) I8 (hte _ _ bs[i] _ (by rw [List.getElem?_set_self (by rw [wipe_length, I.len]; exact hi0)]) ⟨rfl, rfl⟩)) fun z s10 ⟨yv, H10, I10, r10, ey, eH⟩ => ?_
      subst ey eH
      refine app_ok (X := X.blk s3 H3 scope ce [it]) (xs := (bs.take i).map b01) I10 upd_same (by rw [List.length_map, List.length_take, sizeLine_eq]; omega) r10 fun s11 I11 => ?_
      have eU : upd (upd H1 D (.lst ((bs.take i).map b01))) D (.lst ((bs.take i).map b01 ++ [b01 bs[i]])) = upd H1 D (.lst ((bs.take (i + 1)).map b01)) := by
        funext b
        by_cases hb : b = D
        · subst hb
          rw [upd_same, upd_same, List.take_succ_eq_append_getElem hi, List.map_append]; rfl
        · rw [upd_ne hb, upd_ne hb, upd_ne hb]
      rw [eU] at I11
      have pinI := fun (o : Obj) (e : h'.get? it = some o) => I11.pin (it, o) (List.mem_append_right _ (List.mem_append_right _ (mem_pinsAt (List.mem_cons_self) e)))
      refine ⟨n, Nat.lt_succ_self _, i + 1, by omega, (I11.unpinned (pins := [q1])).weak (by rw [List.length_set]) (fun j v e => ?_), ?_⟩
      · have hne : j ≠ i0 := fun z => (wipe_some e).2 (by rw [hown, z]; simp)
        rw [List.getElem?_set_ne (Ne.symm hne)]
        exact e
      · obtain ⟨o, e, r⟩ := st6
        exact ⟨o, (pinI o e).1, r⟩
  exact codeAny_compStart_list loop (wpAny_pyIter_listiter st4 loop)
end
end Fb

/-! Within an except suite: sum of a list of ints; isinstance of the handled exception. -/
namespace Fb
open PySem PySem.Spec PyProof.Rows L2 HotX L2H
theorem walks_hot {prog : Program} {w : World} {A : Around} {I ax x1 : Addr} {o1 : Obj} {vs1 : Array Value} {items : Array Value} (hh : A.handled = some (.ref x1)) (d1 : o1.data = .fields vs1) (c1 : vs1[2]? = some .none) (hne : ax ≠ I) (hx : x1 ≠ I) :
    Walks prog w A I [I, ax, x1] [I] items.size (fun i v => items[i]? = some v) (fun i h => h.IsListIter I ax i ∧ h.IsList ax items ∧ h.get? x1 = some o1) where
  sub := fun b hb => by simp at hb; simp [hb]
  frame := fun _ _ _ st hk => ⟨st.1.at fun o e => hk I (by simp) o e, st.2.1.at fun o e => hk ax (by simp) o e, hk x1 (by simp) o1 st.2.2⟩
  item := fun i s Q E hi st hQ => by
    refine wpAny_pyNext_list_item st.1 st.2.1 (x := items[i]) (by simp [hi]) fun h' hit' hs' => ?_
    exact hQ _ h' s.toks (by simp [hi]) ⟨hit', st.2.1.extBut hs'.extBut hne, hs'.extBut _ _ hx st.2.2⟩ fun b o hb e => hs'.extBut b o (fun h => hb (by simp [h])) e
  done := fun s Q E st hQ => lst_end_hot ⟨hh, o1, vs1, st.2.2, d1, c1⟩ hx st.1 st.2.1 (by simp) fun h' he' => hQ h' s.toks fun b o hb e => he' b o (fun h => hb (by simp [h])) e
  self := fun _ _ _ _ st hQ => wpAny_pyIter_listiter st.1 hQ
section
variable {X : Cx}
theorem cr_sumHot {q1 : Addr × Obj} (hot : Hot1 X.A q1) (hq : q1 ∈ X.pn) : CallR X (.builtin "sum") (rSum X.K) := by
  intro pins s σ H vs us Q I r h
  obtain ⟨a, ns, rfl, hs, q⟩ := h
  obtain ⟨its, rv, hl, _⟩ := I.list hs
  rw [Vals.ref1 r]
  obtain ⟨hhd, v1, ev1, cv1⟩ := hot
  have pin := I.pin q1 (List.mem_append_left _ hq)
  have hi := rv.ints
  obtain ⟨xs, e⟩ := hi.allInts.items
  have hn : numsOf (intItems xs).toList = ns := by rw [← e]; exact hi.numsOf
  rw [nums_intItems] at hn
  have hl' := hl.isList
  rw [e] at hl'
  refine call_sum_walkG (iter_intList hl' fun s₂ e2 st hfp hlI => ?_)
  subst e2
  have qlt : q1.1 < s.heap.objs.size := Heap.lt_size pin.1
  refine ⟨_, _, _, _, _, _, numAt xs, rfl, walks_hot (A := X.A.in1) (I := s.heap.objs.size) (ax := a) (x1 := q1.1) (o1 := q1.2) (items := intItems xs) hhd ev1 cv1 hlI (Nat.ne_of_lt qlt), ⟨st.1, st.2, Heap.get?_push_of_some _ pin.1⟩, fun b hb => ?_, (fun _ _ => intItems_at), fun h' tk t' hk => ?_⟩
  · rcases List.mem_cons.mp hb with z | hb
    · exact hfp b (by rw [z]; simp)
    · rcases List.mem_cons.mp hb with z | hb
      · exact hfp b (by rw [z]; simp)
      · rcases List.mem_cons.mp hb with z | hb
        · rw [z]
          exact Nat.lt_of_lt_of_le qlt (by rw [Heap.size_push]; exact Nat.le_succ _)
        · cases hb
  · refine ⟨.int ns.sum, H, I.kept (t' := tk) (old_kept hk), ⟨t', ?_⟩, q⟩
    rw [preSum_eq, show (intItems xs).size = xs.size from by simp [intItems], List.take_of_length_le (by simp), hn]
theorem call_isP {q1 : Addr × Obj} {D : Addr} (C : ExcC X.K D) (hz : Zc (.ref D) none q1.2) (hf : ∃ vs, q1.2.data = .fields vs) (hq : q1 ∈ X.pn) : CallR X (.builtin "isinstance") (rIsE X.K D q1.1) := by
  intro pins s σ H xs us Q I r h
  obtain ⟨c, cv, b, rfl, hcv, e, q⟩ := h
  cases r with
  | cons rx rr =>
    cases rr with
    | cons rt rr =>
      cases rr
      cases rx
      obtain rfl := hcv _ rt
      have pin := I.pin q1 (List.mem_append_left _ hq)
      obtain ⟨a, oc, od, oda, osl⟩ := q1
      obtain ⟨vs, hv⟩ := hf
      obtain ⟨z1, z2⟩ := hz
      dsimp only at z1 z2 hv
      subst z1 z2 hv
      have J : PySem.W.InstAt s.heap a ⟨.ref D, none, .fields vs, osl⟩ D none := ⟨pin.1, rfl, rfl, trivial⟩
      exact PySem.W.kia_one (PySem.W.handS_kitx_exc C.hg C.hk C.hs C.hd C.ha C.hn C.ht C.hm) I.kIn J e (fun z => nomatch z) fun tk => ⟨.bl b, H, I.kept (t' := tk) fun _ _ z => z, rfl, q⟩
end
end Fb

/-! A law's _law_term, called within an except suite: its promise, its body by data. -/
namespace Fb
open PySem PySem.Spec PyProof.Rows L2 HotX L2H
def kinds : List Str := ["InvalidBoard", "InvalidCell", "InvalidCells", "InvalidTicks", "InvalidText", "TooLarge", "Unlike", "NothingToUndo"]
/-- the class at D is known by the name nm -/
structure TermOk (K : PySem.W.Frag) (D : Addr) (nm : Str) : Prop where
  ex : ExcC K D
  mem : nm ∈ kinds
  cls : ∀ c ∈ kinds, PySem.W.kitOne K (.ref D) (.ref (He.ga K c)) = some (decide (c = nm))
  val : PySem.W.kitOne K (.ref D) (.type "ValueError") = some true
  exm : PySem.W.exmOne K (.ref D) (.ref (He.ga K "FrostError")) = some true
def termD (nm : Str) : D := .tuple [.str "error", .str nm]
/-- what _law_term gives -/
structure FnT (P : Program) (w : World) (K : PySem.W.Frag) (mg : Str → Option Value) (base : Heap) (k : Nat) (f : Addr) (fd : FuncData) : Prop where
  run : ∀ (A : Around) (outer : List PySem.Env) (s : Shared) (H : Hp) (args : Args) (Q : VK) (p : Addr × Obj) (D : Addr) (nm : Str) (G : Hp), RoomH k A → Hot1 A p → PinOk outer H s p → Env0 P w K mg base A outer s H → Zc (.ref D) none p.2 → TermOk K D nm →
    BindsTo s fd args [("_law_e", .ref p.1)] → Ex G H → (∀ v G' H', Grow [] G H G' H' → Ex G' H' → Is G' v (termD nm) → Q v H') → codeAny (model P w) A (.call (.ref f) args) (CR C8.CX0 outer P w H s Q C8.E0) s
theorem fnT_of {P : Program} {w : World} {K : PySem.W.Frag} {mg : Str → Option Value} {base : Heap} {k : Nat} {f : Addr} {fd : FuncData} {st : Stmt} {N : List Str} (F : FnP K "_law_term" st f fd) (S : FnScope N ["_law_e"] (defScope st))
    (hbody : ∀ (cdv : Value) (A : Around) (outer : List PySem.Env) (s : Shared) (H : Hp) (Q : VK) (p : Addr × Obj) (D : Addr) (nm : Str) (G : Hp), Hot1 A p → RoomH k (A.deeper (envOfC "_law_term" (defScope st) s.heap.objs.size f cdv)) → Zc (.ref D) none p.2 → TermOk K D nm → Ex G H →
      (∀ v G' H', Grow [] G H G' H' → Ex G' H' → Is G' v (termD nm) → Q v H') →
      ∃ t, PSs (cxH C8.CX0 P w K mg base N "_law_term" (defScope st) f cdv A outer s H C8.E0 p) (defBody st) t ∧ t { nx := fun _ H' => Q .non H', rt := Q } (L2.start N [.ref p.1]) H) :
    FnT P w K mg base (k + 1) f fd := by
  obtain ⟨oc, od, dV, kV, doc, pm, an, cdv, ct, osl, rfl, lk, hcd, _, _⟩ := F.ex
  refine ⟨fun A outer s H args Q p D nm G hr hot hpin e0 hz tk hb gh q => ?_⟩
  have KX : K.In s.heap := e0.mod.kin.keeps fun b o e => (e0.bs b o e).1
  have lim : s.heap.NoLimit := e0.mod.nolimit.keeps fun b o e => (e0.bs b o e).1
  have hkind : ∀ y ∈ (["_law_e"] : List Str).zip [Value.ref p.1], (defScope st).names.lookup y.1 = some .local ∨ ((defScope st).names.lookup y.1 = some .cell ∧ ((cellsFrom (s.heap.objs.size + 1) (defScope st).names []).lookup y.1).isSome = true) := fun ⟨n, v⟩ hy => by
    rcases S.par n (List.of_mem_zip hy).1 with q | q
    · exact .inl q
    · exact .inr ⟨q, PySem.W.cellsFrom_some _ _ _ (.inl q)⟩
  refine codeAny_call_function hr.depth (KX _ _ lk) rfl S.co S.gen rfl (PySem.W.codeRec_of KX hcd) (hb _ _ _ _ ?_)
  refine wpAny_newFunctionEnv_cells S.kind hkind fun env he s1 x => ?_
  subst he
  refine ⟨lim.keeps x.toInCall.keep, codeAny_func ?_⟩
  obtain ⟨t, ht, hq⟩ := hbody cdv A outer s H Q p D nm G hot (hr.deeper _) hz tk gh q
  have I : Inv (cxH C8.CX0 P w K mg base N "_law_term" (defScope st) f cdv A outer s H C8.E0 p) [] (L2.start N [.ref p.1]) H s1 := inv_startH S hpin e0 rfl (.cons rfl .nil) x
  refine wpAny_mono (ht.run [] s1 (L2.start N [.ref p.1]) H _ I hq) (fun fl s' hs => ?_) fun e s' hs => hs
  have fin : ∀ {σ' : L2.St} {H' : Hp} {v : V} {u : Value}, Inv (cxH C8.CX0 P w K mg base N "_law_term" (defScope st) f cdv A outer s H C8.E0 p) [] σ' H' s' → RelV v u → Q v H' → CE outer P w H s Q u s' :=
    fun {σ' H' v u} J rv q => ⟨v, H', J.os, J.bare, J.base, J.hok, rv, q⟩
  cases fl with
  | ret u =>
    obtain ⟨v, σ', H', J, rv, q⟩ := hs
    exact fin J rv q
  | next =>
    obtain ⟨σ', H', J, q⟩ := hs
    exact fin (v := V.non) (u := Value.none) J rfl q
  | brk =>
    obtain ⟨_, _, _, q⟩ := hs
    exact False.elim q
  | cont =>
    obtain ⟨_, _, _, q⟩ := hs
    exact False.elim q
/-! ### its words by data -/
def tLcI (ti : TE) : TE := fun σ H Q => ti σ H fun v H1 => ∃ (a : Addr) (bs : List Bool), v = .ref a ∧ H1 a = some (.lst (bs.map V.bl)) ∧ bs.length ≤ 100 ∧ ∀ D, H1 D = none → Q (.ref D) (upd H1 D (.lst (bs.map b01)))
section
variable {c : Cfg} {ρ ρ1 : Env} {ti te : TE} {K : PySem.W.Frag}
theorem isAll_bl {G : Hp} : ∀ {bs : List Bool} {vs : List V}, IsAll G vs (bs.map .bool) → vs = bs.map V.bl
  | [], _, h => by cases h; rfl
  | b :: bs, _, h => by
    cases h with
    | cons h1 h2 =>
      cases h1
      rw [isAll_bl h2]; rfl
theorem isAll_01 {G : Hp} : ∀ (bs : List Bool), IsAll G (bs.map b01) (bs.map fun b => .int (if b then 1 else 0))
  | [] => .nil
  | b :: bs => .cons (.int _) (isAll_01 bs)
theorem ev_lcI {bs : List Bool} (h : EvX c ti ρ ρ1 (.list (bs.map .bool))) (hl : bs.length ≤ 100) : EvX c (tLcI ti) ρ ρ1 (.list (bs.map fun b => .int (if b then 1 else 0))) := fun σ G H s Q q =>
  h σ G H s _ fun v G1 H1 g1 s1 i1 => by
    cases i1 with
    | lst e is =>
      rw [isAll_bl is] at e
      exact ⟨_, bs, rfl, s1.gh _ _ e, hl, fun p hp => (End1.of s1 fun v G2 H2 g2 s2 i2 => q v G2 H2 (g1.trans g2) s2 i2).lst s1.gh (isAll_01 bs) hp⟩
/-- isinstance of the handled exception -/
theorem ev_isE {D a x : Addr} {b : Bool} (h0 : ρ[0]? = some (.raw (.ref a))) (hk : PySem.W.kitOne K (.ref D) (.ref x) = some b) : EvX c (tCB (rIsE K D a) (tCons (tVar 0) (tCons (tC (.ref x)) tNil))) ρ ρ (.bool b) := fun σ G H s Q q =>
  ⟨_, s.ent 0 _ h0, .ref x, .ref x, b, rfl, fun u r => r, hk, q _ G H (.refl _ _ _) s (.bl b)⟩
theorem ev_isEV {D a : Addr} {T : String} {b : Bool} (h0 : ρ[0]? = some (.raw (.ref a))) (hk : PySem.W.kitOne K (.ref D) (.type T) = some b) : EvX c (tCB (rIsE K D a) (tCons (tVar 0) (tCons (tC (.ty T)) tNil))) ρ ρ (.bool b) := fun σ G H s Q q =>
  ⟨_, s.ent 0 _ h0, .ty T, .type T, b, rfl, fun u r => r, hk, q _ G H (.refl _ _ _) s (.bl b)⟩
end
end Fb

/-! A lambda of the law handed to _law_told. -/
namespace Fb
open PySem PySem.Spec PyProof.Rows L2 HotX L2H
abbrev lamO (q : Str) (params : Arguments) (body : Expr) (scope : Scope) (cl : List (Str × Addr)) (pm : Value) (c' : Addr) (ctv : Value) := PySem.W.kla_obj "<lambda>" q params body scope cl pm c' ctv
section
variable {X : Cx} {pins : List (Addr × Obj)} {σ : L2.St} {H HZ : Hp} {s s1 : Shared}
/-- what the making of a lambda does to what is tracked -/
structure Made (T : List (Addr × Str)) (H H1 : Hp) : Prop where
  ext : LamX.ExtN H H1
  own : ∀ b o, H b = some o → (∀ p ∈ T, b ≠ p.1) → H1 b = some o
  tabs : ∀ T, TabsQ T H → TabsQ T H1
  stay : ∀ a, H a ≠ none → H1 a ≠ none
theorem Made.refl (T : List (Addr × Str)) (H : Hp) : Made T H H := ⟨.refl H, fun _ _ h _ => h, fun _ h => h, fun _ h => h⟩
theorem Made.table {T0 : List (Addr × Str)} {P k : Addr} {ps : Array Value} {pos : Pos} (hm : (P, LQ) ∈ T0) (hP : H P = some (.tbl ps)) (tr : TriplesOk ps.toList) (hk : H k = none) : Made T0 H (upd (upd H P (.tbl (ps ++ #[rawInt pos.line, rawInt pos.col, .ref k]))) k (LamX.CodeO k LQ)) := by
  have eN : LamX.ExtN H (upd (upd H P (.tbl (ps ++ #[rawInt pos.line, rawInt pos.col, .ref k]))) k (LamX.CodeO k LQ)) := fun b o e n => by
    rw [upd_ne (ne_of_none e hk), upd_ne (fun z => n ps (Option.some.inj (e.symm.trans (by rw [z]; exact hP))))]
    exact e
  refine ⟨eN, fun b o e n => by rw [upd_ne (ne_of_none e hk), upd_ne (n _ hm)]; exact e, fun T ⟨hq, hT⟩ => ⟨hq, fun p hp => ?_⟩, fun a ha => ?_⟩
  · by_cases hb : p.1 = P
    · obtain ⟨ps0, b1, b2, b3⟩ := hT p hp
      have e0 : ps0 = ps := by
        rw [hb, hP] at b1
        exact (HO.tbl.inj (Option.some.inj b1)).symm
      subst e0
      have eL : (ps0 ++ #[rawInt pos.line, rawInt pos.col, .ref k]).toList = ps0.toList ++ [rawInt pos.line, rawInt pos.col, .ref k] := by simp
      refine ⟨_, by rw [hb, upd_ne (ne_of_none hP hk), upd_same], by rw [eL]; exact PySem.TriplesOk_snoc _ _ _ _ tr, fun p' cv hcv => ?_⟩
      rw [eL] at hcv
      rcases LamX.among_app _ tr hcv with z | z
      · obtain ⟨k0, e1, e2⟩ := b3 p' cv z
        exact ⟨k0, e1, eN _ _ e2 LamX.codeO_ne⟩
      · exact ⟨k, z, by rw [upd_same, hq p hp]⟩
    · obtain ⟨ps0, b1, b2, b3⟩ := hT p hp
      refine ⟨ps0, by rw [upd_ne (ne_of_none b1 hk), upd_ne hb]; exact b1, b2, fun p' cv hcv => ?_⟩
      obtain ⟨k0, e1, e2⟩ := b3 p' cv hcv
      exact ⟨k0, e1, eN _ _ e2 LamX.codeO_ne⟩
  · by_cases e1 : a = k
    · rw [e1, upd_same]; exact fun z => by cases z
    · rw [upd_ne e1]
      by_cases e2 : a = P
      · rw [e2, upd_same]; exact fun z => by cases z
      · rw [upd_ne e2]; exact ha
theorem lam_made {T : List (Addr × Str)} {c P : Addr} {params : Arguments} {body : Expr} {scope : Scope} {pos : Pos} {E : Value → Shared → Prop} {Q : Value → Shared → Prop} (I : Inv X pins σ H s) (TB : LamX.TabB X.base X.mg c P) (hcode : X.env.code = .ref c)
    (hm : (P, LQ) ∈ T) (hql : X.env.qual ++ "<lambda>" = LQ) (hT : TabsQ T H) (hdef : defaultsOf params X.env = ([], [])) (hfree : ∀ y ∈ scope.names, y.2 = .free → ∃ k, X.env.cells.lookup y.1 = some k)
    (h : ∀ (f c' : Addr) (pm ctv : Value) (H1 : Hp) (s' : Shared), Inv X pins σ H1 s' → Made T H H1 →
      s'.heap.get? f = some (lamO (X.env.qual ++ "<lambda>") params body scope (cloFrom X.env.cells scope.names []) pm c' ctv) → H1 f = none → f ∉ frs X.stack → H1 c' = some (LamX.CodeO c' LQ) → Q (.ref f) s') :
    wpAny (model X.prog X.w) X.A (eval (.Lambda params body scope pos) X.env) Q E s := by
  obtain ⟨ps, hP, ht, ha⟩ := hT.2 _ hm
  refine PySem.W.kla_eval hdef ?_
  have bPs : s.heap.BuiltinsAt X.mg P := TB.bm.keeps I.bk
  have hPs : s.heap.get? P = some { cls := .none, data := .fields ps } := I.hok P _ hP
  have noFr : ∀ f, s.heap.objs.size ≤ f → f ∉ frs X.stack := fun f hf z => by
    rcases List.mem_cons.mp (I.stkSub _ z) with e | e
    · have hlt := I.lt
      rw [← e] at hlt
      exact Nat.lt_irrefl _ (Nat.lt_of_lt_of_le hlt hf)
    · exact I.nofs hf e
  cases hcm : codeAmong pos ps.toList with
  | none =>
    refine PySem.W.kla_makeFunction (mg := X.mg) (c := c) (P := P) (ps := ps) (closure_ok hfree) I.ok.glob (I.mod.glob.keeps I.bk) hcode (TB.code.keeps I.bk) hPs ht hcm TB.gP bPs fun c' ctv h' tk hx hge hlt hrec htb => ?_
    obtain ⟨c2, oc, vs, t, e2, hoc, hd, hv⟩ := hrec
    cases e2
    have hsz : s.heap.objs.size ≤ h'.objs.size := Nat.le_trans hge (Nat.le_of_lt hlt)
    have nC : H c' = none := I.hok.fresh hge
    have J := LamX.inv_table (q := LQ) (t' := tk) (more := #[rawInt pos.line, rawInt pos.col, .ref c']) (h' := h'.push (lamO (X.env.qual ++ "<lambda>") params body scope (cloFrom X.env.cells scope.names []) ((X.mg "__name__").getD .none) c' ctv)) I hP
      (fun b o hb e => Heap.get?_push_of_some _ (hx b o hb e)) (Heap.get?_push_of_some _ htb) hge ⟨oc, vs, t, Heap.get?_push_of_some _ hoc, hd, by rw [hv, hql]⟩
    refine h h'.objs.size c' ((X.mg "__name__").getD .none) ctv _ _ J (.table hm hP ht nC) (Heap.get?_push_size _ rfl) ?_ (noFr _ hsz) upd_same
    rw [upd_ne (Nat.ne_of_gt hlt), upd_ne (Nat.ne_of_gt (Nat.lt_of_lt_of_le (Heap.lt_size hPs) hsz))]
    exact I.hok.fresh hsz
  | some cv =>
    obtain ⟨c', e, hco⟩ := ha pos cv hcm
    subst e
    refine PySem.W.kla_makeFunctionHit (mg := X.mg) (c := c) (P := P) (ps := ps) (closure_ok hfree) I.ok.glob (I.mod.glob.keeps I.bk) hcode (TB.code.keeps I.bk) hPs ht hcm bPs fun ctv h' tk hx hsz => ?_
    have J : Inv X pins σ H { s with heap := h'.push (lamO (X.env.qual ++ "<lambda>") params body scope (cloFrom X.env.cells scope.names []) ((X.mg "__name__").getD .none) c' ctv), toks := tk } := I.kept fun b o e => Heap.get?_push_of_some _ (hx b o e)
    exact h h'.objs.size c' ((X.mg "__name__").getD .none) ctv H _ J (.refl T H) (Heap.get?_push_size _ rfl) (I.hok.fresh hsz) (noFr _ hsz) hco
/-- the context of the lambda's body -/
def lamCxN (X : Cx) (A : Around) (outer : List PySem.Env) (s : Shared) (H : Hp) (E : XK) (scope : Scope) (f c' : Addr) : Cx :=
  { LamX.lamCx X A outer s H E scope f c' with
    xe := fun e s' => wpAny (model X.prog X.w) (A.deeper (LamX.lamEnv X scope s.heap.objs.size f c')) (leaving (LamX.lamEnv X scope s.heap.objs.size f c') e) (fun _ s'' => L2N.CX X.prog X.w outer H s E e s'') (fun e' s'' => L2N.CX X.prog X.w outer H s E e' s'') s' }
theorem pe_actN {CXg : CXT} {Eg : XK} {Ng : List Str} {qg : Str} {sg : Scope} {g f c' : Addr} {cdg pm ctv : Value} {params : Arguments} {body : Expr} {scope : Scope} {k i : Nat} {a : Str} {pn : List (Addr × Obj)} {xe : Value → Shared → Prop} {W : WX} {E : XK} {tb : TE} {p1 p2 : Pos}
    (I : Inv X pins σ H s) (L : LamX.LamS X.env.scope scope) (hf : s.heap.get? f = some (lamO (X.env.qual ++ "<lambda>") params body scope (cloFrom X.env.cells scope.names []) pm c' ctv)) (hfn : H f = none) (hfr : f ∉ frs X.stack) (hql : X.env.qual ++ "<lambda>" = LQ)
    (hbind : bindArgs (PySem.W.kla_fn "<lambda>" (X.env.qual ++ "<lambda>") params body scope (cloFrom X.env.cells scope.names []) pm (.ref c') ctv) ⟨[], []⟩ = pure [])
    (tk : L2N.Takes ((cxOf CXg X.prog X.w X.K X.mg X.base Ng qg sg g cdg X.A X.stack s H Eg).tr pn xe) W) (hW : ∀ cls d σ' H', E cls d H' → W cls d σ' H') (hr : Room (k + 1) (X.A.deeper (envOfC qg sg s.heap.objs.size g cdg)))
    (hbody : ∀ (A : Around) (outer : List PySem.Env) (s : Shared) (H : Hp), Room k (A.deeper (LamX.lamEnv X scope s.heap.objs.size f c')) → PE (lamCxN X A outer s H E scope f c') body tb)
    (hN : Ng[i]? = some a) (hv : Vis sg a) (hd : (a == ("__debug__" : Str)) = false := by decide) (hcd : (a == ("__classdict__" : Str)) = false := by decide) :
    PE ((cxOf CXg X.prog X.w X.K X.mg X.base Ng qg sg g cdg X.A X.stack s H Eg).tr pn xe) (.Call (.Name a p1) [] [] p2)
      (fun σZ HZ Q => σZ[i]? = some (some (.ref f)) ∧ HZ c' = some (LamX.CodeO c' LQ) ∧ tb σ HZ Q) := by
  refine ⟨fun pinsZ sZ σZ HZ Q IZ ⟨hs, hc, ht⟩ => ?_⟩
  refine wpAny_Call_Name_kw (thn ((pe_var (pos := p1) (i := i) hN hv hd hcd).run pinsZ sZ σZ HZ (fun v H1 => v = .ref f ∧ H1 = HZ) IZ ⟨.ref f, hs, rfl, rfl⟩) fun u s1 ⟨v, H1, J, r1, ev, eH⟩ => ?_)
  subst ev
  rw [eH] at J
  obtain rfl : u = Value.ref f := r1
  have of1 : s1.heap.get? f = some (lamO (X.env.qual ++ "<lambda>") params body scope (cloFrom X.env.cells scope.names []) pm c' ctv) := J.base.keep f _ hf hfn hfr (fun z => nomatch (show f ∈ ([] : List Addr) from z))
  refine PySem.W.callWith_F0 ⟨_, _, _, _, of1⟩ ?_
  have un : Un (frs X.stack) [] H HZ s.heap s1.heap := J.base
  obtain ⟨⟨oc, vs, t, hoc, hdc, hvc⟩, _, _⟩ := J.hok c' _ hc
  have rc : codeAny (model X.prog X.w) (X.A.deeper (envOfC qg sg s.heap.objs.size g cdg)) (.call (.ref f) ⟨[], []⟩) (CR (L2N.CX X.prog X.w) (envOfC qg sg s.heap.objs.size g cdg :: X.stack) X.prog X.w HZ s1 Q E) s1 := by
    refine PySem.W.kla_callFunE hr.depth of1 rfl L.co L.gen rfl ⟨c', oc, vs, t, rfl, hoc, hdc, by rw [hvc, hql]⟩ ?_
    rw [hbind]
    refine wpAny_pure (wpAny_newFunctionEnv (fun y hy => (L.own y hy).2) (fun y hy => absurd hy (by simp)) (fun h₁ hns hsb => ⟨J.nolimit.fresh _ hsb, ?_⟩) L.kind)
    show codeAny _ _ (.expr body (LamX.lamEnv X scope s1.heap.objs.size f c')) _ _
    have kp : ∀ b o, s1.heap.get? b = some o → h₁.get? b = some o := fun b o e => hsb.extBut b o (Nat.ne_of_lt (Heap.lt_size e)) (Heap.get?_push_of_some _ e)
    have J0 : Inv (LamX.lamCx X (X.A.deeper (envOfC qg sg s.heap.objs.size g cdg)) (envOfC qg sg s.heap.objs.size g cdg :: X.stack) s1 HZ E scope f c') [] σ HZ { s1 with heap := h₁, toks := s1.toks + ([] : List (Str × Value)).length } :=
      LamX.lam_start2 I L J.env0 hr.hd un hns kp
    have J1 : Inv (lamCxN X (X.A.deeper (envOfC qg sg s.heap.objs.size g cdg)) (envOfC qg sg s.heap.objs.size g cdg :: X.stack) s1 HZ E scope f c') [] σ HZ { s1 with heap := h₁, toks := s1.toks + ([] : List (Str × Value)).length } := J0.wish _
    refine PySem.W.kla_codeExpr (wpAny_mono ((hbody _ _ s1 HZ (hr.deeper _)).run [] _ _ HZ Q J1 ht) (fun v s' hq => ?_) fun e s' hq => hq)
    obtain ⟨w', H', J', rv, q⟩ := hq
    exact ⟨w', H', J'.os, J'.bare, J'.base, J'.hok, rv, q⟩
  have hx : Passes (L2N.CX X.prog X.w) ((cxOf CXg X.prog X.w X.K X.mg X.base Ng qg sg g cdg X.A X.stack s H Eg).tr pn xe) E := L2N.passes_call tk fun cls d σ' H' z => hW cls d σ' H' z
  refine wpAny_call (codeAny_mono rc fun r s' hq => ?_)
  cases r with
  | error e => exact hx pinsZ σZ HZ s1 e s' J hq
  | ok fl =>
    cases fl with
    | ret u => exact J.after hq
    | next => exact False.elim hq
    | brk => exact False.elim hq
    | cont => exact False.elim hq
end
end Fb

/-! _law_told(lambda: ..): what it gives. -/
namespace Fb
open PySem PySem.Spec PyProof.Rows L2 HotX L2H
/-- what is wanted of an exception that _law_told meets -/
def ET (K : PySem.W.Frag) (Q : VK) : XK := fun cls d H => ∃ (D : Addr) (nm : Str) (G : Hp), cls = .ref D ∧ d = none ∧ TermOk K D nm ∧ Ex G H ∧ ∀ v G' H', Grow [] G H G' H' → Ex G' H' → Is G' v (termD nm) → Q v H'
abbrev kd (sc : Scope) (x : Str) : Option NameKind := sc.names.lookup x
/-- the reading -/
def tTold (K : PySem.W.Frag) (T : List (Addr × Str)) (t : XK → TE) : TE := fun σ H Q => TabsQ T H ∧ ∀ H1, Made T H H1 → t (ET K Q) σ H1 Q
/-- the def _law_told as it stands -/
structure Told (P : Program) (w : World) (K : PySem.W.Frag) (mg : Str → Option Value) (base : Heap) (k : Nat) : Prop where
  ex : ∃ (g : Addr) (fd : FuncData) (st : Stmt), mg "_law_told" = some (.ref g) ∧ FnP K "_law_told" st g fd ∧ FnScope ["_law_deed", "_law_e"] ["_law_deed"] (defScope st) ∧ L2.Binds K fd ["_law_deed"] [] ∧
    (∃ p1 p2 p3 p4 p5 p6 p7 p8 p9 p10 : Pos, defBody st = [.Try [.Return (some (.Call (.Name "_law_deed" p1) [] [] p2)) p3] [.ExceptHandler (some (.Name "FrostError" p4)) (some "_law_e") [.Return (some (.Call (.Name "_law_term" p5) [.Name "_law_e" p6] [] p7)) p8] p9] [] [] p10]) ∧
    kd (defScope st) "FrostError" = some .globalImplicit ∧ kd (defScope st) "_law_term" = some .globalImplicit ∧ kd (defScope st) "_law_e" = some .local ∧ kd (defScope st) "_law_deed" = some .local ∧
    mg "FrostError" = some (.ref (He.ga K "FrostError")) ∧
    ∃ (ft : Addr) (fdt : FuncData), mg "_law_term" = some (.ref ft) ∧ PySem.W.keepIn K (.ref ft) = true ∧ L2.Binds K fdt ["_law_e"] [] ∧ FnT P w K mg base k ft fdt
section
variable {X : Cx}
theorem takes0N {X : Cx} : L2N.Takes X (fun _ _ _ _ => False) := fun _ _ x => by
  obtain ⟨_, _, _, _, _, _, _, _, _, _, _, _, _, _, _, _, z⟩ := x
  exact z.elim
/-- _law_term(_law_e), in the suite -/
theorem pe_term {a ft : Addr} {oe : Obj} {cls : Value} {d : Option Addr} {pn : List (Addr × Obj)} {fdt : FuncData} {k : Nat} {p5 p6 p7 : Pos} (hz : L2N.Zn cls d oe) (hf : ∃ vs, oe.data = .fields vs) (hg : Gl X "_law_term") (hm : X.mg "_law_term" = some (.ref ft)) (hk : PySem.W.keepIn X.K (.ref ft) = true)
    (hb : L2.Binds X.K fdt ["_law_e"] []) (F : FnT X.prog X.w X.K X.mg X.base k ft fdt) (hr : RoomH k X.A) (hN : X.N[1]? = some ("_law_e" : Str)) (hv : Vis X.env.scope "_law_e") :
    PE (X.suite a ((a, oe) :: pn)) (.Call (.Name "_law_term" p5) [.Name "_law_e" p6] [] p7) (fun σ H Q => (∃ σ', σ = List.set σ' 1 (some (.ref a))) ∧ ET X.K Q cls d H) := by
  refine ⟨fun pins s σ H Q I ⟨⟨σ', eσ⟩, D, nm, G, ec, ed, tk, gh, q⟩ => ?_⟩
  subst ec ed
  have hlt : 1 < σ'.length := by
    have h1 := I.len
    have h2 : 1 < X.N.length := (List.getElem?_eq_some_iff.mp hN).1
    rw [eσ, List.length_set] at h1
    have h3 : σ'.length = X.N.length := h1
    omega
  refine wpAny_Call_Name_kw (ld_glob I hg hm ?_ (by decide))
  have ha : PA (X.suite a ((a, oe) :: pn)) [.Name "_law_e" p6] (tCons (tVar 1) tNil) := pa_cons (pe_var hN hv) pa_nil
  refine PySem.W.callWith_K (h₀ := X.base) I.ok.mod.kin hk (thn (ha.run p7 pins s σ H (fun vs H1 => vs = [.ref a] ∧ H1 = H) I ⟨.ref a, by rw [eσ, List.getElem?_set_self hlt], rfl, rfl⟩) fun us s1 ⟨vs, H1, J, r, ev, eH⟩ => ⟨J.kIn, ?_⟩) (by rfl) (by rfl)
  subst ev
  rw [eH] at J
  cases r with
  | cons ru rr =>
    cases rr
    cases ru
    have pin := J.pin (a, oe) (List.mem_append_left _ (List.mem_cons_self))
    obtain ⟨vs, hd⟩ := hf
    have hpin : PinOk (X.suite a ((a, oe) :: pn)).stack H s1 (a, oe) := ⟨pin.1, pin.2.1, fun hm => (List.mem_cons.mp (J.stkSub a hm)).elim pin.2.2.1 pin.2.2.2.1, pin.2.2.2.2⟩
    have b := hb s1 [.ref a] J.kIn rfl
    refine wpAny_call (codeAny_mono (F.run (X.suite a ((a, oe) :: pn)).A (X.suite a ((a, oe) :: pn)).stack s1 H ⟨[.ref a], []⟩ Q (a, oe) D nm G ⟨hr.dp, hr.un⟩ ⟨rfl, vs, hd, hz.2.2 vs hd⟩ hpin J.env0 hz.zc tk b gh q) fun r s' hq => ?_)
    cases r with
    | error e => exact (show False from hq).elim
    | ok fl =>
      cases fl with
      | ret u => exact J.after hq
      | next => exact False.elim hq
      | brk => exact False.elim hq
      | cont => exact False.elim hq
/-- _law_told(lambda: body) -/
theorem pe_told {T : List (Addr × Str)} {c P : Addr} {k j : Nat} {params : Arguments} {body : Expr} {scope : Scope} {t : XK → TE} {p lpos pos : Pos} (tl : Told X.prog X.w X.K X.mg X.base j) (hg : Gl X "_law_told")
    (TB : LamX.TabB X.base X.mg c P) (hcode : X.env.code = .ref c) (hmT : (P, LQ) ∈ T) (hql : X.env.qual ++ "<lambda>" = LQ) (hr : Room (k + 2) X.A) (hjk : j ≤ k + 1) (L : LamX.LamS X.env.scope scope) (hdef : defaultsOf params X.env = ([], []))
    (hbind : ∀ (q : Str) (cl : List (Str × Addr)) (pm cv ctv : Value), bindArgs (PySem.W.kla_fn "<lambda>" q params body scope cl pm cv ctv) ⟨[], []⟩ = pure [])
    (hbody : ∀ (A : Around) (outer : List PySem.Env) (s : Shared) (H : Hp) (E : XK) (f c' : Addr), Room k (A.deeper (LamX.lamEnv X scope s.heap.objs.size f c')) → PE (lamCxN X A outer s H E scope f c') body (t E)) :
    PE X (.Call (.Name "_law_told" p) [.Lambda params body scope lpos] [] pos) (tTold X.K T t) := by
  obtain ⟨g, fd, st, hm, F, S, hb, ⟨p1, p2, p3, p4, p5, p6, p7, p8, p9, p10, eB⟩, gF, gT, kE, kD, mF, ft, fdt, mT, kT, bT, FT⟩ := tl.ex
  obtain ⟨oc, od, dV, kV, doc, pm, an, cdv, ct, osl, e1, lk, hcd, _, _⟩ := F.ex
  subst e1
  refine ⟨fun pins s σ H Q I ⟨hT, h⟩ => ?_⟩
  refine wpAny_Call_Name_kw (ld_glob I hg hm ?_ (by decide))
  refine PySem.W.callWith_K (h₀ := X.base) I.ok.mod.kin F.kp ?_ (by rfl) (by rfl)
  show wpAny _ _ (spliced ((false, eval (.Lambda params body scope lpos) X.env) :: backTo pos (starEach [] X.env))) _ _ s
  refine Calls.spliced_cons (lam_made I TB hcode hmT hql hT hdef (L.has I.ok) fun f c' pm' ctv H1 s' I1 md hf hfn hfr hco => ?_)
  refine Calls.spliced_nil ⟨I1.kIn, ?_⟩
  have rc : codeAny (model X.prog X.w) X.A (.call (.ref g) ⟨[.ref f], []⟩) (CR C8.CX0 X.stack X.prog X.w H1 s' Q C8.E0) s' := by
    refine LamX.run_ofS (N := ["_law_deed", "_law_e"]) (ps := ["_law_deed"]) (us := [.ref f]) (vs := [.ref f]) lk hcd S hr I1.env0 (hb s' [.ref f] I1.kIn rfl) (.cons rfl .nil) rfl fun hr' => ?_
    rw [eB]
    refine ⟨_, PSs.nox (pss_one (L2N.ps_try_as (i := 1) (c := .ref (He.ga X.K "FrostError")) (X := (cxOf C8.CX0 X.prog X.w X.K X.mg X.base ["_law_deed", "_law_e"] "_law_told" (defScope st) g cdv X.A X.stack s' H1 C8.E0).nox)
      (tb := fun W D σ2 H2 => ∃ Ech : XK, (∀ cls d σ' H', Ech cls d H' → W cls d σ' H') ∧ σ2[0]? = some (some (.ref f)) ∧ H2 c' = some (LamX.CodeO c' LQ) ∧ t Ech σ H2 D.rt)
      (ts := fun a cls d D σ2 H2 => (∃ σ', σ2 = List.set σ' 1 (some (.ref a))) ∧ ET X.K D.rt cls d H2)
      rfl rfl S.nd rfl kE ⟨gF, by decide, .inl mF⟩ takes0N (fun W pn xe tk _ => ⟨fun pins2 s2 σ2 H2 D2 I2 ⟨Ech, hW, h1, h2, h3⟩ => ?_⟩) (fun a oe cls d pn hz hf => pss_one (ps_ret (pe_term (X := (cxOf C8.CX0 X.prog X.w X.K X.mg X.base ["_law_deed", "_law_e"] "_law_told" (defScope st) g cdv X.A X.stack s' H1 C8.E0).nox) hz hf gT mT kT bT FT ((roomH_of hr').mono hjk) rfl (.inl kE)))))), ?_⟩
    · have hp := pe_actN (CXg := C8.CX0) (Eg := C8.E0) (p1 := p1) (p2 := p2) (i := 0) I1 L hf hfn hfr hql (hbind _ _ _ _ _) tk hW hr' (fun A outer s H hr2 => hbody A outer s H Ech f c' hr2) rfl (.inl kD)
      exact (pss_one (ps_ret (pos := p3) hp)).run pins2 s2 σ2 H2 D2 I2 ⟨h1, h2, h3⟩
    · refine ⟨ET X.K Q, fun cls d σ' H' z => ⟨true, ?_, fun _ a _ => ⟨⟨σ', rfl⟩, z⟩, (fun z => nomatch z)⟩, rfl, hco, h H1 md⟩
      obtain ⟨D, nm, G, ec, _, tk, _⟩ := z
      rw [ec]
      exact tk.exm
  refine wpAny_call (codeAny_mono rc fun r s2 hq => ?_)
  cases r with
  | error e => exact (show False from hq).elim
  | ok fl =>
    cases fl with
    | ret u => exact I1.after hq
    | next => exact False.elim hq
    | brk => exact False.elim hq
    | cont => exact False.elim hq
end
/-! ### by data -/
section
variable {c : Cfg} {ρ ρ1 : Env}
theorem Sit.made {T : List (Addr × Str)} {ρ : Env} {σ : L2.St} {G H H1 : Hp} (s : Sit T ρ σ G H) (m : Made T H H1) : Sit T ρ σ G H1 :=
  ⟨fun a o h => m.own a o (s.gh a o h) (fun p hp z => by rw [z, s.gtab p hp] at h; cases h), s.len, fun i e h => by
    have q := s.ent i e h
    cases e with
    | un => trivial
    | dat d => exact q
    | own a ds =>
      obtain ⟨q1, ⟨vs, q2, q3⟩, q4⟩ := q
      exact ⟨q1, ⟨vs, m.ext _ _ q2 (fun ps z => by cases z), q3⟩, q4⟩
    | obj a o =>
      obtain ⟨q1, q2, q3, q4⟩ := q
      exact ⟨q1, m.ext _ _ q2 q4, q3, q4⟩
    | dic a ks =>
      obtain ⟨q1, ⟨vs, q2, qk, q3⟩, q4⟩ := q
      exact ⟨q1, ⟨vs, m.ext _ _ q2 (fun ps z => by cases z), qk, q3⟩, q4⟩
    | raw v => exact q, s.uq, m.tabs _ s.tabs, s.gtab⟩
end
end Fb

/-! _law_told(lambda: ..) by data; _law_term by data. -/
namespace Fb
open PySem PySem.Spec PyProof.Rows L2 HotX L2H
section
variable {c : Cfg} {ρ ρ1 ρ2 : Env} {to te : TE} {t : TA} {d : D}
theorem Made.grow {B : List Addr} {T : List (Addr × Str)} {G H H1 : Hp} (m : Made T H H1) : Grow B G H G H1 := ⟨.refl _, fun a o h _ n => m.ext a o h n, m.tabs, fun _ _ => rfl, m.stay⟩
/-- the lambda's call raises a class that _law_term knows -/
theorem ev_toldE {C : Addr} {nm : Str} {f : XK → TE} (tk : TermOk c.K C nm) (h : ∀ E' : XK, EvE ⟨c.K, c.T, [], E'⟩ (f E') ρ C) : EvX c (tTold c.K c.T f) ρ ρ (termD nm) := fun σ G H s Q q =>
  ⟨s.tabs, fun H1 m => h (ET c.K Q) σ G H1 (s.made m) Q fun G1 H2 g gh => ⟨C, nm, G1, rfl, rfl, tk, gh, fun v G2 H3 g2 gh2 i2 =>
    q v G2 H3 (m.grow.trans (grow_nil (g.trans g2))) ((s.made m).grow0 (g.trans g2) gh2) i2⟩⟩
/-- it gives a value -/
theorem ev_toldV {f : XK → TE} (h : ∀ E' : XK, EvX ⟨c.K, c.T, [], E'⟩ (f E') ρ ρ d) : EvX c (tTold c.K c.T f) ρ ρ d := fun σ G H s Q q =>
  ⟨s.tabs, fun H1 m => h (ET c.K Q) σ G H1 (s.made m) Q fun v G1 H2 g s1 i1 => q v G1 H2 (m.grow.trans (grow_nil g)) s1 i1⟩
theorem rm_index {K : PySem.W.Frag} {bs : List Bool} {j : Nat} (h1 : bs[j]? = some true) (h2 : ∀ m, m < j → bs[m]? = some false) : RM (rIndex K) (.list (bs.map .bool)) [.bool true] (.int (j : Nat)) := fun a vs G H gh ia iv Q q => by
  cases ia with
  | lst e is =>
    rw [isAll_bl is] at e
    cases iv with
    | cons h hr =>
      cases hr
      cases h
      refine ⟨_, bs.map V.bl, .bl true, j, .bl true, rfl, rfl, .of (gh _ _ e), rfl, ?_, by rw [List.getElem?_map, h1]; rfl, rfl, fun m z' hm hz => ?_, q.here gh (.int _)⟩
      · rw [List.all_map]
        exact List.all_eq_true.mpr fun _ _ => rfl
      · rw [List.getElem?_map, h2 m hm] at hz
        cases hz
        rfl
end
theorem go_lst {M : Model} {A : Around} {E : Value → Shared → Prop} {s : Shared} {x : Str} {p : Pos} {it a : Addr} {i : Nat} {u : Value} {Q : Unit → Shared → Prop} (st : s.heap.IsListIter it a i) (q : Q () s) : wpAny M A (letOwnedTupleGo (.Name x p) (.ref it) u) Q E s := by
  obtain ⟨o, e, hc, hd⟩ := st
  exact go_of (n := "list_iterator") e hc hd (by decide) q
abbrev N__law_term : List Str := ["_law_e", "_law_flags", "_law_kinds", "_law_flag"]
def t__law_term (K : PySem.W.Frag) (w : World) (D a : Addr) : TS := (tSeq (tAsg (tLst (tCons (tCB (rIsE K D a) (tCons (tVar 0) (tCons (tC (.ref (He.ga K "InvalidBoard"))) tNil))) (tCons (tCB (rIsE K D a) (tCons (tVar 0) (tCons (tC (.ref (He.ga K "InvalidCell"))) tNil))) (tCons (tCB (rIsE K D a) (tCons (tVar 0) (tCons (tC (.ref (He.ga K "InvalidCells"))) tNil))) tNil)))) (gName 1))
 (tSeq (tAsg (tOp (rAddU K) (tVar 1) (tLst (tCons (tCB (rIsE K D a) (tCons (tVar 0) (tCons (tC (.ref (He.ga K "InvalidTicks"))) tNil))) (tCons (tCB (rIsE K D a) (tCons (tVar 0) (tCons (tC (.ref (He.ga K "InvalidText"))) tNil))) (tCons (tCB (rIsE K D a) (tCons (tVar 0) (tCons (tC (.ref (He.ga K "TooLarge"))) tNil))) tNil))))) (gName 1))
 (tSeq (tAsg (tOp (rAddU K) (tVar 1) (tLst (tCons (tCB (rIsE K D a) (tCons (tVar 0) (tCons (tC (.ref (He.ga K "Unlike"))) tNil))) (tCons (tCB (rIsE K D a) (tCons (tVar 0) (tCons (tC (.ref (He.ga K "NothingToUndo"))) tNil))) tNil)))) (gName 1))
 (tSeq (tAsg (tLst (tCons (tC (.str "InvalidBoard")) (tCons (tC (.str "InvalidCell")) (tCons (tC (.str "InvalidCells")) (tCons (tC (.str "InvalidTicks")) (tCons (tC (.str "InvalidText")) (tCons (tC (.str "TooLarge")) tNil))))))) (gName 2))
 (tSeq (tAsg (tOp (rAddU K) (tVar 2) (tLst (tCons (tC (.str "Unlike")) (tCons (tC (.str "NothingToUndo")) tNil)))) (gName 2))
 (tSeq (tIfS (tOr (tTest (tOp (rNeD K) (tCB (rSum K) (tCons (tLcI (tVar 1)) tNil)) (tC (.int 1)))) (tNot (tB (tCB (rIsE K D a) (tCons (tVar 0) (tCons (tC (.ty "ValueError")) tNil)))))) (tRet (tTup (tCons (tC (.str "error")) (tCons (tC (.str "other")) tNil)))) tNext)
 (tRet (tTup (tCons (tC (.str "error")) (tCons (tOp (rIx K) (tVar 2) (tBM K "list" (rIndex K) (tVar 1) (tCons (tC (.bl true)) tNil))) tNil))))))))))
def flagsOf (nm : Str) : List Bool := kinds.map fun c => decide (c = nm)
theorem flags_sum : ∀ nm ∈ kinds, ((flagsOf nm).map fun b => if b then (1 : Int) else 0).sum = 1 := by decide +kernel
def placeOf (nm : Str) : Nat := (flagsOf nm).findIdx id
theorem flags_at : ∀ nm ∈ kinds, (flagsOf nm)[placeOf nm]? = some true ∧ (∀ m, m < placeOf nm → (flagsOf nm)[m]? = some false) ∧ kinds[placeOf nm]? = some nm := by
  intro nm h
  have e : ∀ nm ∈ kinds, placeOf nm < 8 ∧ (flagsOf nm)[placeOf nm]? = some true ∧ ((List.range (placeOf nm)).all fun m => decide ((flagsOf nm)[m]? = some false)) = true ∧ kinds[placeOf nm]? = some nm := by decide +kernel
  obtain ⟨_, h1, h2, h3⟩ := e nm h
  exact ⟨h1, fun m hm => of_decide_eq_true (List.all_eq_true.mp h2 m (List.mem_range.mpr hm)), h3⟩
theorem body__law_term {K : PySem.W.Frag} {w : World} {D a : Addr} {nm : Str} {G H : Hp} {Q : VK} (tk : TermOk K D nm) (gh : Ex G H) (q : ∀ v G' H', Grow [] G H G' H' → Ex G' H' → Is G' v (termD nm) → Q v H') :
    t__law_term K w D a { nx := fun _ H' => Q .non H', rt := Q } (L2.start N__law_term [.ref a]) H := by
  have F := flags_at nm tk.mem
  have i0 : ∀ {E : XK} {ρ : Env} {x : Str}, ρ[0]? = some (.raw (.ref a)) → x ∈ kinds → EvX ⟨K, [], [], E⟩ (tCB (rIsE K D a) (tCons (tVar 0) (tCons (tC (.ref (He.ga K x))) tNil))) ρ ρ (.bool (decide (x = nm))) := fun h hx => ev_isE h (tk.cls _ hx)
  have hb : ∃ ρ', ExS ⟨K, [], [], E0⟩ (t__law_term K w D a) [.raw (.ref a), .un, .un, .un] (.ret ρ' (termD nm)) := by
    refine ⟨[.raw (.ref a), .dat (.list ((flagsOf nm).map .bool)), .dat (.list (kinds.map .str)), .un], ?_⟩
    unfold t__law_term
    refine exs_seq (exs_set (ev_ls (ea_cons (i0 rfl (by decide)) (ea_cons (i0 rfl (by decide)) (ea_cons (i0 rfl (by decide)) ea_nil)))) (OwnSub.refl _)) ?_
    refine exs_seq (exs_set (ev_op (ev_var rfl) (ev_ls (ea_cons (i0 rfl (by decide)) (ea_cons (i0 rfl (by decide)) (ea_cons (i0 rfl (by decide)) ea_nil)))) (ux_addL (by simp))) (OwnSub.refl _)) ?_
    refine exs_seq (exs_set (ev_op (ev_var rfl) (ev_ls (ea_cons (i0 rfl (by decide)) (ea_cons (i0 rfl (by decide)) ea_nil))) (ux_addL (by simp))) (OwnSub.refl _)) ?_
    refine exs_seq (exs_set (ev_ls (ea_cons ev_str (ea_cons ev_str (ea_cons ev_str (ea_cons ev_str (ea_cons ev_str (ea_cons ev_str ea_nil))))))) (OwnSub.refl _)) ?_
    refine exs_seq (exs_set (ev_op (ev_var rfl) (ev_ls (ea_cons ev_str (ea_cons ev_str ea_nil))) (ux_addL (by simp))) (OwnSub.refl _)) ?_
    have eS : (flagsOf nm).map (fun b => PyData.int (if b then 1 else 0)) = ((flagsOf nm).map fun b => if b then (1 : Int) else 0).map .int := by rw [List.map_map]; rfl
    have rS : RC (rSum K) [.list ((flagsOf nm).map fun b => .int (if b then 1 else 0))] (.int 1) := by
      have h := rc_sum (K := K) (ns := (flagsOf nm).map fun b => if b then (1 : Int) else 0)
      rw [flags_sum nm tk.mem, ← eS] at h
      exact h
    have vS : EvX ⟨K, [], [], E0⟩ (tCB (rSum K) (tCons (tLcI (tVar 1)) tNil)) [.raw (.ref a), .dat (.list ((flagsOf nm).map .bool)), .dat (.list (kinds.map .str)), .un] [.raw (.ref a), .dat (.list ((flagsOf nm).map .bool)), .dat (.list (kinds.map .str)), .un] (.int 1) :=
      ev_cb (ea_cons (ev_lcI (bs := flagsOf nm) (ev_var rfl) (by unfold flagsOf; rw [List.length_map]; decide)) ea_nil) rS
    refine exs_seq (exs_if (b := false) (et_is (et_or (b := false) (et_test (ev_op vS ev_int gx_neI)) (fun _ => et_not (et_B (ev_isEV rfl tk.val)))) rfl) (OwnSub.refl _) (fun z => nomatch z) (fun _ => exs_nil)) ?_
    exact exs_ret (ev_tp (ea_cons ev_str (ea_cons (ev_op (ev_var rfl) (ev_bmL (ev_var rfl) (ea_cons ev_bl ea_nil) (rm_index F.1 F.2.1)) (ux_ixL (atI_nat (by rw [List.getElem?_map, F.2.2]; rfl)))) ea_nil))) (OwnSub.refl _)
  obtain ⟨ρ', hb⟩ := hb
  refine hb G H _ _ G H ⟨⟨gh, rfl, fun i e hi => ?_, fun i j p e e' h1 h2 a1 a2 => ?_, tabsQ_nil, fun p hp => by cases hp⟩, .refl _ _ _, fun i p es e => ?_⟩ fun v σ G' H' e r i => q v G' H' r.grow r.sit.gh i
  · match i, hi with
    | 0, hi => cases Option.some.inj hi; rfl
    | 1, hi => cases Option.some.inj hi; trivial
    | 2, hi => cases Option.some.inj hi; trivial
    | 3, hi => cases Option.some.inj hi; trivial
    | n + 4, hi => cases hi
  · match i, h1 with
    | 0, h1 => cases Option.some.inj h1; cases a1
    | 1, h1 => cases Option.some.inj h1; cases a1
    | 2, h1 => cases Option.some.inj h1; cases a1
    | 3, h1 => cases Option.some.inj h1; cases a1
    | n + 4, h1 => cases h1
  · match i, e with
    | 0, e => cases Option.some.inj e
    | 1, e => cases Option.some.inj e
    | 2, e => cases Option.some.inj e
    | 3, e => cases Option.some.inj e
    | n + 4, e => cases e
end Fb

/-! The law's own free cells, neighbours, laying, ticking. -/
namespace Fb
open PySem PySem.Spec PyProof.Rows L2
/-! ### list.count(True) -/
def rCntB (K : PySem.W.Frag) : V → List V → Hp → VK → Prop := fun x xs H Q => ∃ (a : Addr) (bs : List Bool), x = V.ref a ∧ xs = [.bl true] ∧ SqL K H a (bs.map V.bl) ∧ Q (.int ((bs.countP id : Nat) : Int)) H
theorem dpAll_bl {K : PySem.W.Frag} {H : Hp} : ∀ bs : List Bool, DpAll K H (bs.map V.bl) (bs.map PyData.bool)
  | [] => .nil
  | b :: bs => .cons (.bl b) (dpAll_bl bs)
theorem plain_bl : ∀ bs : List Bool, PyData.plainAll (bs.map PyData.bool) = true
  | [] => rfl
  | b :: bs => by
    rw [List.map_cons, PyData.plainAll, plain_bl bs]
    rfl
theorem depth_bl : ∀ bs : List Bool, PyData.depthAll (bs.map PyData.bool) ≤ 1
  | [] => by simp [PyData.depthAll]
  | b :: bs => by
    have h := depth_bl bs
    rw [List.map_cons, PyData.depthAll]
    simp [PyData.depth]
    omega
theorem mt_countB {X : Cx} (hu : X.A.units + 65 < cLine) : MtR X "list.count" (rCntB X.K) := by
  intro pins s σ H x xs v us Q I rx rxs h
  obtain ⟨a, bs, rfl, rfl, hs, q⟩ := h
  cases rx
  cases rxs with
  | cons ry rt =>
    cases rt
    cases ry
    obtain ⟨its, rv, pl, _⟩ := I.list hs
    obtain ⟨as, h4⟩ := Dp.readsAll I (bs.map .bool) _ its (dpAll_bl bs) rv
    obtain ⟨ys, r1⟩ := Dp.reads I (.bool true) (.bl true) (.bool true) (.bl true) rfl
    refine SeqAt.count_list_data (d := .bool true) (xs := bs.map .bool) pl.isList (by simpa using h4) r1 (plain_bl bs) rfl (by have := depth_bl bs; omega) ?_
    refine ⟨.int ((bs.countP id : Nat) : Int), H, I.tok _, ⟨s.toks, ?_⟩, q⟩
    have e : (bs.map PyData.bool).countP (fun y => PyData.eqv y (.bool true)) = bs.countP id := by
      rw [List.countP_map]
      congr 1
      funext b
      cases b <;> rfl
    rw [e]
theorem rm_countB {K : PySem.W.Frag} {bs : List Bool} : RM (rCntB K) (.list (bs.map .bool)) [.bool true] (.int ((bs.countP id : Nat) : Int)) := fun a vs G H gh ia iv Q q => by
  cases ia with
  | lst e is =>
    rw [isAll_bl is] at e
    cases iv with
    | cons h hr =>
      cases hr
      cases h
      exact ⟨_, bs, rfl, rfl, .of (gh _ _ e), q.here gh (.int _)⟩
/-! ### the law's own neighbours -/
def distI (a b : Nat) : Int := if (a : Int) - b < 0 then -((a : Int) - b) else (a : Int) - b
def nearB (p q : Cl) : Bool := decide (distI q.1 p.1 + distI q.2 p.2 = 1)
def nearR (w : Nat) (p : Cl) (r : Nat) : List Cl := ((List.range w).filter fun k => nearB p (r, k)).map fun k => (r, k)
def nearL (h w : Nat) (p : Cl) : List Cl := (List.range h).flatMap (nearR w p)
theorem nearB_iff {p q : Cl} : nearB p q = true ↔ (q.1 = p.1 ∧ (q.2 + 1 = p.2 ∨ q.2 = p.2 + 1)) ∨ (q.2 = p.2 ∧ (q.1 + 1 = p.1 ∨ q.1 = p.1 + 1)) := by
  unfold nearB distI
  rw [decide_eq_true_iff]
  constructor
  · intro h
    split at h <;> split at h <;> omega
  · intro h
    split <;> split <;> omega
theorem mem_near {h w : Nat} {p q : Cl} : q ∈ nearL h w p ↔ q.1 < h ∧ q.2 < w ∧ nearB p q = true := by
  unfold nearL nearR
  obtain ⟨a, b⟩ := q
  simp only [List.mem_flatMap, List.mem_range, List.mem_map, List.mem_filter, Prod.mk.injEq]
  constructor
  · rintro ⟨r, hr, k, ⟨hk, hn⟩, rfl, rfl⟩
    exact ⟨hr, hk, hn⟩
  · rintro ⟨h1, h2, h3⟩
    exact ⟨a, h1, b, ⟨h2, h3⟩, rfl, rfl⟩
theorem mem_nb {h w : Nat} {p q : Cl} (h1 : p.1 < h) (h2 : p.2 < w) : q ∈ nb h w p ↔ q.1 < h ∧ q.2 < w ∧ nearB p q = true := by
  rw [nearB_iff]
  obtain ⟨a, b⟩ := q
  obtain ⟨r, k⟩ := p
  have h1 : r < h := h1
  have h2 : k < w := h2
  unfold nb
  simp only [List.mem_append]
  constructor
  · intro z
    rcases z with ((z | z) | z) | z <;> split at z <;> simp at z <;> refine ⟨?_, ?_, ?_⟩ <;> dsimp only at * <;> omega
  · rintro ⟨z1, z2, z⟩
    have z1 : a < h := z1
    have z2 : b < w := z2
    have z : (a = r ∧ (b + 1 = k ∨ b = k + 1)) ∨ (b = k ∧ (a + 1 = r ∨ a = r + 1)) := z
    rcases z with ⟨e, f | f⟩ | ⟨e, f | f⟩
    · exact .inl (.inl (.inr (by rw [if_pos (show 1 ≤ k by omega)]; simp; omega)))
    · exact .inl (.inr (by rw [if_pos (show k + 1 < w by omega)]; simp; omega))
    · exact .inl (.inl (.inl (by rw [if_pos (show 1 ≤ r by omega)]; simp; omega)))
    · exact .inr (by rw [if_pos (show r + 1 < h by omega)]; simp; omega)
theorem nodup_nb {h w : Nat} {p : Cl} : (nb h w p).Nodup := by
  obtain ⟨r, k⟩ := p
  unfold nb
  dsimp only
  split <;> split <;> split <;> split <;> simp <;> omega
theorem nodup_near {h w : Nat} {p : Cl} : (nearL h w p).Nodup := by
  unfold nearL
  induction h with
  | zero => exact List.nodup_nil
  | succ h ih =>
    rw [List.range_succ, List.flatMap_append, List.nodup_append]
    refine ⟨ih, ?_, fun x hx y hy e => ?_⟩
    · rw [List.flatMap_cons, List.flatMap_nil, List.append_nil]
      unfold nearR
      exact List.Pairwise.map _ (fun a b z e => z (congrArg Prod.snd e)) (List.Nodup.sublist (List.filter_sublist) List.nodup_range)
    · subst e
      rw [List.flatMap_cons, List.flatMap_nil, List.append_nil] at hy
      unfold nearR at hx hy
      simp only [List.mem_flatMap, List.mem_map, List.mem_filter, List.mem_range] at hx hy
      obtain ⟨r, hr, _, _, rfl⟩ := hx
      obtain ⟨_, _, e⟩ := hy
      have := congrArg Prod.fst e
      simp at this
      omega
theorem near_perm {h w : Nat} {p : Cl} (h1 : p.1 < h) (h2 : p.2 < w) : (nearL h w p).Perm (nb h w p) :=
  (List.perm_ext_iff_of_nodup nodup_near nodup_nb).mpr fun q => mem_near.trans (mem_nb h1 h2).symm
def P__law_free (K : PySem.W.Frag) := P_free_cells K
def P__law_ice (K : PySem.W.Frag) := P_ice_at K
def P__law_laid (K : PySem.W.Frag) := P_drawn K
def P__law_near (K : PySem.W.Frag) (ds : List D) (r : Rz) : Prop := ∃ b p, ds = [dB b, dC p] ∧ Wf b ∧ p.1 < hgt b ∧ p.2 < wid b ∧ r = .inl (.list ((nearL (hgt b) (wid b) p).map dC))
def P__law_ticked (K : PySem.W.Frag) (ds : List D) (r : Rz) : Prop := ∃ b, ds = [dB b] ∧ Wf b ∧ r = .inl (dB (tick b))
abbrev N__law_free : List Str := ["_law_board", "_law_found", "_law_number", "_law_signs", "_law_column", "_law_sign"]
def t__law_free (K : PySem.W.Frag) (w : World) (E : XK) : TS := (tSeq (tAsg (tLst tNil) (gName 1))
 (tSeq (tFor (iEnumU K (tCons (tVar 0) tNil)) (gTup K 2 (gCons (gName 2) (gCons (gName 3) gNil))) (tAsg (tOp (rAddU K) (tVar 1) (tLc (iEnumU K (tCons (tVar 3) tNil)) (gTup K 2 (gCons (gName 4) (gCons (gName 5) gNil))) (tTest (tOp (rInU K) (tVar 5) (tC (.str "#.")))) (tTup (tCons (tVar 2) (tCons (tVar 4) tNil))) [4, 5])) (gName 1)))
 (tRet (tVar 1))))
abbrev N__law_ice : List Str := ["_law_board", "_law_cell_here"]
def t__law_ice (K : PySem.W.Frag) (w : World) (E : XK) : TS := (tRet (tOp (rInU K) (tOp (rIx K) (tOp (rIx K) (tVar 0) (tOp (rIx K) (tVar 1) (tC (.int 0)))) (tOp (rIx K) (tVar 1) (tC (.int 1)))) (tC (.str "#*"))))
abbrev N__law_near : List Str := ["_law_board", "_law_cell_here", "_law_found", "_law_number", "_law_signs", "_law_column"]
def t__law_near (K : PySem.W.Frag) (w : World) (E : XK) : TS := (tSeq (tAsg (tLst tNil) (gName 2))
 (tSeq (tFor (iEnumU K (tCons (tVar 0) tNil)) (gTup K 2 (gCons (gName 3) (gCons (gName 4) gNil))) (tFor (iRng1 (tCons (tCB (rLen K) (tCons (tVar 4) tNil)) tNil)) (gName 5) (tIfS (tTest (tOp (rEqD K) (tOp (rAddU K) (tCB rAbs (tCons (tOp (rI0 fun i j => .int (i - j)) (tVar 3) (tOp (rIx K) (tVar 1) (tC (.int 0)))) tNil)) (tCB rAbs (tCons (tOp (rI0 fun i j => .int (i - j)) (tVar 5) (tOp (rIx K) (tVar 1) (tC (.int 1)))) tNil))) (tC (.int 1)))) (tDrop (tBM K "list" rAppend (tVar 2) (tCons (tTup (tCons (tVar 3) (tCons (tVar 5) tNil))) tNil))) tNext)))
 (tRet (tVar 2))))
abbrev N__law_laid : List Str := ["_law_board", "_law_some", "_law_found", "_law_number", "_law_signs", "_law_made", "_law_column", "_law_sign"]
def t__law_laid (K : PySem.W.Frag) (w : World) (E : XK) : TS := (tSeq (tAsg (tLst tNil) (gName 2))
 (tSeq (tFor (iEnumU K (tCons (tVar 0) tNil)) (gTup K 2 (gCons (gName 3) (gCons (gName 4) gNil))) (tSeq (tAsg (tLst tNil) (gName 5))
 (tSeq (tFor (iEnumU K (tCons (tVar 4) tNil)) (gTup K 2 (gCons (gName 6) (gCons (gName 7) gNil))) (tDrop (tBM K "list" rAppend (tVar 5) (tCons (tIf (tTest (tOp (rInU K) (tVar 7) (tC (.str "*o")))) (tVar 7) (tIf (tTest (tOp (rInU K) (tTup (tCons (tVar 3) (tCons (tVar 6) tNil))) (tVar 1))) (tC (.str "#")) (tC (.str ".")))) tNil))))
 (tDrop (tBM K "list" rAppend (tVar 2) (tCons (tM1 (rJoin K) (tC (.str "")) (tVar 5)) tNil))))))
 (tRet (tCB (rTupleOf K) (tCons (tVar 2) tNil)))))
abbrev N__law_ticked : List Str := ["_law_board", "_law_some", "_law_cell_here", "_law_near_here", "_law_ice_here", "_law_water", "_law_one"]
def t__law_ticked (K : PySem.W.Frag) (w : World) (E : XK) : TS := (tSeq (tAsg (tLst tNil) (gName 1))
 (tSeq (tFor (iAny K (tCall (spF (P__law_free K)) [] E (tCons (tVar 0) tNil))) (gName 2) (tSeq (tAsg (tLc (iAny K (tCall (spF (P__law_near K)) [] E (tCons (tVar 0) (tCons (tVar 2) tNil)))) (gName 6) tYes (tCall (spF (P__law_ice K)) [] E0 (tCons (tVar 0) (tCons (tVar 6) tNil))) [6]) (gName 3))
 (tSeq (tAsg (tBM K "list" (rCntB K) (tVar 3) (tCons (tC (.bl true)) tNil)) (gName 4))
 (tSeq (tAsg (tOp (rI0 fun i j => .int (i - j)) (tCB (rLen K) (tCons (tVar 3) tNil)) (tVar 4)) (gName 5))
 (tIfS (tOr (tTest (tOp (rGtU K) (tVar 4) (tVar 5))) (tAnd (tTest (tOp (rEqD K) (tVar 4) (tVar 5))) (tB (tCall (spF (P__law_ice K)) [] E (tCons (tVar 0) (tCons (tVar 2) tNil)))))) (tDrop (tBM K "list" rAppend (tVar 1) (tCons (tVar 2) tNil))) tNext)))))
 (tRet (tCall (spF (P__law_laid K)) [] E (tCons (tVar 0) (tCons (tVar 1) tNil))))))
section
variable {K : PySem.W.Frag} {w : World} {vs : List V} {H : Hp} {Q : VK} {E : XK} {c : Cfg} {ρ ρ1 : Env} {te tr : TE} {b : Bd}
theorem len__law_free (h : spF (P__law_free K) vs H Q E) : vs.length = 1 := len_free_cells h
theorem len__law_ice (h : spF (P__law_ice K) vs H Q E) : vs.length = 2 := len_ice_at h
theorem len__law_laid (h : spF (P__law_laid K) vs H Q E) : vs.length = 2 := len_drawn h
theorem len__law_near (h : spF (P__law_near K) vs H Q E) : vs.length = 2 := spF_len (fun ds r p => by obtain ⟨_, _, e, _⟩ := p; rw [e]; rfl) h
theorem len__law_ticked (h : spF (P__law_ticked K) vs H Q E) : vs.length = 1 := spF_len (fun ds r p => by obtain ⟨_, e, _⟩ := p; rw [e]; rfl) h
theorem body__law_free (h : spF (P__law_free K) vs H Q E) : t__law_free K w E { nx := fun _ H' => Q .non H', rt := Q } (L2.start N__law_free vs) H := body_free_cells (w := w) h
theorem body__law_ice (h : spF (P__law_ice K) vs H Q E) : t__law_ice K w E { nx := fun _ H' => Q .non H', rt := Q } (L2.start N__law_ice vs) H := body_ice_at (w := w) h
end
end Fb

/-! The law's own neighbours, laying, ticking: their bodies. -/
namespace Fb
open PySem PySem.Spec PyProof.Rows L2
section
variable {K : PySem.W.Frag} {w : World} {vs : List V} {H : Hp} {Q : VK} {E : XK} {c : Cfg} {ρ ρ1 ρ2 : Env} {te tr : TE} {b : Bd}
theorem ev_abs {i : Int} (h : EvX c te ρ ρ1 (.int i)) : EvX c (tCB rAbs (tCons te tNil)) ρ ρ1 (.int (if i < 0 then -i else i)) := ev_cb (ea_cons h ea_nil) rc_abs
theorem body__law_near (h : spF (P__law_near K) vs H Q E) : t__law_near K w E { nx := fun _ H' => Q .non H', rt := Q } (L2.start N__law_near vs) H := pure_of (t := t__law_near K w) (fun E ds r q => by
  obtain ⟨b, p, rfl, W, h1, h2, rfl⟩ := q
  have hh := W.h4
  have hw := W.w4
  refine giv (ρ1 := [.dat (dB b), .dat (dC p), .dat (.list ((nearL (hgt b) (wid b) p).map dC)), .un, .un, .un]) (exs_own (c := ⟨K, [], [], E⟩) (ρ := env0 N__law_near [dB b, dC p]) (i := 2) fun pa => ?_)
  have lp := exs_enum (c := ⟨K, [], [], E⟩) (ρ := [.dat (dB b), .dat (dC p), .own pa [], .un, .un, .un]) (wi := iEnumU K (tCons (tVar 0) tNil)) (j := 3) (k := 4)
    (t := tFor (iRng1 (tCons (tCB (rLen K) (tCons (tVar 4) tNil)) tNil)) (gName 5) (tIfS (tTest (tOp (rEqD K) (tOp (rAddU K) (tCB rAbs (tCons (tOp (rI0 fun i j => .int (i - j)) (tVar 3) (tOp (rIx K) (tVar 1) (tC (.int 0)))) tNil)) (tCB rAbs (tCons (tOp (rI0 fun i j => .int (i - j)) (tVar 5) (tOp (rIx K) (tVar 1) (tC (.int 1)))) tNil))) (tC (.int 1)))) (tDrop (tBM K "list" rAppend (tVar 2) (tCons (tTup (tCons (tVar 3) (tCons (tVar 5) tNil))) tNil))) tNext))
    b dR (fun i => [.dat (dB b), .dat (dC p), .own pa (((List.range i).flatMap (nearR (wid b) p)).map dC), .un, .un, .un]) (ui_enumT (ea_cons (ev_var rfl) ea_nil)) (OwnSub.refl _) [] (fun i hi => ?_)
  · exact exs_seq lp (exs_tell (i := 2) rfl (exs_ret (ev_var rfl) (OwnSub.refl _)))
  · have hrow := (W.row hi).2.1
    generalize hg : b.getD i [] = row at hrow ⊢
    generalize hds : ((List.range i).flatMap (nearR (wid b) p)).map dC = ds
    have hdl : ds.length ≤ 16 := by
      have hi4 : i < b.length := hi
      have key : ∀ n : Nat, ((List.range n).flatMap (nearR (wid b) p)).length ≤ n * 4 := fun n => by
        induction n with
        | zero => exact Nat.le_refl _
        | succ n ih =>
          rw [List.range_succ, List.flatMap_append, List.length_append, List.flatMap_cons, List.flatMap_nil, List.append_nil]
          have h3 : (nearR (wid b) p n).length ≤ wid b := by
            unfold nearR
            rw [List.length_map]
            refine Nat.le_trans (List.length_filter_le _ _) ?_
            rw [List.length_range]
            exact Nat.le_refl _
          omega
      rw [← hds, List.length_map]
      have := key i
      omega
    have inner := exs_range (c := ⟨K, [], [], E⟩) (ρ := [.dat (dB b), .dat (dC p), .own pa (ds ++ (((List.range 0).filter fun k => nearB p (i, k)).map fun k => (i, k)).map dC), .dat (.int (i : Nat)), .dat (dR row), .un]) (te := tCB (rLen K) (tCons (tVar 4) tNil)) (n := wid b) (j := 5)
      (t := tIfS (tTest (tOp (rEqD K) (tOp (rAddU K) (tCB rAbs (tCons (tOp (rI0 fun i j => .int (i - j)) (tVar 3) (tOp (rIx K) (tVar 1) (tC (.int 0)))) tNil)) (tCB rAbs (tCons (tOp (rI0 fun i j => .int (i - j)) (tVar 5) (tOp (rIx K) (tVar 1) (tC (.int 1)))) tNil))) (tC (.int 1)))) (tDrop (tBM K "list" rAppend (tVar 2) (tCons (tTup (tCons (tVar 3) (tCons (tVar 5) tNil))) tNil))) tNext)
      (fun j => [.dat (dB b), .dat (dC p), .own pa (ds ++ (((List.range j).filter fun k => nearB p (i, k)).map fun k => (i, k)).map dC), .dat (.int (i : Nat)), .dat (dR row), .un])
      (cl_len (ev_var rfl) (n := wid b) (by show some (tx row).length = _; rw [tx_len, hrow]) (by omega)) (by omega) (OwnSub.refl _) (fun j hj => ?_)
    · have e0 : ds ++ (((List.range 0).filter fun k => nearB p (i, k)).map fun k => (i, k)).map dC = ds := List.append_nil ds
      rw [e0] at inner
      refine exs_to inner ?_
      have e : ((List.range (i + 1)).flatMap (nearR (wid b) p)).map dC = ds ++ (((List.range (wid b)).filter fun k => nearB p (i, k)).map fun k => (i, k)).map dC := by
        rw [List.range_succ, List.flatMap_append, List.map_append, hds, List.flatMap_cons, List.flatMap_nil, List.append_nil]
        rfl
      rw [e]
      exact .eq (.eq (.eq (.un (.un (.un .nil)))))
    · have tst : EvT ⟨K, [], [], E⟩ (tTest (tOp (rEqD K) (tOp (rAddU K) (tCB rAbs (tCons (tOp (rI0 fun i j => .int (i - j)) (tVar 3) (tOp (rIx K) (tVar 1) (tC (.int 0)))) tNil)) (tCB rAbs (tCons (tOp (rI0 fun i j => .int (i - j)) (tVar 5) (tOp (rIx K) (tVar 1) (tC (.int 1)))) tNil))) (tC (.int 1))))
          [.dat (dB b), .dat (dC p), .own pa (ds ++ (((List.range j).filter fun k => nearB p (i, k)).map fun k => (i, k)).map dC), .dat (.int (i : Nat)), .dat (dR row), .dat (.int (j : Nat))] [.dat (dB b), .dat (dC p), .own pa (ds ++ (((List.range j).filter fun k => nearB p (i, k)).map fun k => (i, k)).map dC), .dat (.int (i : Nat)), .dat (dR row), .dat (.int (j : Nat))] (nearB p (i, j)) :=
        et_test (ev_op (ev_op (ev_abs (ev_op (ev_var rfl) (ev_op (ev_var rfl) ev_int (ux_ixT rfl)) ux_sub)) (ev_abs (ev_op (ev_var rfl) (ev_op (ev_var rfl) ev_int (ux_ixT rfl)) ux_sub)) ux_addI) ev_int gx_eqI)
      have hl2 : (ds ++ (((List.range j).filter fun k => nearB p (i, k)).map fun k => (i, k)).map dC).length < 100000 := by
        rw [List.length_append, List.length_map, List.length_map]
        have h3 := List.length_filter_le (fun k => nearB p (i, k)) (List.range j)
        rw [List.length_range] at h3
        omega
      rw [List.range_succ, List.filter_append]
      by_cases hb : nearB p (i, j) = true
      · rw [show [j].filter (fun k => nearB p (i, k)) = [j] from by simp [hb], List.map_append, List.map_append, ← List.append_assoc]
        exact exs_to (exs_if (b := true) (et_is tst hb) (OwnSub.refl _) (fun _ => exs_app (i := 2) (p := pa) rfl (ev_mk (p := (i, j)) (ev_var rfl) (ev_var rfl)) rfl (OwnSub.refl _) hl2 (fun h => by cases h)) (fun z => nomatch z)) (.eq (.eq (.eq (.eq (.eq (.un .nil))))))
      · have hf : nearB p (i, j) = false := by simpa using hb
        rw [show [j].filter (fun k => nearB p (i, k)) = [] from by simp [hf], List.append_nil]
        exact exs_to (exs_if (b := false) (et_is tst hf) (OwnSub.refl _) (fun z => nomatch z) (fun _ => exs_nil)) (.eq (.eq (.eq (.eq (.eq (.un .nil))))))) h
theorem body__law_laid (h : spF (P__law_laid K) vs H Q E) : t__law_laid K w E { nx := fun _ H' => Q .non H', rt := Q } (L2.start N__law_laid vs) H := pure_of (t := t__law_laid K w) (P := P_drawn K) (fun E ds r q => by
  obtain ⟨b, d, cs, rfl, hd, W, rfl⟩ := q
  have hh := W.h4
  have hw := W.w4
  refine giv (ρ1 := [.dat (dB b), .dat d, .dat (.list ((List.range (hgt b)).map fun r => dR (drawRow cs r (b.getD r [])))), .un, .un, .un, .un, .un]) (exs_own (c := ⟨K, [], [], E⟩) (ρ := env0 N__law_laid [dB b, d]) (i := 2) fun pa => ?_)
  have lp := exs_enum (c := ⟨K, [], [], E⟩) (ρ := [.dat (dB b), .dat d, .own pa [], .un, .un, .un, .un, .un]) (wi := iEnumU K (tCons (tVar 0) tNil)) (j := 3) (k := 4)
    (t := tSeq (tAsg (tLst tNil) (gName 5))
 (tSeq (tFor (iEnumU K (tCons (tVar 4) tNil)) (gTup K 2 (gCons (gName 6) (gCons (gName 7) gNil))) (tDrop (tBM K "list" rAppend (tVar 5) (tCons (tIf (tTest (tOp (rInU K) (tVar 7) (tC (.str "*o")))) (tVar 7) (tIf (tTest (tOp (rInU K) (tTup (tCons (tVar 3) (tCons (tVar 6) tNil))) (tVar 1))) (tC (.str "#")) (tC (.str ".")))) tNil))))
 (tDrop (tBM K "list" rAppend (tVar 2) (tCons (tM1 (rJoin K) (tC (.str "")) (tVar 5)) tNil)))))
    b dR (fun i => [.dat (dB b), .dat d, .own pa ((List.range i).map fun r => dR (drawRow cs r (b.getD r []))), .un, .un, .un, .un, .un]) (ui_enumT (ea_cons (ev_var rfl) ea_nil)) (OwnSub.refl _) [] (fun i hi => ?_)
  · exact exs_seq lp (exs_tell (i := 2) rfl (exs_ret (ev_is (ev_tupOf (c := ⟨K, [], [], E⟩) (ev_var rfl)) (by unfold dB drawn; rw [List.map_map]; rfl)) (OwnSub.refl _)))
  · have hrow := W.row hi
    generalize hg : b.getD i [] = row at hrow ⊢
    have hl : row.length ≤ 4 := by omega
    generalize hds : ((List.range i).map fun r => dR (drawRow cs r (b.getD r []))) = ds
    have hdl : ds.length = i := by rw [← hds, List.length_map, List.length_range]
    have hi4 : i < b.length := hi
    refine exs_own (c := ⟨K, [], [], E⟩) (i := 5) fun pm => ?_
    have inner := exs_enum (c := ⟨K, [], [], E⟩) (ρ := [.dat (dB b), .dat d, .own pa ds, .dat (.int (i : Nat)), .dat (dR row), .own pm [], .un, .un]) (wi := iEnumU K (tCons (tVar 4) tNil)) (j := 6) (k := 7)
      (t := tDrop (tBM K "list" rAppend (tVar 5) (tCons (tIf (tTest (tOp (rInU K) (tVar 7) (tC (.str "*o")))) (tVar 7) (tIf (tTest (tOp (rInU K) (tTup (tCons (tVar 3) (tCons (tVar 6) tNil))) (tVar 1))) (tC (.str "#")) (tC (.str ".")))) tNil)))
      row (fun k => dR [k]) (fun j => [.dat (dB b), .dat d, .own pa ds, .dat (.int (i : Nat)), .dat (dR row), .own pm (((List.range j).map (drawS cs i row)).map fun k => dR [k]), .un, .un]) (ui_enumS (x := tx row) (ea_cons (ev_var rfl) ea_nil)) (OwnSub.refl _) 0
      (fun j hj => by
        rw [List.range_succ, List.map_append, List.map_append]
        exact exs_to (exs_app (i := 5) (p := pm) (d := dR [drawS cs i row j]) rfl
          (ev_if (b := isStone (row.getD j 0)) (et_is (et_test (ev_op (ev_var rfl) (ev_str (i := "*o")) (ux_inS (K := K)))) (sgStone _)) (fun z => ev_is (ev_var rfl) (by unfold drawS; rw [if_pos z]))
            (fun z => ev_if (b := decide ((i, j) ∈ cs)) (et_test (ev_inCells (c := ⟨K, [], [], E⟩) hd (ev_tp (ea_cons (ev_var rfl) (ea_cons (ev_var rfl) ea_nil))) (ev_var rfl)))
              (fun z2 => ev_is ev_str (by unfold drawS; rw [if_neg (by rw [z]; exact Bool.false_ne_true), if_pos (of_decide_eq_true z2), s35]; rfl)) (fun z2 => ev_is ev_str (by unfold drawS; rw [if_neg (by rw [z]; exact Bool.false_ne_true), if_neg (of_decide_eq_false z2), s46]; rfl))))
          rfl (OwnSub.refl _) (by rw [List.length_map, List.length_map, List.length_range]; omega) (fun h => by cases h)) (.eq (.eq (.eq (.eq (.eq (.eq (.un (.un .nil)))))))))
    refine exs_to (exs_seq inner (exs_tell (i := 5) rfl (exs_app (i := 2) (p := pa) (ds := ds) rfl (ev_joinS (c := ⟨K, [], [], E⟩) (l := (List.range row.length).map (drawS cs i row)) (ev_var rfl) (by rw [List.length_map, List.length_range]; omega)) rfl (OwnSub.refl _) (by omega) (fun h => by cases h)))) ?_
    have e : ((List.range (i + 1)).map fun r => dR (drawRow cs r (b.getD r []))) = ds ++ [dR ((List.range row.length).map (drawS cs i row))] := by
      rw [List.range_succ, List.map_append, hds, ← drawRow_eq, ← hg]
      rfl
    rw [e]
    exact .eq (.eq (.eq (.un (.un (.un (.un (.un .nil)))))))) h
theorem ev_lNear (W : Wf b) {p : Cl} (h1 : p.1 < hgt b) (h2 : p.2 < wid b) {E' : XK} (hb : EvX c te ρ ρ1 (dB b)) (hp : EvX c tr ρ1 ρ2 (dC p)) : EvX c (tCall (spF (P__law_near K)) [] E' (tCons te (tCons tr tNil))) ρ ρ2 (.list ((nearL (hgt b) (wid b) p).map dC)) :=
  ev_call (P := P__law_near K) (ea_cons hb (ea_cons hp ea_nil)) ⟨b, p, rfl, W, h1, h2, rfl⟩
theorem ev_lIce (W : Wf b) {p : Cl} (h1 : p.1 < hgt b) (h2 : p.2 < wid b) {E' : XK} (hb : EvX c te ρ ρ1 (dB b)) (hp : EvX c tr ρ1 ρ2 (dC p)) : EvX c (tCall (spF (P__law_ice K)) [] E' (tCons te (tCons tr tNil))) ρ ρ2 (.bool (iceAt b p)) := ev_ice W h1 h2 hb hp
theorem ev_lFree (W : Wf b) {E' : XK} (hb : EvX c te ρ ρ1 (dB b)) : EvX c (tCall (spF (P__law_free K)) [] E' (tCons te tNil)) ρ ρ1 (.list ((free b).map dC)) := ev_free W hb
theorem ev_lLaid {d : D} {cs : List Cl} (hd : CellsD d cs) (W : Wf b) {E' : XK} (hb : EvX c te ρ ρ1 (dB b)) (h2 : EvX c tr ρ1 ρ2 d) : EvX c (tCall (spF (P__law_laid K)) [] E' (tCons te (tCons tr tNil))) ρ ρ2 (dB (drawn b cs)) := ev_drawn hd W hb h2
theorem ev_lTick (W : Wf b) {E' : XK} (hb : EvX c te ρ ρ1 (dB b)) : EvX c (tCall (spF (P__law_ticked K)) [] E' (tCons te tNil)) ρ ρ1 (dB (tick b)) := ev_call (P := P__law_ticked K) (ea_cons hb ea_nil) ⟨b, rfl, W, rfl⟩
/-- whether a free cell is ice after a tick -/
def turnsIce (b : Bd) (c : Cl) : Bool :=
  let n := (nb (hgt b) (wid b) c).length
  let k := (nb (hgt b) (wid b) c).countP fun q => iceAt b q
  decide (n < 2 * k) || (decide (2 * k = n) && iceAt b c)
theorem tick_drawn (W : Wf b) : drawn b ((free b).filter (turnsIce b)) = tick b := by
  unfold drawn tick
  refine List.map_congr_left fun r hr => ?_
  rw [List.mem_range] at hr
  rw [drawRow_eq, (W.row hr).2.1]
  refine List.map_congr_left fun k hk => ?_
  rw [List.mem_range] at hk
  have es : (b.getD r []).getD k 0 = sgn b (r, k) := rfl
  have hsg := (W.sgn_at (p := (r, k)) hr hk).2
  unfold drawS
  rw [es, nextAt_eq]
  by_cases hs : isStone (sgn b (r, k)) = true
  · rw [if_pos hs, if_pos hs]
  · rw [if_neg hs, if_neg hs]
    have hfr : isFree (sgn b (r, k)) = true := by
      simp at hs hsg ⊢
      omega
    have hm : (r, k) ∈ (free b).filter (turnsIce b) ↔ turnsIce b (r, k) = true := by
      rw [List.mem_filter]
      exact ⟨fun h => h.2, fun h => ⟨W.mem_free.mpr ⟨hr, hk, hfr⟩, h⟩⟩
    have hval : (if (r, k) ∈ (free b).filter (turnsIce b) then 35 else 46) = if turnsIce b (r, k) = true then 35 else 46 := by
      by_cases ht : turnsIce b (r, k) = true
      · rw [if_pos (hm.mpr ht), if_pos ht]
      · rw [if_neg (fun z => ht (hm.mp z)), if_neg ht]
    rw [hval]
    unfold turnsIce
    simp only [Bool.or_eq_true, Bool.and_eq_true, decide_eq_true_eq]
    generalize (nb (hgt b) (wid b) (r, k)).countP (fun q => iceAt b q) = x
    generalize (nb (hgt b) (wid b) (r, k)).length = n
    unfold iceAt
    by_cases c1 : 2 * x = n
    · rw [if_pos c1]
      simp at hfr
      rcases hfr with e | e
      · rw [e, if_pos (.inr ⟨c1, rfl⟩)]
      · rw [e, if_neg (fun z => z.elim (fun z => by omega) (fun z => by simp at z))]
    · rw [if_neg c1]
      by_cases c2 : n < 2 * x
      · rw [if_pos (.inl c2), if_pos c2]
      · rw [if_neg (fun z => z.elim c2 (fun z => c1 z.1)), if_neg c2]
end
end Fb

/-! The law's own tick. -/
namespace Fb
open PySem PySem.Spec PyProof.Rows L2
section
variable {K : PySem.W.Frag} {w : World} {vs : List V} {H : Hp} {Q : VK} {E : XK} {c : Cfg} {ρ ρ1 ρ2 : Env} {te tr : TE} {b : Bd}
theorem body__law_ticked (h : spF (P__law_ticked K) vs H Q E) : t__law_ticked K w E { nx := fun _ H' => Q .non H', rt := Q } (L2.start N__law_ticked vs) H := pure_of (t := t__law_ticked K w) (fun E ds r q => by
  obtain ⟨b, rfl, W, rfl⟩ := q
  have hfl := W.free_len
  refine giv (ρ1 := [.dat (dB b), .dat (.list (((free b).filter (turnsIce b)).map dC)), .un, .un, .un, .un, .un]) (exs_own (c := ⟨K, [], [], E⟩) (ρ := env0 N__law_ticked [dB b]) (i := 1) fun pa => ?_)
  have lp := exs_list (c := ⟨K, [], [], E⟩) (ρ := [.dat (dB b), .own pa [], .un, .un, .un, .un, .un]) (wi := iAny K (tCall (spF (P__law_free K)) [] E (tCons (tVar 0) tNil))) (j := 2)
    (t := tSeq (tAsg (tLc (iAny K (tCall (spF (P__law_near K)) [] E (tCons (tVar 0) (tCons (tVar 2) tNil)))) (gName 6) tYes (tCall (spF (P__law_ice K)) [] E0 (tCons (tVar 0) (tCons (tVar 6) tNil))) [6]) (gName 3))
 (tSeq (tAsg (tBM K "list" (rCntB K) (tVar 3) (tCons (tC (.bl true)) tNil)) (gName 4))
 (tSeq (tAsg (tOp (rI0 fun i j => .int (i - j)) (tCB (rLen K) (tCons (tVar 3) tNil)) (tVar 4)) (gName 5))
 (tIfS (tOr (tTest (tOp (rGtU K) (tVar 4) (tVar 5))) (tAnd (tTest (tOp (rEqD K) (tVar 4) (tVar 5))) (tB (tCall (spF (P__law_ice K)) [] E (tCons (tVar 0) (tCons (tVar 2) tNil)))))) (tDrop (tBM K "list" rAppend (tVar 1) (tCons (tVar 2) tNil))) tNext))))
    (free b) dC (fun i => [.dat (dB b), .own pa ((((free b).take i).filter (turnsIce b)).map dC), .un, .un, .un, .un, .un]) (ui_list (ev_lFree W (ev_var rfl))) (OwnSub.refl _) (0, 0) (fun i hi => ?_)
  · rw [List.take_length] at lp
    exact exs_seq lp (exs_tell (i := 1) rfl (exs_ret (ev_is (ev_lLaid (.inl rfl) W (ev_var rfl) (ev_var rfl)) (by rw [tick_drawn W])) (OwnSub.refl _)))
  · have ei : (free b).getD i (0, 0) = (free b)[i] := by rw [List.getD_eq_getElem?_getD, List.getElem?_eq_getElem hi]; rfl
    rw [ei, filter_take (turnsIce b) _ i hi]
    have hmem := W.mem_free.mp (List.getElem_mem hi)
    generalize (free b)[i] = p at hmem ⊢
    obtain ⟨h1, h2, _⟩ := hmem
    have hlen : ((((free b).take i).filter (turnsIce b)).map dC).length ≤ 12 := by
      rw [List.length_map]
      refine Nat.le_trans (List.length_filter_le _ _) ?_
      rw [List.length_take]; omega
    generalize hds : (((free b).take i).filter (turnsIce b)).map dC = ds at hlen
    have pm := near_perm (h := hgt b) (w := wid b) h1 h2
    have nl : (nearL (hgt b) (wid b) p).length = (nb (hgt b) (wid b) p).length := pm.length_eq
    have nc : ((nearL (hgt b) (wid b) p).map fun q => iceAt b q).countP id = (nb (hgt b) (wid b) p).countP fun q => iceAt b q := by
      rw [List.countP_map]
      exact pm.countP_eq _
    have n4 : (nb (hgt b) (wid b) p).length ≤ 4 := by
      unfold nb
      simp only [List.length_append]
      split <;> split <;> split <;> split <;> simp
    have tst : ∀ {ρ : Env}, ρ[0]? = some (.dat (dB b)) → ρ[2]? = some (.dat (dC p)) → ρ[4]? = some (.dat (.int (((nb (hgt b) (wid b) p).countP fun q => iceAt b q : Nat) : Int))) → ρ[5]? = some (.dat (.int (((nb (hgt b) (wid b) p).length : Nat) - ((nb (hgt b) (wid b) p).countP fun q => iceAt b q : Nat) : Int))) →
        EvT ⟨K, [], [], E⟩ (tOr (tTest (tOp (rGtU K) (tVar 4) (tVar 5))) (tAnd (tTest (tOp (rEqD K) (tVar 4) (tVar 5))) (tB (tCall (spF (P__law_ice K)) [] E (tCons (tVar 0) (tCons (tVar 2) tNil)))))) ρ ρ (turnsIce b p) := fun z0 z2 z4 z5 =>
      et_or (et_is (et_test (ev_op (ev_var z4) (ev_var z5) ux_gtI)) (decide_eq_decide.mpr (by omega))) (fun _ => et_and (et_is (et_test (ev_op (ev_var z4) (ev_var z5) gx_eqI)) (decide_eq_decide.mpr (by omega))) (fun _ => et_B (ev_lIce W h1 h2 (ev_var z0) (ev_var z2))))
    have bl : EvX ⟨K, [], [], E⟩ (tLc (iAny K (tCall (spF (P__law_near K)) [] E (tCons (tVar 0) (tCons (tVar 2) tNil)))) (gName 6) tYes (tCall (spF (P__law_ice K)) [] E0 (tCons (tVar 0) (tCons (tVar 6) tNil))) [6])
        [.dat (dB b), .own pa ds, .dat (dC p), .un, .un, .un, .un] [.dat (dB b), .own pa ds, .dat (dC p), .un, .un, .un, .un] (.list (((nearL (hgt b) (wid b) p).map fun q => iceAt b q).map .bool)) := by
      rw [List.map_map]
      exact ev_lcA (c := ⟨K, [], [], E⟩) (nearL (hgt b) (wid b) p) dC (fun q => .bool (iceAt b q)) (fun q ρ => ρ.set 6 (.dat (dC q))) [6] (ui_list (ev_lNear W h1 h2 (ev_var rfl) (ev_var rfl))) (by omega) rfl (fun _ _ => tg_name) (fun _ h => h)
        (fun q hq => by
          obtain ⟨q1, q2, _⟩ := mem_near.mp hq
          exact ev_lIce W q1 q2 (ev_var rfl) (ev_var rfl))
    have st : ∀ {o : Out}, ExS ⟨K, [], [], E⟩ (tIfS (tOr (tTest (tOp (rGtU K) (tVar 4) (tVar 5))) (tAnd (tTest (tOp (rEqD K) (tVar 4) (tVar 5))) (tB (tCall (spF (P__law_ice K)) [] E (tCons (tVar 0) (tCons (tVar 2) tNil)))))) (tDrop (tBM K "list" rAppend (tVar 1) (tCons (tVar 2) tNil))) tNext)
        [.dat (dB b), .own pa ds, .dat (dC p), .dat (.list (((nearL (hgt b) (wid b) p).map fun q => iceAt b q).map .bool)), .dat (.int (((nb (hgt b) (wid b) p).countP fun q => iceAt b q : Nat) : Int)), .dat (.int (((nb (hgt b) (wid b) p).length : Nat) - ((nb (hgt b) (wid b) p).countP fun q => iceAt b q : Nat) : Int)), .un] o →
      ExS ⟨K, [], [], E⟩ (tSeq (tAsg (tLc (iAny K (tCall (spF (P__law_near K)) [] E (tCons (tVar 0) (tCons (tVar 2) tNil)))) (gName 6) tYes (tCall (spF (P__law_ice K)) [] E0 (tCons (tVar 0) (tCons (tVar 6) tNil))) [6]) (gName 3))
 (tSeq (tAsg (tBM K "list" (rCntB K) (tVar 3) (tCons (tC (.bl true)) tNil)) (gName 4))
 (tSeq (tAsg (tOp (rI0 fun i j => .int (i - j)) (tCB (rLen K) (tCons (tVar 3) tNil)) (tVar 4)) (gName 5))
 (tIfS (tOr (tTest (tOp (rGtU K) (tVar 4) (tVar 5))) (tAnd (tTest (tOp (rEqD K) (tVar 4) (tVar 5))) (tB (tCall (spF (P__law_ice K)) [] E (tCons (tVar 0) (tCons (tVar 2) tNil)))))) (tDrop (tBM K "list" rAppend (tVar 1) (tCons (tVar 2) tNil))) tNext)))) [.dat (dB b), .own pa ds, .dat (dC p), .un, .un, .un, .un] o := fun z =>
      exs_seq (exs_set bl (OwnSub.refl _)) (exs_seq (exs_set (ev_is (ev_bmL (ev_var rfl) (ea_cons ev_bl ea_nil) rm_countB) (by rw [nc])) (OwnSub.refl _))
        (exs_seq (exs_set (ev_op (cl_len (ev_var rfl) (n := (nb (hgt b) (wid b) p).length) (by show some (List.length _) = _; rw [List.length_map, List.length_map, nl]) (by omega)) (ev_var rfl) ux_sub) (OwnSub.refl _)) z))
    by_cases ht : turnsIce b p = true
    · rw [if_pos ht, List.map_append, hds]
      exact exs_to (st (exs_if (b := true) (et_is (tst rfl rfl rfl rfl) ht) (OwnSub.refl _) (fun _ => exs_app (i := 1) (p := pa) (ds := ds) rfl (ev_var rfl) rfl (OwnSub.refl _) (by omega) (fun h => by cases h)) (fun z => nomatch z))) (.eq (.eq (.un (.un (.un (.un (.un .nil)))))))
    · have hf : turnsIce b p = false := by simpa using ht
      rw [if_neg ht, List.append_nil, hds]
      exact exs_to (st (exs_if (b := false) (et_is (tst rfl rfl rfl rfl) hf) (OwnSub.refl _) (fun z => nomatch z) (fun _ => exs_nil))) (.eq (.eq (.un (.un (.un (.un (.un .nil)))))))) h
end
end Fb

/-! The law's any board: what falls is told by the dice. -/
namespace Fb
open PySem PySem.Spec PyProof.Rows L2
section
variable {c : Cfg} {ρ ρ1 : Env} {wi : TI} {g : TG} {tt : TT} {te : TE} {vs : List Nat}
/-- a comprehension whose turns roll the dice at p (slot i): the course F of dice and outcomes is given -/
theorem ev_lcF {i : Nat} {p : Addr} {items : List D} (f : Nat → Env → Env) (js : Nat → List Nat) (F : Nat → (Int × Int) × (Bool × D)) (hρ : ρ[i]? = some (.obj p (dice (F 0).1.1 (F 0).1.2))) (hB : c.B = [p]) (hi : EvI c wi ρ ρ items) (hn : items.length ≤ 100000)
    (hg : ∀ (k : Nat) (d : D), items[k]? = some d → TgX g d (f k) (js k) ∧ ∀ j ∈ js k, j ∈ vs)
    (F2 : ∀ k, k < items.length → ∃ (ρ1 ρ2 : Env), EvT c tt (f k (wipeE (ρ.set i (.obj p (dice (F k).1.1 (F k).1.2))) vs)) ρ1 (F (k + 1)).2.1 ∧ ((F (k + 1)).2.1 = true → EvX c te ρ1 ρ2 (F (k + 1)).2.2 ∧ ρ2[i]? = some (.obj p (dice (F (k + 1)).1.1 (F (k + 1)).1.2))) ∧ ((F (k + 1)).2.1 = false → ρ1[i]? = some (.obj p (dice (F (k + 1)).1.1 (F (k + 1)).1.2)))) :
    EvX c (tLc wi g tt te vs) ρ (ρ.set i (.obj p (dice (F items.length).1.1 (F items.length).1.2))) (.list (picked ((List.range items.length).map fun k => (F (k + 1)).2))) := by
  have hR0 : ρ.set i (.obj p (dice (F 0).1.1 (F 0).1.2)) = ρ := by
    apply List.ext_getElem?
    intro k
    by_cases hk : i = k
    · subst hk
      rw [List.getElem?_set_self (List.getElem?_eq_some_iff.mp hρ).1, hρ]
    · rw [List.getElem?_set_ne hk]
  have hlt : i < ρ.length := (List.getElem?_eq_some_iff.mp hρ).1
  refine lc_gen (fun k => ρ.set i (.obj p (dice (F k).1.1 (F k).1.2))) (fun k => (F (k + 1)).2) (by simp only [hR0]; exact hi) hn (fun k l e q h1 h2 => ?_) (fun k d σ G H x Qn Qy hd ix s hn hy => ?_) (fun q hq => ?_)
  · rcases getset h1 with ⟨rfl, rfl, _⟩ | ⟨n1, k1⟩
    · exact ⟨_, List.getElem?_set_self hlt, h2⟩
    · exact ⟨e, by rw [List.getElem?_set_ne (Ne.symm n1)]; exact k1, h2⟩
  · have hk : k < items.length := (List.getElem?_eq_some_iff.mp hd).1
    obtain ⟨ρ1, ρ2, h1, h2, h3⟩ := F2 k hk
    obtain ⟨tg, hjs⟩ := hg k d hd
    obtain ⟨h, hw, hs, hq⟩ := tg (wipe σ vs) G H x ix s.gh
    have si : (ρ.set i (.obj p (dice (F k).1.1 (F k).1.2)))[i]? = some (.obj p (dice (F k).1.1 (F k).1.2)) := List.getElem?_set_self hlt
    have set2 : ∀ o', (ρ.set i (.obj p (dice (F k).1.1 (F k).1.2))).set i (.obj p o') = ρ.set i (.obj p o') := fun o' => List.set_set ..
    refine hq _ ⟨by rw [hw vs hjs]; exact wipe_wipe, ?_⟩
    refine h1 _ G H (hs _ _ _ (s.wipe vs)) _ fun G1 H1 g1 s1 => ?_
    cases hb : (F (k + 1)).2.1 with
    | true =>
      refine iteT ?_
      obtain ⟨e1, e2⟩ := h2 hb
      refine e1 _ G1 H1 s1 _ fun v G2 H2 g2 s2 i2 => ?_
      have gg := g1.trans g2
      rw [hB] at gg
      have h0 := (s2.ent i _ e2).2.1
      have s3 := s.grow1 si gg s2.gh h0 (fun _ z => by cases z)
      rw [set2] at s3
      exact hy v G2 H2 (g1.trans g2) s3 hb i2
    | false =>
      refine iteF ?_
      have e2 := h3 hb
      have gg := g1
      rw [hB] at gg
      have h0 := (s1.ent i _ e2).2.1
      have s3 := s.grow1 si gg s1.gh h0 (fun _ z => by cases z)
      rw [set2] at s3
      exact hn G1 H1 g1 s3 hb
  · rw [hB] at hq
    obtain rfl := List.mem_singleton.mp hq
    exact ⟨i, _, List.getElem?_set_self hlt, rfl⟩
end
/-! ### the dice's course -/
def nxt (m : Int) (s : Int × Int) : Int × Int := (rollA s.1 s.2 m, rollB s.1 s.2 m)
def rollK (m : Int) (s : Int × Int) : Nat := (rollV s.1 s.2 m).toNat
theorem rollK_lt {m : Int} (h : 0 < m) (s : Int × Int) : (rollK m s : Int) < m := by
  obtain ⟨h1, h2⟩ := rollV_in (a := s.1) (b := s.2) h
  unfold rollK
  rw [Int.toNat_of_nonneg h1]
  exact h2
theorem rollK_eq {m : Int} (h : 0 < m) (s : Int × Int) : ((rollK m s : Nat) : Int) = rollV s.1 s.2 m := Int.toNat_of_nonneg (rollV_in (a := s.1) (b := s.2) h).1
def dst (m : Int) : Nat → Int × Int → Int × Int
  | 0, s => s
  | k + 1, s => nxt m (dst m k s)
/-- rows, columns made smaller -/
def stp (x : Nat × Nat) : Nat × Nat := if x.2 ≤ x.1 then (x.1 - 1, x.2) else (x.1, x.2 - 1)
def itS : Nat → Nat × Nat → Nat × Nat
  | 0, x => x
  | n + 1, x => itS n (stp x)
def shrink (most : Nat) : Nat → Nat × Nat → Nat × Nat
  | 0, x => x
  | f + 1, x => if most < x.1 * x.2 then shrink most f (stp x) else x
theorem itS_succ : ∀ (n : Nat) (x : Nat × Nat), itS (n + 1) x = stp (itS n x)
  | 0, _ => rfl
  | n + 1, x => itS_succ n (stp x)
/-- the turns of the while -/
theorem shrink_it (most : Nat) : ∀ (f : Nat) (x : Nat × Nat), (itS f x).1 * (itS f x).2 ≤ most → ∃ n, n ≤ f ∧ shrink most f x = itS n x ∧ (itS n x).1 * (itS n x).2 ≤ most ∧ ∀ k, k < n → most < (itS k x).1 * (itS k x).2
  | 0, x, h => ⟨0, Nat.le_refl _, rfl, h, fun k hk => absurd hk (Nat.not_lt_zero _)⟩
  | f + 1, x, h => by
    unfold shrink
    by_cases hc : most < x.1 * x.2
    · rw [if_pos hc]
      obtain ⟨n, h1, h2, h3, h4⟩ := shrink_it most f (stp x) h
      refine ⟨n + 1, by omega, h2, h3, fun k hk => ?_⟩
      cases k with
      | zero => exact hc
      | succ k => exact h4 k (by omega)
    · rw [if_neg hc]
      exact ⟨0, by omega, rfl, by show x.1 * x.2 ≤ most; omega, fun k hk => absurd hk (Nat.not_lt_zero _)⟩
theorem it_pos {most : Nat} (hm : 1 ≤ most) : ∀ (n : Nat) (x : Nat × Nat), 1 ≤ x.1 → x.1 ≤ 4 → 1 ≤ x.2 → x.2 ≤ 4 → (∀ k, k < n → most < (itS k x).1 * (itS k x).2) → 1 ≤ (itS n x).1 ∧ (itS n x).1 ≤ 4 ∧ 1 ≤ (itS n x).2 ∧ (itS n x).2 ≤ 4
  | 0, x, h1, h2, h3, h4, _ => ⟨h1, h2, h3, h4⟩
  | n + 1, x, h1, h2, h3, h4, h => by
    obtain ⟨r, k⟩ := x
    have h1 : 1 ≤ r := h1
    have h2 : r ≤ 4 := h2
    have h3 : 1 ≤ k := h3
    have h4 : k ≤ 4 := h4
    have h0 : most < r * k := h 0 (Nat.succ_pos _)
    have key : 1 ≤ (stp (r, k)).1 ∧ (stp (r, k)).1 ≤ 4 ∧ 1 ≤ (stp (r, k)).2 ∧ (stp (r, k)).2 ≤ 4 := by
      unfold stp
      dsimp only
      by_cases hc : k ≤ r
      · rw [if_pos hc]
        have : r ≠ 1 := fun z => by subst z; have : k = 1 := by omega
                                    subst this; omega
        dsimp only
        omega
      · rw [if_neg hc]
        dsimp only
        omega
    exact it_pos hm n (stp (r, k)) key.1 key.2.1 key.2.2.1 key.2.2.2 fun j hj => h (j + 1) (by omega)
theorem it_six : ∀ r ∈ [1, 2, 3, 4], ∀ k ∈ [1, 2, 3, 4], (itS 6 (r, k)).1 * (itS 6 (r, k)).2 ≤ 1 := by decide
def sgs : List (List Nat) := [[35, 46], [35, 46, 35, 46, 35, 46, 42], [35, 46, 35, 46, 35, 46, 35, 46, 42, 111], [35, 35, 46], [35, 46, 46]]
def anyRC (s : Int × Int) (most : Nat) : Nat × Nat := shrink most 6 (1 + rollK 4 s, 1 + rollK 4 (nxt 4 s))
def anySg (s : Int × Int) : List Nat := sgs.getD (rollK 5 (dst 4 2 s)) []
def any0 (s : Int × Int) : Int × Int := nxt 5 (dst 4 2 s)
def anyRow (sg : List Nat) (n : Nat) (s : Int × Int) : List Nat := (List.range n).map fun k => sg.getD (rollK (sg.length : Nat) (dst (sg.length : Nat) k s)) 0
def anyAt (sg : List Nat) (n : Nat) : Nat → Int × Int → Int × Int
  | 0, s => s
  | i + 1, s => dst (sg.length : Nat) n (anyAt sg n i s)
def anyB (s : Int × Int) (most : Nat) : Bd := (List.range (anyRC s most).1).map fun i => anyRow (anySg s) (anyRC s most).2 (anyAt (anySg s) (anyRC s most).2 i (any0 s))
def anyEnd (s : Int × Int) (most : Nat) : Int × Int := anyAt (anySg s) (anyRC s most).2 (anyRC s most).1 (any0 s)
def P_any (a b : Int) (ds : List D) (z : D) (a' b' : Int) : Prop := ∃ most : Nat, ds = [.int (most : Nat)] ∧ 1 ≤ most ∧ most ≤ 12 ∧ z = dB (anyB (a, b) most) ∧ a' = (anyEnd (a, b) most).1 ∧ b' = (anyEnd (a, b) most).2
theorem rc_in (s : Int × Int) {most : Nat} (hm : 1 ≤ most) : ∃ n, anyRC s most = itS n (1 + rollK 4 s, 1 + rollK 4 (nxt 4 s)) ∧ (itS n (1 + rollK 4 s, 1 + rollK 4 (nxt 4 s))).1 * (itS n (1 + rollK 4 s, 1 + rollK 4 (nxt 4 s))).2 ≤ most ∧ (∀ k, k < n → most < (itS k (1 + rollK 4 s, 1 + rollK 4 (nxt 4 s))).1 * (itS k (1 + rollK 4 s, 1 + rollK 4 (nxt 4 s))).2) ∧
    ∀ k, k ≤ n → 1 ≤ (itS k (1 + rollK 4 s, 1 + rollK 4 (nxt 4 s))).1 ∧ (itS k (1 + rollK 4 s, 1 + rollK 4 (nxt 4 s))).1 ≤ 4 ∧ 1 ≤ (itS k (1 + rollK 4 s, 1 + rollK 4 (nxt 4 s))).2 ∧ (itS k (1 + rollK 4 s, 1 + rollK 4 (nxt 4 s))).2 ≤ 4 := by
  have h1 := rollK_lt (m := 4) (by decide) s
  have h2 := rollK_lt (m := 4) (by decide) (nxt 4 s)
  unfold anyRC
  generalize rollK 4 s = x at h1 ⊢
  generalize hy : rollK 4 (nxt 4 s) = y at h2 ⊢
  have h6 := it_six (1 + x) (by simp; omega) (1 + y) (by simp; omega)
  obtain ⟨n, e1, e2, e3, e4⟩ := shrink_it most 6 (1 + x, 1 + y) (Nat.le_trans h6 hm)
  refine ⟨n, e2, e3, e4, fun k hk => it_pos hm k (1 + x, 1 + y) (by show 1 ≤ 1 + x; omega) (by show 1 + x ≤ 4; omega) (by show 1 ≤ 1 + y; omega) (by show 1 + y ≤ 4; omega) fun j hj => e4 j (by omega)⟩
theorem sg_ok : ∀ sg ∈ sgs, 1 ≤ sg.length ∧ sg.length ≤ 10 ∧ ∀ x ∈ sg, isSign x = true := by decide
theorem anySg_in (s : Int × Int) : anySg s ∈ sgs := by
  have h := rollK_lt (m := 5) (by decide) (dst 4 2 s)
  unfold anySg
  have hl : rollK 5 (dst 4 2 s) < sgs.length := by show _ < 5; omega
  rw [List.getD_eq_getElem?_getD, List.getElem?_eq_getElem hl]
  exact List.getElem_mem hl
theorem anyB_wf (s : Int × Int) {most : Nat} (hm : 1 ≤ most) (h12 : most ≤ 12) : Wf (anyB s most) ∧ hgt (anyB s most) * wid (anyB s most) ≤ most ∧ hgt (anyB s most) = (anyRC s most).1 ∧ wid (anyB s most) = (anyRC s most).2 := by
  obtain ⟨n, e1, e2, e3, e4⟩ := rc_in s hm
  obtain ⟨p1, p2, p3, p4⟩ := e4 n (Nat.le_refl _)
  rw [← e1] at e2 p1 p2 p3 p4
  obtain ⟨g1, g2, g3⟩ := sg_ok _ (anySg_in s)
  have hh : hgt (anyB s most) = (anyRC s most).1 := by simp [anyB, hgt]
  have hrow : ∀ r ∈ anyB s most, r.length = (anyRC s most).2 ∧ ∀ k ∈ r, isSign k = true := fun r hr => by
    unfold anyB at hr
    obtain ⟨i, _, rfl⟩ := List.mem_map.mp hr
    refine ⟨by simp [anyRow], fun k hk => ?_⟩
    unfold anyRow at hk
    obtain ⟨j, _, rfl⟩ := List.mem_map.mp hk
    have hl := rollK_lt (m := ((anySg s).length : Nat)) (by omega) (dst ((anySg s).length : Nat) j (anyAt (anySg s) (anyRC s most).2 i (any0 s)))
    rw [List.getD_eq_getElem?_getD, List.getElem?_eq_getElem (by omega)]
    exact g3 _ (List.getElem_mem _)
  have hw : wid (anyB s most) = (anyRC s most).2 := by
    have hne : 0 < (anyB s most).length := by rw [show (anyB s most).length = _ from hh]; omega
    cases hb : anyB s most with
    | nil => rw [hb] at hne; simp at hne
    | cons r rest => exact (hrow r (by rw [hb]; exact List.mem_cons_self)).1
  have hL : (anyB s most).length = (anyRC s most).1 := hh
  exact ⟨⟨by rw [hL]; exact p1, by rw [hL]; exact p2, by rw [hw]; exact p3, by rw [hw]; exact p4, by rw [hL, hw, Nat.mul_comm]; omega, fun r hr => by rw [hw]; exact hrow r hr⟩, by rw [hh, hw]; exact e2, hh, hw⟩
end Fb

/-! The law's any board: its body. -/
namespace Fb
open PySem PySem.Spec PyProof.Rows L2
section
variable {c : Cfg} {ρ ρ1 : Env} {t u : TS} {te : TE} {o : Out}
/-- an own list begun, beside the dice -/
theorem exs_ownD {i k : Nat} {q : Addr} {oq : HO} (hk : ρ[k]? = some (.obj q oq)) (h : ∀ p : Addr, p ≠ q → ExS c u (ρ.set i (.own p [])) o) : ExS c (tSeq (tAsg (tLst tNil) (gName i)) u) ρ o := fun G0 H0 Dn σ G H r z => by
  have hq : H q ≠ none := r.sit.addr_in hk rfl
  refine ⟨Nat.zero_le _, fun p hp => h p (fun e => hq (by rw [← e]; exact hp)) G0 H0 Dn _ G (upd H p (.lst [])) ?_ z⟩
  have hG : G p = none := r.sit.gh.free hp
  have pl : Pl G H G (upd H p (.lst [])) := ⟨.refl _, Ex.new hp, fun _ _ => rfl⟩
  refine ⟨(r.sit.pl pl (r.sit.gh.trans (Ex.new hp))).set ⟨rfl, ⟨[], upd_same, .nil⟩, hG⟩ (fun p' e j e' h1 h2 => ?_), r.grow.trans (pl.grow (B := c.B)), fun k p' ds e => ?_⟩
  · obtain rfl : p = p' := Option.some.inj e
    exact absurd hp (r.sit.addr_in h1 h2)
  · rcases getset e with ⟨_, e, _⟩ | ⟨_, e⟩
    · cases e
      cases w : H0 p with
      | none => rfl
      | some o => exact absurd hp (r.grow.st p (ne_none_of w))
    · exact r.new k p' ds e
/-- a roll -/
theorem ev_rollD {E : XK} {i : Nat} {p : Addr} {s : Int × Int} {m : Int} (hi : ρ[i]? = some (.obj p (dice s.1 s.2))) (hB : c.B = [p]) (h : EvX c te ρ ρ (.int m)) (h0 : 0 < m) (h1 : m < 2 ^ 64) :
    EvX c (tCall (spDice P_roll) [] E (tCons (tVar i) (tCons te tNil))) ρ (ρ.set i (.obj p (dice (nxt m s).1 (nxt m s).2))) (.int (rollK m s : Nat)) := ev_is (ev_roll hi hB h h0 h1) (congrArg PyData.int (rollK_eq h0 s).symm)
end
theorem sgsD : ([.str "#.", .str "#.#.#.*", .str "#.#.#.#.*o", .str "##.", .str "#.."] : List D) = sgs.map dR := by
  have e1 : ("#." : Str) = tx [35, 46] := by decide +kernel
  have e2 : ("#.#.#.*" : Str) = tx [35, 46, 35, 46, 35, 46, 42] := by decide +kernel
  have e3 : ("#.#.#.#.*o" : Str) = tx [35, 46, 35, 46, 35, 46, 35, 46, 42, 111] := by decide +kernel
  have e4 : ("##." : Str) = tx [35, 35, 46] := by decide +kernel
  have e5 : ("#.." : Str) = tx [35, 46, 46] := by decide +kernel
  rw [e1, e2, e3, e4, e5]
  rfl
abbrev N__law_any_board : List Str := ["_law_dice", "_law_most", "_law_signs", "_law_found", "_law_number", "_law_rows", "_law_columns", "_law_column"]
def t__law_any_board (K : PySem.W.Frag) (w : World) (E : XK) : TS := (tSeq (tPar 5 6 (tCons (tOp (rAddU K) (tC (.int 1)) (tCall (spDice P_roll) [] E (tCons (tVar 0) (tCons (tC (.int 4)) tNil)))) (tCons (tOp (rAddU K) (tC (.int 1)) (tCall (spDice P_roll) [] E (tCons (tVar 0) (tCons (tC (.int 4)) tNil)))) tNil)))
 (tSeq (tWhile (tTest (tOp (rGtU K) (tOp (rMulU K) (tVar 5) (tVar 6)) (tVar 1))) (tAsg (tIf (tTest (tOp (rI0 fun i j => .bl (decide (j ≤ i))) (tVar 5) (tVar 6))) (tTup (tCons (tOp (rI0 fun i j => .int (i - j)) (tVar 5) (tC (.int 1))) (tCons (tVar 6) tNil))) (tTup (tCons (tVar 5) (tCons (tOp (rI0 fun i j => .int (i - j)) (tVar 6) (tC (.int 1))) tNil)))) (gTup K 2 (gCons (gName 5) (gCons (gName 6) gNil)))))
 (tSeq (tAsg (tOp (rIx K) (tLst (tCons (tC (.str "#.")) (tCons (tC (.str "#.#.#.*")) (tCons (tC (.str "#.#.#.#.*o")) (tCons (tC (.str "##.")) (tCons (tC (.str "#..")) tNil)))))) (tCall (spDice P_roll) [] E (tCons (tVar 0) (tCons (tC (.int 5)) tNil)))) (gName 2))
 (tSeq (tAsg (tLst tNil) (gName 3))
 (tSeq (tFor (iRng1 (tCons (tVar 5) tNil)) (gName 4) (tDrop (tBM K "list" rAppend (tVar 3) (tCons (tM1 (rJoin K) (tC (.str "")) (tLc (iRng1 (tCons (tVar 6) tNil)) (gName 7) tYes (tOp (rIx K) (tVar 2) (tCall (spDice P_roll) [] E0 (tCons (tVar 0) (tCons (tCB (rLen K) (tCons (tVar 2) tNil)) tNil)))) [7])) tNil))))
 (tRet (tCB (rTupleOf K) (tCons (tVar 3) tNil))))))))
section
variable {K : PySem.W.Frag} {w : World} {vs : List V} {H : Hp} {Q : VK} {E : XK}
theorem len__law_any_board (h : spDice P_any vs H Q E) : vs.length = 2 := spDice_len (fun a b ds z a' b' p => by obtain ⟨_, e, _⟩ := p; rw [e]; rfl) h
/-- a row of signs -/
theorem ev_rowD {c : Cfg} {p pa : Addr} {most r n : Nat} {i : Nat} {sg : List Nat} {ds : List D} {s : Int × Int} (hB : c.B = [p]) (hs : sg ∈ sgs) (hn : n ≤ 4) :
    EvX c (tLc (iRng1 (tCons (tVar 6) tNil)) (gName 7) tYes (tOp (rIx c.K) (tVar 2) (tCall (spDice P_roll) [] E0 (tCons (tVar 0) (tCons (tCB (rLen c.K) (tCons (tVar 2) tNil)) tNil)))) [7])
      [.obj p (dice s.1 s.2), .dat (.int (most : Nat)), .dat (dR sg), .own pa ds, .dat (.int (i : Nat)), .dat (.int (r : Nat)), .dat (.int (n : Nat)), .un]
      [.obj p (dice (dst (sg.length : Nat) n s).1 (dst (sg.length : Nat) n s).2), .dat (.int (most : Nat)), .dat (dR sg), .own pa ds, .dat (.int (i : Nat)), .dat (.int (r : Nat)), .dat (.int (n : Nat)), .un]
      (.list ((anyRow sg n s).map fun k => dR [k])) := by
  obtain ⟨g1, g2, g3⟩ := sg_ok sg hs
  have h := ev_lcF (c := c) (ρ := [.obj p (dice s.1 s.2), .dat (.int (most : Nat)), .dat (dR sg), .own pa ds, .dat (.int (i : Nat)), .dat (.int (r : Nat)), .dat (.int (n : Nat)), .un]) (wi := iRng1 (tCons (tVar 6) tNil)) (g := gName 7) (tt := tYes)
    (te := tOp (rIx c.K) (tVar 2) (tCall (spDice P_roll) [] E0 (tCons (tVar 0) (tCons (tCB (rLen c.K) (tCons (tVar 2) tNil)) tNil)))) (vs := [7]) (i := 0) (p := p)
    (items := (List.range n).map fun i : Nat => PyData.int (i : Nat)) (fun k ρ => ρ.set 7 (.dat (.int (k : Nat)))) (fun _ => [7])
    (fun k => (dst (sg.length : Nat) k s, (true, dR [sg.getD (rollK (sg.length : Nat) (dst (sg.length : Nat) (k - 1) s)) 0]))) rfl hB (ei_range (ev_var rfl) (by omega)) (by rw [List.length_map, List.length_range]; omega)
    (fun k d hd => by
      rw [List.getElem?_map] at hd
      cases e : (List.range n)[k]? with
      | none => rw [e] at hd; cases hd
      | some j =>
        rw [e] at hd
        obtain ⟨hl, ej⟩ := List.getElem?_eq_some_iff.mp e
        rw [List.getElem_range] at ej
        subst ej
        obtain rfl : PyData.int (k : Nat) = d := Option.some.inj hd
        exact ⟨tg_name, fun _ h => h⟩)
    (fun k hk => by
      have hl := rollK_lt (m := (sg.length : Nat)) (by omega) (dst (sg.length : Nat) k s)
      refine ⟨_, _, et_yes, fun _ => ⟨ev_op (ev_var rfl) (ev_rollD (i := 0) (s := dst (sg.length : Nat) k s) rfl hB (cl_len (ev_var rfl) (n := sg.length) (by show some (tx sg).length = _; rw [tx_len]) (by omega)) (by omega) (by omega)) (ux_ixS (k := sg.getD (rollK (sg.length : Nat) (dst (sg.length : Nat) k s)) 0) (by rw [tx_len]; omega) (atI_nat ?_)), rfl⟩, (fun h => nomatch h)⟩
      rw [tx_list, List.getD_eq_getElem?_getD, List.getElem?_eq_getElem (by omega)]
      rfl)
  simp only [List.length_map, List.length_range] at h
  have e2 : picked ((List.range n).map fun k => (true, dR [sg.getD (rollK (sg.length : Nat) (dst (sg.length : Nat) (k + 1 - 1) s)) 0])) = (anyRow sg n s).map fun k => dR [k] := by
    rw [picked_filter (List.range n) (fun _ => true), List.filter_eq_self.mpr (fun _ _ => rfl)]
    unfold anyRow
    rw [List.map_map]
    rfl
  exact ev_is h (congrArg PyData.list e2)
theorem body__law_any_board (h : spDice P_any vs H Q E) : t__law_any_board K w E { nx := fun _ H' => Q .non H', rt := Q } (L2.start N__law_any_board vs) H := pure_dice (K := K) (t := t__law_any_board K w) (fun E p a b ds z a' b' q => by
  obtain ⟨most, rfl, hm1, hm2, rfl, rfl, rfl⟩ := q
  obtain ⟨n, e1, e2, e3, e4⟩ := rc_in (a, b) hm1
  obtain ⟨p1, p2, p3, p4⟩ := e4 n (Nat.le_refl _)
  have hx0 := e4 0 (Nat.zero_le _)
  generalize hx : (1 + rollK 4 (a, b), 1 + rollK 4 (nxt 4 (a, b))) = x at e1 e2 e3 e4 p1 p2 p3 p4 hx0
  have hsg := anySg_in (a, b)
  obtain ⟨g1, g2, g3⟩ := sg_ok _ hsg
  have r5 := rollK_lt (m := 5) (by decide) (dst 4 2 (a, b))
  generalize hs2 : dst 4 2 (a, b) = s2 at r5
  have A : ExS ⟨K, [], [p], E⟩ (tPar 5 6 (tCons (tOp (rAddU K) (tC (.int 1)) (tCall (spDice P_roll) [] E (tCons (tVar 0) (tCons (tC (.int 4)) tNil)))) (tCons (tOp (rAddU K) (tC (.int 1)) (tCall (spDice P_roll) [] E (tCons (tVar 0) (tCons (tC (.int 4)) tNil)))) tNil)))
      (envD N__law_any_board p a b [.int (most : Nat)]) (.next [.obj p (dice s2.1 s2.2), .dat (.int (most : Nat)), .un, .un, .un, .dat (.int (x.1 : Nat)), .dat (.int (x.2 : Nat)), .un]) := by
    rw [← hx, ← hs2]
    exact exs_par (ea_cons (ev_is (ev_op ev_int (ev_rollD (c := ⟨K, [], [p], E⟩) (i := 0) (s := (a, b)) rfl rfl ev_int (by decide) (by decide)) ux_addI) (congrArg PyData.int (by show (1 : Int) + _ = ((1 + _ : Nat) : Int); omega)))
      (ea_cons (ev_is (ev_op ev_int (ev_rollD (c := ⟨K, [], [p], E⟩) (i := 0) (s := nxt 4 (a, b)) rfl rfl ev_int (by decide) (by decide)) ux_addI) (congrArg PyData.int (by show (1 : Int) + _ = ((1 + _ : Nat) : Int); omega))) ea_nil)) (osO.trans osO)
  have B := exs_while (c := ⟨K, [], [p], E⟩) (tt := tTest (tOp (rGtU K) (tOp (rMulU K) (tVar 5) (tVar 6)) (tVar 1))) (t := tAsg (tIf (tTest (tOp (rI0 fun i j => .bl (decide (j ≤ i))) (tVar 5) (tVar 6))) (tTup (tCons (tOp (rI0 fun i j => .int (i - j)) (tVar 5) (tC (.int 1))) (tCons (tVar 6) tNil))) (tTup (tCons (tVar 5) (tCons (tOp (rI0 fun i j => .int (i - j)) (tVar 6) (tC (.int 1))) tNil)))) (gTup K 2 (gCons (gName 5) (gCons (gName 6) gNil))))
    (ρ := [.obj p (dice s2.1 s2.2), .dat (.int (most : Nat)), .un, .un, .un, .dat (.int (x.1 : Nat)), .dat (.int (x.2 : Nat)), .un])
    (ρ1 := [.obj p (dice s2.1 s2.2), .dat (.int (most : Nat)), .un, .un, .un, .dat (.int ((itS n x).1 : Nat)), .dat (.int ((itS n x).2 : Nat)), .un])
    (fun k => [.obj p (dice s2.1 s2.2), .dat (.int (most : Nat)), .un, .un, .un, .dat (.int ((itS k x).1 : Nat)), .dat (.int ((itS k x).2 : Nat)), .un]) n rfl (fun k hk => by
      obtain ⟨b1, b2, b3, b4⟩ := e4 k hk
      generalize hy : itS k x = y at b1 b2 b3 b4
      refine ⟨_, et_is (et_test (ev_op (ev_op (ev_var rfl) (ev_var rfl) (ux_mulR (by omega))) (ev_var rfl) ux_gtI)) ?_, OwnSub.refl _, fun hlt => ?_, fun he => by subst he; rw [hy]⟩
      · rw [← Int.natCast_mul]
        refine decide_eq_decide.mpr ⟨fun z => ?_, fun z => ?_⟩
        · have z : most < y.1 * y.2 := by omega
          by_cases c : k = n
          · subst c
            rw [hy] at e2
            omega
          · omega
        · have := e3 k z
          rw [hy] at this
          omega
      · have es : itS (k + 1) x = stp y := by rw [itS_succ, hy]
        rw [es]
        refine exs_tup (ev_if (b := decide (y.2 ≤ y.1)) (et_is (et_test (ev_op (ev_var rfl) (ev_var rfl) rx_B)) (decide_eq_decide.mpr (by omega))) (fun c => ?_) (fun c => ?_)) (OwnSub.refl _)
        · have c := of_decide_eq_true c
          unfold stp
          rw [if_pos c]
          exact ev_tp (ea_cons (ev_is (ev_op (ev_var rfl) ev_int ux_sub) (congrArg PyData.int (by show (_ : Int) - 1 = ((_ - 1 : Nat) : Int); omega))) (ea_cons (ev_var rfl) ea_nil))
        · have c := of_decide_eq_false c
          unfold stp
          rw [if_neg c]
          exact ev_tp (ea_cons (ev_var rfl) (ea_cons (ev_is (ev_op (ev_var rfl) ev_int ux_sub) (congrArg PyData.int (by show (_ : Int) - 1 = ((_ - 1 : Nat) : Int); omega))) ea_nil)))
  rw [← e1] at B p1 p2 p3 p4
  have C : ExS ⟨K, [], [p], E⟩ (tAsg (tOp (rIx K) (tLst (tCons (tC (.str "#.")) (tCons (tC (.str "#.#.#.*")) (tCons (tC (.str "#.#.#.#.*o")) (tCons (tC (.str "##.")) (tCons (tC (.str "#..")) tNil)))))) (tCall (spDice P_roll) [] E (tCons (tVar 0) (tCons (tC (.int 5)) tNil)))) (gName 2))
      [.obj p (dice s2.1 s2.2), .dat (.int (most : Nat)), .un, .un, .un, .dat (.int ((anyRC (a, b) most).1 : Nat)), .dat (.int ((anyRC (a, b) most).2 : Nat)), .un]
      (.next [.obj p (dice (any0 (a, b)).1 (any0 (a, b)).2), .dat (.int (most : Nat)), .dat (dR (anySg (a, b))), .un, .un, .dat (.int ((anyRC (a, b) most).1 : Nat)), .dat (.int ((anyRC (a, b) most).2 : Nat)), .un]) := by
    have e5 : any0 (a, b) = nxt 5 s2 := by unfold any0; rw [hs2]
    have e6 : anySg (a, b) = sgs.getD (rollK 5 s2) [] := by unfold anySg; rw [hs2]
    rw [e5, e6]
    exact exs_set (ev_op (ev_is (ev_ls (ea_cons ev_str (ea_cons ev_str (ea_cons ev_str (ea_cons ev_str (ea_cons ev_str ea_nil)))))) (congrArg PyData.list sgsD)) (ev_rollD (c := ⟨K, [], [p], E⟩) (i := 0) (s := s2) rfl rfl ev_int (by decide) (by decide))
      (ux_ixL (atI_nat (by
        have hl : rollK 5 s2 < sgs.length := by show _ < 5; omega
        rw [List.getElem?_map, List.getD_eq_getElem?_getD, List.getElem?_eq_getElem hl]; rfl)))) osO
  refine ⟨[.obj p (dice (anyEnd (a, b) most).1 (anyEnd (a, b) most).2), .dat (.int (most : Nat)), .dat (dR (anySg (a, b))), .dat (.list ((List.range (anyRC (a, b) most).1).map fun i => dR (anyRow (anySg (a, b)) (anyRC (a, b) most).2 (anyAt (anySg (a, b)) (anyRC (a, b) most).2 i (any0 (a, b)))))), .un, .dat (.int ((anyRC (a, b) most).1 : Nat)), .dat (.int ((anyRC (a, b) most).2 : Nat)), .un], ?_, rfl⟩
  unfold anyB anyEnd
  generalize anyRC (a, b) most = rc at p1 p2 p3 p4 B C ⊢
  generalize any0 (a, b) = s0 at C ⊢
  generalize anySg (a, b) = sg at hsg g1 g2 g3 C ⊢
  refine exs_seq A (exs_seq B (exs_seq C (exs_ownD (k := 0) rfl fun pa hpa => ?_)))
  have lp := exs_range (c := ⟨K, [], [p], E⟩) (ρ := [.obj p (dice s0.1 s0.2), .dat (.int (most : Nat)), .dat (dR sg), .own pa [], .un, .dat (.int (rc.1 : Nat)), .dat (.int (rc.2 : Nat)), .un]) (te := tVar 5) (n := rc.1) (j := 4)
    (t := tDrop (tBM K "list" rAppend (tVar 3) (tCons (tM1 (rJoin K) (tC (.str "")) (tLc (iRng1 (tCons (tVar 6) tNil)) (gName 7) tYes (tOp (rIx K) (tVar 2) (tCall (spDice P_roll) [] E0 (tCons (tVar 0) (tCons (tCB (rLen K) (tCons (tVar 2) tNil)) tNil)))) [7])) tNil)))
    (fun i => [.obj p (dice (anyAt sg rc.2 i s0).1 (anyAt sg rc.2 i s0).2), .dat (.int (most : Nat)), .dat (dR sg), .own pa ((List.range i).map fun i => dR (anyRow sg rc.2 (anyAt sg rc.2 i s0))), .un, .dat (.int (rc.1 : Nat)), .dat (.int (rc.2 : Nat)), .un])
    (ev_var rfl) (by omega) (OwnSub.refl _) (fun i hi => by
      rw [List.range_succ, List.map_append]
      refine exs_to (exs_app (c := ⟨K, [], [p], E⟩) (i := 3) (p := pa) rfl (ev_joinS (c := ⟨K, [], [p], E⟩) (l := anyRow sg rc.2 (anyAt sg rc.2 i s0)) (ev_rowD (c := ⟨K, [], [p], E⟩) (i := i) (s := anyAt sg rc.2 i s0) rfl hsg p4) (by simp [anyRow]; omega)) rfl (osO (ρ := ([.obj p (dice (anyAt sg rc.2 i s0).1 (anyAt sg rc.2 i s0).2), .dat (.int (most : Nat)), .dat (dR sg), .own pa ((List.range i).map fun i => dR (anyRow sg rc.2 (anyAt sg rc.2 i s0))), .dat (.int (i : Nat)), .dat (.int (rc.1 : Nat)), .dat (.int (rc.2 : Nat)), .un] : Env)) (i := 0) (p := p) (o := dice (dst (sg.length : Nat) rc.2 (anyAt sg rc.2 i s0)).1 (dst (sg.length : Nat) rc.2 (anyAt sg rc.2 i s0)).2)) (by rw [List.length_map, List.length_range]; omega) (fun h => hpa (List.mem_singleton.mp h))) (.eq (.eq (.eq (.eq (.un (.eq (.eq (.un .nil)))))))))
  exact exs_seq lp (exs_tell (i := 3) rfl (exs_ret (ev_is (ev_tupOf (c := ⟨K, [], [p], E⟩) (ev_var rfl)) (by unfold dB; rw [List.map_map]; rfl)) (OwnSub.refl _)))) h
end
end Fb

/-! The end of a law that tells lambdas. -/
namespace Fb
open PySem PySem.Spec PyProof.Rows L2
theorem tabsQ_one {H : Hp} {P : Addr} (h : H P = some (.tbl #[])) : TabsQ [(P, LQ)] H :=
  ⟨fun p hp => by rw [List.mem_singleton.mp hp], fun p hp => by rw [List.mem_singleton.mp hp]; exact LamX.TabS.nil h⟩
/-- the law, whose code object is told -/
theorem law_okC {P : Program} {w : World} {K : PySem.W.Frag} {mg : Str → Option Value} {base : Heap} {CX : CXT} {N ps : List Str} {k : Nat} {sp : Sp} {st : Stmt} {x : Str} {fd : FuncData} (F : FnP K x st (He.fAd K (x, none)) fd) (S : FnScope N ps (defScope st)) (len : ∀ vs H Q E, sp vs H Q E → vs.length = ps.length)
    (hbody : ∀ (A : Around) (outer : List PySem.Env) (s : Shared) (H : Hp) (vs : List V) (Q : VK) (E : XK), Room k (A.deeper (envOfC x (defScope st) s.heap.objs.size (He.fAd K (x, none)) (.ref (He.codeOf K (x, none))))) → sp vs H Q E →
      ∃ t, PSs (cxOf CX P w K mg base N x (defScope st) (He.fAd K (x, none)) (.ref (He.codeOf K (x, none))) A outer s H E) (defBody st) t ∧ t { nx := fun _ H' => Q .non H', rt := Q } (L2.start N vs) H) : FnOk P w K mg base CX (k + 1) (He.fAd K (x, none)) fd ps sp := by
  obtain ⟨oc, od, dV, kV, doc, pm, an, cdv, ct, osl, e, lk, hcd, _, _⟩ := F.ex
  obtain ⟨cc, ec⟩ := He.codeIn_ref hcd
  have e2 : He.codeOf K (x, none) = cc := He.codeOf_eq lk (by rw [e]; exact ec)
  subst e ec
  refine fn_of lk hcd S len fun A outer s H vs Q E hr hsp => ?_
  rw [e2] at hbody
  exact hbody A outer s H vs Q E hr hsp
/-- what the head looks at for a class that _law_term is to know -/
def termB (K : PySem.W.Frag) (nm : Str) : Bool :=
  (decide (nm ∈ kinds) && (He.eqO (PySem.W.findIn K (.ref (He.ga K nm)) "__getattribute__") (some (some (.builtin "BaseException.__getattribute__"))) && (He.eqO (PySem.W.findIn K (.ref (He.ga K nm)) "__getattr__") (some none) &&
  (decide (PySem.W.subIn K (.ref (He.ga K nm)) (.type "BaseException") = some true) && (PySem.W.hasDictIn K (He.ga K nm) && (He.eqO (PySem.W.findIn K (.ref (He.ga K nm)) "__class__") (some (some (.builtin "object.__class__"))) &&
  (He.eqO (PySem.W.specialIn K (.builtin "object.__class__") "__get__") (some (some (.builtin "getset_descriptor.__get__"))) && (decide (PySem.W.takesIn K (.builtin "object.__class__") = some true) && decide (PySem.W.mroIn K (He.ga K nm) (.type "object") = some true))))))))) &&
  ((kinds.all fun c => decide (PySem.W.kitOne K (.ref (He.ga K nm)) (.ref (He.ga K c)) = some (decide (c = nm)))) && (decide (PySem.W.kitOne K (.ref (He.ga K nm)) (.type "ValueError") = some true) && decide (PySem.W.exmOne K (.ref (He.ga K nm)) (.ref (He.ga K "FrostError")) = some true)))
theorem termB_ok {K : PySem.W.Frag} {nm : Str} (h : termB K nm = true) : TermOk K (He.ga K nm) nm := by
  unfold termB at h
  obtain ⟨h1, h2⟩ := He.ba h
  obtain ⟨m, h1⟩ := He.ba h1
  obtain ⟨a1, h1⟩ := He.ba h1
  obtain ⟨a2, h1⟩ := He.ba h1
  obtain ⟨a3, h1⟩ := He.ba h1
  obtain ⟨a4, h1⟩ := He.ba h1
  obtain ⟨a5, h1⟩ := He.ba h1
  obtain ⟨a6, h1⟩ := He.ba h1
  obtain ⟨a7, a8⟩ := He.ba h1
  obtain ⟨b1, h2⟩ := He.ba h2
  obtain ⟨b2, b3⟩ := He.ba h2
  exact ⟨⟨He.eqO_ok a1, He.eqO_ok a2, of_decide_eq_true a3, a4, He.eqO_ok a5, He.eqO_ok a6, of_decide_eq_true a7, of_decide_eq_true a8⟩, of_decide_eq_true m, fun c hc => of_decide_eq_true (List.all_eq_true.mp b1 c hc), of_decide_eq_true b2, of_decide_eq_true b3⟩
end Fb

/-! need_ticks, after. -/
namespace Fb
open PySem PySem.Spec PyProof.Rows L2
def P_need_ticks (K : PySem.W.Frag) (ds : List D) (r : Rz) : Prop := ∃ v, ds = [v] ∧ r = if isWholeD v 0 100 = true then .inl .none else .inr (He.ga K "InvalidTicks")
def P_after (K : PySem.W.Frag) (ds : List D) (r : Rz) : Prop := ∃ v t, ds = [v, t] ∧ smallB v ∧ ((isBoardD v = false ∧ r = .inr (He.ga K "InvalidBoard")) ∨
  ∃ b, v = dB b ∧ Wf b ∧ ((isWholeD t 0 100 = false ∧ r = .inr (He.ga K "InvalidTicks")) ∨ ∃ n : Nat, t = .int (n : Nat) ∧ n ≤ 100 ∧ r = .inl (dB (later n b))))
abbrev N_need_ticks : List Str := ["ticks"]
def t_need_ticks (K : PySem.W.Frag) (w : World) (E : XK) : TS := (tIfS (tNot (tB (tCall (spF (P_is_whole K)) [] E (tCons (tVar 0) (tCons (tC (.int 0)) (tCons (tC (.int 100)) tNil)))))) (tRaise (He.ga K "InvalidTicks") E) tNext)
abbrev N_after : List Str := ["board", "ticks"]
def t_after (K : PySem.W.Frag) (w : World) (E : XK) : TS := (tSeq (tDrop (tCall (spF (P_need_board K)) [] E (tCons (tVar 0) tNil)))
 (tSeq (tDrop (tCall (spF (P_need_ticks K)) [] E (tCons (tVar 1) tNil)))
 (tRet (tCall (spF (P_later K)) [] E (tCons (tVar 0) (tCons (tVar 1) tNil))))))
section
variable {K : PySem.W.Frag} {w : World} {vs : List V} {H : Hp} {Q : VK} {E : XK} {c : Cfg} {ρ ρ1 ρ2 : Env} {te tr : TE} {b : Bd}
theorem len_need_ticks (h : spF (P_need_ticks K) vs H Q E) : vs.length = 1 := spF_len (fun ds r p => by obtain ⟨_, e, _⟩ := p; rw [e]; rfl) h
theorem len_after (h : spF (P_after K) vs H Q E) : vs.length = 2 := spF_len (fun ds r p => by obtain ⟨_, _, e, _⟩ := p; rw [e]; rfl) h
theorem body_need_ticks (h : spF (P_need_ticks K) vs H Q E) : t_need_ticks K w E { nx := fun _ H' => Q .non H', rt := Q } (L2.start N_need_ticks vs) H := pure_of (t := t_need_ticks K w) (fun E ds r q => by
  obtain ⟨v, rfl, rfl⟩ := q
  have tst : EvT ⟨K, [], [], E⟩ (tNot (tB (tCall (spF (P_is_whole K)) [] E (tCons (tVar 0) (tCons (tC (.int 0)) (tCons (tC (.int 100)) tNil)))))) (env0 N_need_ticks [v]) (env0 N_need_ticks [v]) (!isWholeD v 0 100) :=
    et_not (et_B (ev_call (P := P_is_whole K) (ea_cons (ev_var rfl) (ea_cons ev_int (ea_cons ev_int ea_nil))) ⟨v, 0, 100, rfl, rfl⟩))
  cases hv : isWholeD v 0 100 with
  | true =>
    rw [if_pos rfl]
    exact givN (exs_if (b := false) (et_is tst (by rw [hv]; rfl)) (OwnSub.refl _) (fun z => nomatch z) (fun _ => exs_nil))
  | false =>
    rw [if_neg Bool.false_ne_true]
    exact givX (exs_if (b := true) (et_is tst (by rw [hv]; rfl)) (OwnSub.refl _) (fun _ => exs_raise (c := ⟨K, [], [], E⟩)) (fun z => nomatch z))) h
theorem body_after (h : spF (P_after K) vs H Q E) : t_after K w E { nx := fun _ H' => Q .non H', rt := Q } (L2.start N_after vs) H := pure_of (t := t_after K w) (fun E ds r q => by
  obtain ⟨v, t, rfl, hs, ⟨hb, rfl⟩ | ⟨b, rfl, W, ⟨ht, rfl⟩ | ⟨n, rfl, hn, rfl⟩⟩⟩ := q
  · exact givX (exs_seq_exc (exs_drop_exc (c := ⟨K, [], [], E⟩) (ee_call (P := P_need_board K) (ds := [v]) (ea_cons (ev_var env0_0) ea_nil) ⟨v, rfl, hs, by rw [if_neg (by rw [hb]; exact Bool.false_ne_true)]⟩)))
  · exact givX (exs_seq (exs_need W env0_0 rfl) (exs_seq_exc (exs_drop_exc (c := ⟨K, [], [], E⟩) (ee_call (P := P_need_ticks K) (ds := [t]) (ea_cons (ev_var rfl) ea_nil) ⟨t, rfl, by rw [if_neg (by rw [ht]; exact Bool.false_ne_true)]⟩))))
  · exact giv (exs_seq (exs_need W env0_0 rfl) (exs_seq (exs_drop (c := ⟨K, [], [], E⟩) (ev_call (P := P_need_ticks K) (z := .none) (ea_cons (ev_var rfl) ea_nil) ⟨.int (n : Nat), rfl, by rw [if_pos (by simp [isWholeD]; omega)]⟩) (OwnSub.refl _))
      (exs_ret (ev_call (P := P_later K) (ea_cons (ev_var rfl) (ea_cons (ev_var rfl) ea_nil)) ⟨b, n, rfl, W, by omega, rfl⟩) (OwnSub.refl _))))) h
theorem ev_after (W : Wf b) {n : Nat} (hn : n ≤ 100) {E' : XK} (hb : EvX c te ρ ρ1 (dB b)) (ht : EvX c tr ρ1 ρ2 (.int (n : Nat))) : EvX c (tCall (spF (P_after K)) [] E' (tCons te (tCons tr tNil))) ρ ρ2 (dB (later n b)) :=
  ev_call (P := P_after K) (ea_cons hb (ea_cons ht ea_nil)) ⟨dB b, _, rfl, W.small, .inr ⟨b, rfl, W, .inr ⟨n, rfl, hn, rfl⟩⟩⟩
theorem ev_endP (W : Wf b) {E' : XK} (hb : EvX c te ρ ρ1 (dB b)) : EvX c (tCall (spF (P_end K)) [] E' (tCons te tNil)) ρ ρ1 (dB (endB b)) :=
  ev_call (P := P_end K) (ea_cons hb ea_nil) ⟨dB b, rfl, W.small, .inr ⟨b, _, rfl, W, rfl, rfl⟩⟩
/-- own[j] -/
theorem ev_ownIx {i : Nat} {p : Addr} {ds : List D} {j : Int} {d : D} (hi : ρ1[i]? = some (.own p ds)) (h0 : ρ[i]? = some (.own p ds)) (h : EvX c te ρ ρ1 (.int j)) (hj : atI ds j = some d) : EvX c (tOp (rIx c.K) (tVar i) te) ρ ρ1 d := fun σ G H s Q q => by
  obtain ⟨q1, _, _⟩ := s.ent i _ h0
  refine ⟨.ref p, q1, h σ G H s _ fun v G1 H1 g1 s1 i1 => ?_⟩
  cases i1
  obtain ⟨_, ⟨vs, a2, a3⟩, _⟩ := s1.ent i _ hi
  unfold atI at hj
  cases hk : ixN ds.length j with
  | none => rw [hk] at hj; cases hj
  | some k =>
    rw [hk] at hj
    obtain ⟨v, hv, iv⟩ := a3.at (show ds[k]? = some d from hj)
    exact .inl ⟨p, vs, j, v, rfl, rfl, .of a2, by unfold atI; rw [a3.length, hk]; exact hv, q v G1 H1 g1 s1 iv⟩
end
end Fb

/-! Boards moved about: rows and columns exchanged, turned round, ice and water exchanged. -/
namespace Fb
open PySem PySem.Spec PyProof.Rows L2
abbrev In (b : Bd) (p : Cl) : Prop := p.1 < hgt b ∧ p.2 < wid b
/-- f takes the one grid to the other, neighbours to neighbours -/
structure Gm (h w h' w' : Nat) (f : Cl → Cl) : Prop where
  in_ : ∀ p : Cl, p.1 < h → p.2 < w → (f p).1 < h' ∧ (f p).2 < w'
  on : ∀ q : Cl, q.1 < h' → q.2 < w' → ∃ p : Cl, p.1 < h ∧ p.2 < w ∧ f p = q
  inj : ∀ p q : Cl, p.1 < h → p.2 < w → q.1 < h → q.2 < w → f p = f q → p = q
  nbp : ∀ p : Cl, p.1 < h → p.2 < w → ((nb h w p).map f).Perm (nb h' w' (f p))
def swp (p : Cl) : Cl := (p.2, p.1)
def flc (w : Nat) (p : Cl) : Cl := (p.1, w - 1 - p.2)
def flr (h : Nat) (p : Cl) : Cl := (h - 1 - p.1, p.2)
theorem gm_id {h w : Nat} : Gm h w h w id := ⟨fun p h1 h2 => ⟨h1, h2⟩, fun q h1 h2 => ⟨q, h1, h2, rfl⟩, fun p q _ _ _ _ e => e, fun p _ _ => by rw [List.map_id]; exact .refl _⟩
theorem swp_nb : ∀ h, h < 5 → ∀ w, w < 5 → ∀ r, r < h → ∀ k, k < w → ((nb h w (r, k)).map swp).isPerm (nb w h (k, r)) = true := by decide +kernel
theorem flc_nb : ∀ h, h < 5 → ∀ w, w < 5 → ∀ r, r < h → ∀ k, k < w → ((nb h w (r, k)).map (flc w)).isPerm (nb h w (flc w (r, k))) = true := by decide +kernel
theorem flr_nb : ∀ h, h < 5 → ∀ w, w < 5 → ∀ r, r < h → ∀ k, k < w → ((nb h w (r, k)).map (flr h)).isPerm (nb h w (flr h (r, k))) = true := by decide +kernel
theorem gm_swp {h w : Nat} (hh : h < 5) (hw : w < 5) : Gm h w w h swp := ⟨fun p h1 h2 => ⟨h2, h1⟩, fun q h1 h2 => ⟨(q.2, q.1), h2, h1, rfl⟩, fun p q _ _ _ _ e => by
  have e1 := congrArg Prod.fst e
  have e2 := congrArg Prod.snd e
  exact Prod.ext e2 e1, fun p h1 h2 => List.isPerm_iff.mp (swp_nb h hh w hw p.1 h1 p.2 h2)⟩
theorem gm_flc {h w : Nat} (hh : h < 5) (hw : w < 5) : Gm h w h w (flc w) := ⟨fun p h1 h2 => ⟨h1, by show w - 1 - p.2 < w; omega⟩, fun q h1 h2 => ⟨flc w q, h1, by show w - 1 - q.2 < w; omega, by
  apply Prod.ext
  · rfl
  · show w - 1 - (w - 1 - q.2) = q.2; omega⟩, fun p q h1 h2 h3 h4 e => by
  have e1 : (flc w p).1 = (flc w q).1 := congrArg Prod.fst e
  have e2 : (flc w p).2 = (flc w q).2 := congrArg Prod.snd e
  have e1 : p.1 = q.1 := e1
  have e2 : w - 1 - p.2 = w - 1 - q.2 := e2
  exact Prod.ext e1 (by omega), fun p h1 h2 => List.isPerm_iff.mp (flc_nb h hh w hw p.1 h1 p.2 h2)⟩
theorem gm_flr {h w : Nat} (hh : h < 5) (hw : w < 5) : Gm h w h w (flr h) := ⟨fun p h1 h2 => ⟨by show h - 1 - p.1 < h; omega, h2⟩, fun q h1 h2 => ⟨flr h q, by show h - 1 - q.1 < h; omega, h2, by
  apply Prod.ext
  · show h - 1 - (h - 1 - q.1) = q.1; omega
  · rfl⟩, fun p q h1 h2 h3 h4 e => by
  have e1 : (flr h p).1 = (flr h q).1 := congrArg Prod.fst e
  have e2 : (flr h p).2 = (flr h q).2 := congrArg Prod.snd e
  have e1 : h - 1 - p.1 = h - 1 - q.1 := e1
  have e2 : p.2 = q.2 := e2
  exact Prod.ext (by omega) e2, fun p h1 h2 => List.isPerm_iff.mp (flr_nb h hh w hw p.1 h1 p.2 h2)⟩
theorem nodup_cells : ∀ h, h < 5 → ∀ w, w < 5 → (cells h w).Nodup := by decide +kernel
theorem Gm.cells {h w h' w' : Nat} {f : Cl → Cl} (g : Gm h w h' w' f) (hh : h < 5) (hw : w < 5) (hh' : h' < 5) (hw' : w' < 5) : ((Fb.cells h w).map f).Perm (Fb.cells h' w') := by
  refine (List.perm_ext_iff_of_nodup ?_ (nodup_cells h' hh' w' hw')).mpr fun q => ?_
  · rw [List.nodup_iff_pairwise_ne, List.pairwise_map]
    have nd := nodup_cells h hh w hw
    rw [List.nodup_iff_pairwise_ne] at nd
    refine List.Pairwise.imp_of_mem (fun {a b} ha hb hne e => hne ?_) nd
    obtain ⟨a1, a2⟩ := mem_cells.mp ha
    obtain ⟨b1, b2⟩ := mem_cells.mp hb
    exact g.inj a b a1 a2 b1 b2 e
  · rw [List.mem_map, mem_cells]
    constructor
    · rintro ⟨p, hp, rfl⟩
      obtain ⟨p1, p2⟩ := mem_cells.mp hp
      exact g.in_ p p1 p2
    · rintro ⟨q1, q2⟩
      obtain ⟨p, p1, p2, e⟩ := g.on q q1 q2
      exact ⟨p, mem_cells.mpr ⟨p1, p2⟩, e⟩
/-- a sign, ice and water exchanged if x -/
def fx (x : Bool) (k : Nat) : Nat := if x = true then other k else k
theorem fx_stone (x : Bool) {k : Nat} (h : isSign k = true) : isStone (fx x k) = isStone k := by
  rcases isSign_cases h with z | z | z | z <;> subst z <;> cases x <;> rfl
theorem fx_free (x : Bool) {k : Nat} (h : isSign k = true) : isFree (fx x k) = isFree k := by
  rcases isSign_cases h with z | z | z | z <;> subst z <;> cases x <;> rfl
theorem fx_ice (x : Bool) {k : Nat} (h : isSign k = true) : isIce (fx x k) = (isIce k != x) := by
  rcases isSign_cases h with z | z | z | z <;> subst z <;> cases x <;> rfl
theorem fx_inj {x : Bool} {k m : Nat} (h1 : isSign k = true) (h2 : isSign m = true) (e : fx x k = fx x m) : k = m := by
  rcases isSign_cases h1 with z | z | z | z <;> rcases isSign_cases h2 with y | y | y | y <;> subst z <;> subst y <;> cases x <;> first | rfl | exact absurd e (by decide)
structure Mv (x : Bool) (f : Cl → Cl) (b b' : Bd) : Prop where
  w1 : Wf b
  w2 : Wf b'
  gm : Gm (hgt b) (wid b) (hgt b') (wid b') f
  sg : ∀ p : Cl, p.1 < hgt b → p.2 < wid b → sgn b' (f p) = fx x (sgn b p)
theorem Wf.h5 {b : Bd} (W : Wf b) : hgt b < 5 := by have := W.h4; show b.length < 5; omega
theorem Wf.w5 {b : Bd} (W : Wf b) : wid b < 5 := by have := W.w4; omega
section
variable {x : Bool} {f : Cl → Cl} {b b' c' : Bd}
theorem Mv.ice (m : Mv x f b b') {p : Cl} (h1 : p.1 < hgt b) (h2 : p.2 < wid b) : iceAt b' (f p) = (iceAt b p != x) := by
  unfold iceAt
  rw [m.sg p h1 h2, fx_ice x (m.w1.sgn_at h1 h2).2]
theorem countP_ne {α : Type} (l : List α) (u : α → Bool) (x : Bool) : l.countP (fun a => u a != x) = if x = true then l.length - l.countP u else l.countP u := by
  cases x with
  | false =>
    rw [if_neg Bool.false_ne_true]
    congr 1
    funext a
    cases u a <;> rfl
  | true =>
    rw [if_pos rfl]
    have := @List.length_eq_countP_add_countP α u l
    have e : l.countP (fun a => u a != true) = l.countP (fun a => ¬ u a = true) := by
      congr 1
      funext a
      cases u a <;> rfl
    rw [e]
    omega
theorem Mv.count (m : Mv x f b b') {p : Cl} (h1 : p.1 < hgt b) (h2 : p.2 < wid b) : (nb (hgt b') (wid b') (f p)).countP (fun q => iceAt b' q) = if x = true then (nb (hgt b) (wid b) p).length - (nb (hgt b) (wid b) p).countP (fun q => iceAt b q) else (nb (hgt b) (wid b) p).countP (fun q => iceAt b q) := by
  rw [← (m.gm.nbp p h1 h2).countP_eq, List.countP_map, ← countP_ne]
  refine List.countP_congr fun q hq => ?_
  obtain ⟨q1, q2⟩ := nb_in h1 h2 hq
  show iceAt b' (f q) = true ↔ _
  rw [m.ice q1 q2]
theorem Mv.len (m : Mv x f b b') {p : Cl} (h1 : p.1 < hgt b) (h2 : p.2 < wid b) : (nb (hgt b') (wid b') (f p)).length = (nb (hgt b) (wid b) p).length := by
  rw [← (m.gm.nbp p h1 h2).length_eq, List.length_map]
theorem Mv.next (m : Mv x f b b') {p : Cl} (h1 : p.1 < hgt b) (h2 : p.2 < wid b) : nextAt b' (f p) = fx x (nextAt b p) := by
  have hsg := (m.w1.sgn_at h1 h2).2
  rw [nextAt_eq, nextAt_eq, m.sg p h1 h2, fx_stone x hsg, m.count h1 h2, m.len h1 h2]
  have hc : (nb (hgt b) (wid b) p).countP (fun q => iceAt b q) ≤ (nb (hgt b) (wid b) p).length := List.countP_le_length
  generalize (nb (hgt b) (wid b) p).countP (fun q => iceAt b q) = k at hc ⊢
  generalize (nb (hgt b) (wid b) p).length = n at hc ⊢
  generalize sgn b p = s at hsg ⊢
  by_cases hs : isStone s = true
  · rw [if_pos hs, if_pos hs]
  · rw [if_neg hs, if_neg hs]
    cases x with
    | false =>
      rw [if_neg Bool.false_ne_true]
      rfl
    | true =>
      rw [if_pos rfl]
      by_cases c1 : 2 * k = n
      · rw [if_pos c1, if_pos (by omega)]
      · rw [if_neg c1, if_neg (by omega)]
        by_cases c2 : n < 2 * k
        · rw [if_pos c2, if_neg (by omega)]; rfl
        · rw [if_neg c2, if_pos (by omega)]; rfl
theorem Mv.tick (m : Mv x f b b') : Mv x f (tick b) (tick b') where
  w1 := m.w1.tick
  w2 := m.w2.tick
  gm := by rw [hgt_tick, hgt_tick, wid_tick m.w1.h1, wid_tick m.w2.h1]; exact m.gm
  sg := fun p h1 h2 => by
    rw [hgt_tick] at h1
    rw [wid_tick m.w1.h1] at h2
    obtain ⟨g1, g2⟩ := m.gm.in_ p h1 h2
    rw [sgn_tick m.w1 h1 h2, sgn_tick m.w2 g1 g2, m.next h1 h2]
theorem Mv.later (m : Mv x f b b') : ∀ n : Nat, Mv x f (later n b) (Fb.later n b')
  | 0 => m
  | n + 1 => by rw [later_succ, later_succ]; exact (Mv.later m n).tick
theorem Mv.uniq (m : Mv x f b b') (k : Mv x f b c') (hh : hgt b' = hgt c') (hw : wid b' = wid c') : b' = c' :=
  ext_bd m.w2 k.w2 hh hw fun q h1 h2 => by
    obtain ⟨p, p1, p2, rfl⟩ := m.gm.on q h1 h2
    rw [m.sg p p1 p2, k.sg p p1 p2]
theorem Mv.uniq' {c : Bd} (m : Mv x f b b') (k : Mv x f c b') (hh : hgt b = hgt c) (hw : wid b = wid c) : b = c :=
  ext_bd m.w1 k.w1 hh hw fun p h1 h2 => by
    have e := m.sg p h1 h2
    rw [k.sg p (by rw [← hh]; exact h1) (by rw [← hw]; exact h2)] at e
    exact (fx_inj (k.w1.sgn_at (p := p) (by rw [← hh]; exact h1) (by rw [← hw]; exact h2)).2 (m.w1.sgn_at h1 h2).2 e).symm
/-- what is equal, is equal after -/
theorem Mv.eq_iff {c : Bd} (m : Mv x f b b') (k : Mv x f c c') (hh : hgt b = hgt c) (hw : wid b = wid c) (hh' : hgt b' = hgt c') (hw' : wid b' = wid c') : b' = c' ↔ b = c := by
  constructor
  · intro e
    subst e
    exact m.uniq' k hh hw
  · intro e
    subst e
    exact m.uniq k hh' hw'
theorem Mv.still (m : Mv x f b b') : Fb.tick b' = b' ↔ Fb.tick b = b := m.tick.eq_iff m (hgt_tick b) (wid_tick m.w1.h1) (hgt_tick b') (wid_tick m.w2.h1)
theorem Mv.settled (m : Mv x f b b') (n : Nat) : settled b' n ↔ settled b n := by
  have k := m.later n
  unfold Fb.settled
  rw [k.still, k.tick.tick.eq_iff k (by rw [hgt_tick, hgt_tick]) (by rw [wid_tick k.tick.w1.h1, wid_tick k.w1.h1]) (by rw [hgt_tick, hgt_tick]) (by rw [wid_tick k.tick.w2.h1, wid_tick k.w2.h1])]
theorem Mv.fateN (m : Mv x f b b') : fateN b' = fateN b := by
  unfold Fb.fateN
  congr 2
  funext n
  exact decide_eq_decide.mpr (m.settled n)
theorem Mv.per (m : Mv x f b b') (n : Nat) : per b' n = per b n := by
  unfold Fb.per
  by_cases h : Fb.tick (Fb.later n b) = Fb.later n b
  · rw [if_pos h, if_pos ((m.later n).still.mpr h)]
  · rw [if_neg h, if_neg (fun z => h ((m.later n).still.mp z))]
theorem Mv.endB (m : Mv x f b b') : Mv x f (endB b) (endB b') := by
  unfold Fb.endB
  rw [m.fateN]
  exact m.later _
/-- the free cells -/
theorem nodup_free (b : Bd) : (free b).Nodup := by
  rw [List.nodup_iff_pairwise_ne]
  refine (free_sorted b).imp fun {a c} h e => ?_
  rw [e] at h
  exact ltC_irr c h
theorem Mv.mem_free (m : Mv x f b b') {p : Cl} (h1 : p.1 < hgt b) (h2 : p.2 < wid b) : f p ∈ free b' ↔ p ∈ free b := by
  obtain ⟨g1, g2⟩ := m.gm.in_ p h1 h2
  rw [m.w1.mem_free, m.w2.mem_free, m.sg p h1 h2, fx_free x (m.w1.sgn_at h1 h2).2]
  exact ⟨fun z => ⟨h1, h2, z.2.2⟩, fun z => ⟨g1, g2, z.2.2⟩⟩
theorem Mv.free_perm (m : Mv x f b b') : ((free b).map f).Perm (free b') := by
  refine (List.perm_ext_iff_of_nodup ?_ (nodup_free b')).mpr fun q => ?_
  · rw [List.nodup_iff_pairwise_ne, List.pairwise_map]
    have nd := nodup_free b
    rw [List.nodup_iff_pairwise_ne] at nd
    refine List.Pairwise.imp_of_mem (fun {a c} ha hc hne e => hne ?_) nd
    obtain ⟨a1, a2, _⟩ := m.w1.mem_free.mp ha
    obtain ⟨c1, c2, _⟩ := m.w1.mem_free.mp hc
    exact m.gm.inj a c a1 a2 c1 c2 e
  · rw [List.mem_map]
    constructor
    · rintro ⟨p, hp, rfl⟩
      obtain ⟨p1, p2, _⟩ := m.w1.mem_free.mp hp
      exact (m.mem_free p1 p2).mpr hp
    · intro hq
      obtain ⟨q1, q2, _⟩ := m.w2.mem_free.mp hq
      obtain ⟨p, p1, p2, rfl⟩ := m.gm.on q q1 q2
      exact ⟨p, (m.mem_free p1 p2).mp hq, rfl⟩
theorem tens_sum (b : Bd) : tens b = sumL (cells (hgt b) (wid b)) fun a => (nb (hgt b) (wid b) a).countP fun q => iceAt b q != iceAt (tick b) a := by
  unfold Fb.cells
  rw [sumL_flatMap]
  unfold tens sumL
  refine congrArg List.sum (List.map_congr_left fun r _ => ?_)
  rw [List.map_map]
  rfl
theorem Mv.tens (m : Mv x f b b') : tens b' = tens b := by
  rw [tens_sum, tens_sum, ← sumL_perm (m.gm.cells m.w1.h5 m.w1.w5 m.w2.h5 m.w2.w5), sumL_map]
  refine sumL_congr fun a ha => ?_
  obtain ⟨a1, a2⟩ := mem_cells.mp ha
  rw [← (m.gm.nbp a a1 a2).countP_eq, List.countP_map]
  refine List.countP_congr fun q hq => ?_
  obtain ⟨q1, q2⟩ := nb_in a1 a2 hq
  show (iceAt b' (f q) != iceAt (Fb.tick b') (f a)) = true ↔ _
  rw [m.ice q1 q2, m.tick.ice (by rw [hgt_tick]; exact a1) (by rw [wid_tick m.w1.h1]; exact a2)]
  cases iceAt b q <;> cases iceAt (Fb.tick b) a <;> cases x <;> decide
/-- the free cells that never change, moved -/
theorem Mv.mem_kept (m : Mv x f b b') {p : Cl} (h1 : p.1 < hgt b) (h2 : p.2 < wid b) : ∀ i : Nat, f p ∈ kept b' i ↔ p ∈ kept b i
  | 0 => m.mem_free h1 h2
  | i + 1 => by
    unfold kept
    rw [List.mem_filter, List.mem_filter, Mv.mem_kept m h1 h2 i, m.ice h1 h2, (m.later (i + 1)).ice (by rw [hgt_later]; exact h1) (by rw [wid_later _ m.w1]; exact h2)]
    refine and_congr_right fun _ => ?_
    rw [decide_eq_true_eq, decide_eq_true_eq]
    cases iceAt (Fb.later (i + 1) b) p <;> cases iceAt b p <;> cases x <;> decide
end
/-! ### the moves -/
def turnd (b : Bd) : Bd := (List.range (wid b)).map fun c => b.map fun r => r.getD c 0
def flatB (b : Bd) : Bd := b.map List.reverse
section
variable {b : Bd}
theorem hgt_exch (b : Bd) : hgt (exch b) = hgt b := by simp [exch, hgt]
theorem getD_map {α β : Type} (l : List α) (g : α → β) (i : Nat) (z : α) (y : β) (h : i < l.length) : (l.map g).getD i y = g (l.getD i z) := by
  rw [List.getD_eq_getElem?_getD, List.getD_eq_getElem?_getD, List.getElem?_map, List.getElem?_eq_getElem h]
  rfl
theorem wid_getD (b : Bd) : wid b = (b.getD 0 []).length := by
  cases b <;> rfl
theorem Wf.wid_exch (W : Wf b) : wid (Fb.exch b) = wid b := by
  rw [wid_getD, wid_getD]
  unfold Fb.exch
  rw [getD_map b _ 0 [] [] W.h1, List.length_map]
theorem mv_exch (W : Wf b) : Mv true id b (exch b) where
  w1 := W
  w2 := W.exch
  gm := by rw [hgt_exch, W.wid_exch]; exact gm_id
  sg := fun p h1 h2 => by
    unfold sgn
    show ((exch b).getD p.1 []).getD p.2 0 = _
    unfold exch
    rw [getD_map b _ p.1 [] [] h1, getD_map _ _ p.2 0 0 (by rw [(W.row h1).2.1]; exact h2)]
    rfl
theorem hgt_turnd (b : Bd) : hgt (turnd b) = wid b := by simp [turnd, hgt]
theorem Wf.wid_turnd (W : Wf b) : wid (turnd b) = hgt b := by
  rw [wid_getD]
  unfold turnd
  rw [getD_map _ _ 0 0 [] (by rw [List.length_range]; exact W.w1), List.length_map]
theorem Wf.sgn_turnd (W : Wf b) {p : Cl} (h1 : p.1 < hgt b) (h2 : p.2 < wid b) : sgn (turnd b) (p.2, p.1) = sgn b p := by
  show ((turnd b).getD p.2 []).getD p.1 0 = _
  unfold turnd
  rw [getD_map _ _ p.2 0 [] (by rw [List.length_range]; exact h2), getD_map b _ p.1 [] 0 h1, range_getD h2]
  rfl
theorem Wf.turnd (W : Wf b) : Wf (turnd b) where
  h1 := by show 1 ≤ hgt (Fb.turnd b); rw [hgt_turnd]; exact W.w1
  h4 := by show hgt (Fb.turnd b) ≤ 4; rw [hgt_turnd]; exact W.w4
  w1 := by rw [W.wid_turnd]; exact W.h1
  w4 := by rw [W.wid_turnd]; exact W.h4
  le := by
    show wid (Fb.turnd b) * hgt (Fb.turnd b) ≤ 12
    rw [W.wid_turnd, hgt_turnd, Nat.mul_comm]; exact W.le
  rows := fun r hr => by
    rw [W.wid_turnd]
    unfold Fb.turnd at hr
    obtain ⟨c, hc, rfl⟩ := List.mem_map.mp hr
    rw [List.mem_range] at hc
    refine ⟨by rw [List.length_map], fun k hk => ?_⟩
    obtain ⟨row, hrow, rfl⟩ := List.mem_map.mp hk
    obtain ⟨l1, l2⟩ := W.rows row hrow
    rw [List.getD_eq_getElem?_getD, List.getElem?_eq_getElem (by rw [l1]; exact hc)]
    exact l2 _ (List.getElem_mem _)
theorem mv_turnd (W : Wf b) : Mv false swp b (turnd b) where
  w1 := W
  w2 := W.turnd
  gm := by rw [hgt_turnd, W.wid_turnd]; exact gm_swp W.h5 W.w5
  sg := fun p h1 h2 => W.sgn_turnd h1 h2
theorem hgt_flatB (b : Bd) : hgt (flatB b) = hgt b := by simp [flatB, hgt]
theorem Wf.wid_flatB (W : Wf b) : wid (flatB b) = wid b := by
  rw [wid_getD, wid_getD]
  unfold flatB
  rw [getD_map b _ 0 [] [] W.h1, List.length_reverse]
theorem Wf.flatB (W : Wf b) : Wf (flatB b) where
  h1 := by show 1 ≤ hgt (Fb.flatB b); rw [hgt_flatB]; exact W.h1
  h4 := by show hgt (Fb.flatB b) ≤ 4; rw [hgt_flatB]; exact W.h4
  w1 := by rw [W.wid_flatB]; exact W.w1
  w4 := by rw [W.wid_flatB]; exact W.w4
  le := by show wid (Fb.flatB b) * hgt (Fb.flatB b) ≤ 12; rw [W.wid_flatB, hgt_flatB]; exact W.le
  rows := fun r hr => by
    rw [W.wid_flatB]
    obtain ⟨row, hrow, rfl⟩ := List.mem_map.mp hr
    obtain ⟨l1, l2⟩ := W.rows row hrow
    exact ⟨by rw [List.length_reverse]; exact l1, fun k hk => l2 k (List.mem_reverse.mp hk)⟩
theorem getD_rev {α : Type} (l : List α) (i : Nat) (z : α) (h : i < l.length) : l.reverse.getD (l.length - 1 - i) z = l.getD i z := by
  rw [List.getD_eq_getElem?_getD, List.getD_eq_getElem?_getD, List.getElem?_reverse (by omega)]
  congr 2
  omega
theorem mv_flatB (W : Wf b) : Mv false (flc (wid b)) b (flatB b) where
  w1 := W
  w2 := W.flatB
  gm := by rw [hgt_flatB, W.wid_flatB]; exact gm_flc W.h5 W.w5
  sg := fun p h1 h2 => by
    show ((flatB b).getD p.1 []).getD (wid b - 1 - p.2) 0 = _
    have hl := (W.row h1).2.1
    unfold flatB
    rw [getD_map b _ p.1 [] [] h1, ← hl, getD_rev _ p.2 0 (by rw [hl]; exact h2)]
    rfl
theorem hgt_rev (b : Bd) : hgt b.reverse = hgt b := by simp [hgt]
theorem Wf.wid_rev (W : Wf b) : wid b.reverse = wid b := by
  have hm : b.reverse.getD 0 [] ∈ b := by
    have hl : 0 < b.reverse.length := by rw [List.length_reverse]; exact W.h1
    rw [List.getD_eq_getElem?_getD, List.getElem?_eq_getElem hl]
    exact List.mem_reverse.mp (List.getElem_mem hl)
  rw [wid_getD]
  exact (W.rows _ hm).1
theorem Wf.rev (W : Wf b) : Wf b.reverse where
  h1 := by rw [List.length_reverse]; exact W.h1
  h4 := by rw [List.length_reverse]; exact W.h4
  w1 := by rw [W.wid_rev]; exact W.w1
  w4 := by rw [W.wid_rev]; exact W.w4
  le := by rw [W.wid_rev, List.length_reverse]; exact W.le
  rows := fun r hr => by
    rw [W.wid_rev]
    exact W.rows r (List.mem_reverse.mp hr)
theorem mv_rev (W : Wf b) : Mv false (flr (hgt b)) b b.reverse where
  w1 := W
  w2 := W.rev
  gm := by rw [hgt_rev, W.wid_rev]; exact gm_flr W.h5 W.w5
  sg := fun p h1 h2 => by
    show (b.reverse.getD (hgt b - 1 - p.1) []).getD p.2 0 = _
    rw [show hgt b - 1 - p.1 = b.length - 1 - p.1 from rfl, getD_rev b p.1 [] h1]
    rfl
/-! ### exchanging and moving go with the tick -/
theorem tick_exch (W : Wf b) : tick (exch b) = exch (tick b) := (mv_exch W).tick.uniq (mv_exch W.tick) (by rw [hgt_tick, hgt_exch, hgt_exch, hgt_tick]) (by rw [wid_tick W.exch.h1, W.wid_exch, W.tick.wid_exch, wid_tick W.h1])
theorem tick_turnd (W : Wf b) : tick (turnd b) = turnd (tick b) := (mv_turnd W).tick.uniq (mv_turnd W.tick) (by rw [hgt_tick, hgt_turnd, hgt_turnd, wid_tick W.h1]) (by rw [wid_tick W.turnd.h1, W.wid_turnd, W.tick.wid_turnd, hgt_tick])
theorem tick_flatB (W : Wf b) : tick (flatB b) = flatB (tick b) := by
  have m := mv_flatB W.tick
  rw [wid_tick W.h1] at m
  exact (mv_flatB W).tick.uniq m (by rw [hgt_tick, hgt_flatB, hgt_flatB, hgt_tick]) (by rw [wid_tick W.flatB.h1, W.wid_flatB, W.tick.wid_flatB, wid_tick W.h1])
theorem tick_rev (W : Wf b) : tick b.reverse = (tick b).reverse := by
  have m := mv_rev W.tick
  rw [hgt_tick] at m
  exact (mv_rev W).tick.uniq m (by rw [hgt_tick, hgt_rev, hgt_rev, hgt_tick]) (by rw [wid_tick W.rev.h1, W.wid_rev, W.tick.wid_rev, wid_tick W.h1])
theorem exch_exch (W : Wf b) : exch (exch b) = b := by
  have m := mv_exch W
  have k := mv_exch W.exch
  refine (ext_bd W k.w2 (by rw [hgt_exch, hgt_exch]) (by rw [W.exch.wid_exch, W.wid_exch]) fun p h1 h2 => ?_).symm
  have e1 := m.sg p h1 h2
  have e2 := k.sg p (by rw [hgt_exch]; exact h1) (by rw [W.wid_exch]; exact h2)
  have e1 : sgn (exch b) p = fx true (sgn b p) := e1
  have e2 : sgn (exch (exch b)) p = fx true (sgn (exch b) p) := e2
  rw [e2, e1]
  rcases isSign_cases (W.sgn_at h1 h2).2 with z | z | z | z <;> rw [z] <;> rfl
theorem turnd_turnd (W : Wf b) : turnd (turnd b) = b := by
  refine (ext_bd W W.turnd.turnd (by rw [hgt_turnd, W.wid_turnd]) (by rw [W.turnd.wid_turnd, hgt_turnd]) fun p h1 h2 => ?_).symm
  rw [← W.sgn_turnd h1 h2]
  exact (W.turnd.sgn_turnd (p := (p.2, p.1)) (by rw [hgt_turnd]; exact h2) (by rw [W.wid_turnd]; exact h1)).symm
end
end Fb

/-! turned; rules under the dice; sorted cells. -/
namespace Fb
open PySem PySem.Spec PyProof.Rows L2
section
variable {K : PySem.W.Frag} {T : List (Addr × Str)} {B : List Addr} {E : XK} {ρ ρ1 : Env} {te : TE} {tr : TA} {tt : TT} {wi : TI} {d : D} {ds : List D} {b : Bool}
/-- what changes nothing, beside what may change -/
theorem ev_nB (h : EvX ⟨K, T, [], E⟩ te ρ ρ1 d) : EvX ⟨K, T, B, E⟩ te ρ ρ1 d := fun σ G H s Q q => h σ G H s Q fun v G' H' g => q v G' H' (grow_nil g)
theorem et_nB (h : EvT ⟨K, T, [], E⟩ tt ρ ρ1 b) : EvT ⟨K, T, B, E⟩ tt ρ ρ1 b := fun σ G H s Q q => h σ G H s Q fun G' H' g => q G' H' (grow_nil g)
theorem ea_nB (h : EvA ⟨K, T, [], E⟩ tr ρ ρ1 ds) : EvA ⟨K, T, B, E⟩ tr ρ ρ1 ds := fun σ G H s Q q => h σ G H s Q fun v G' H' g => q v G' H' (grow_nil g)
end
def P_turned (K : PySem.W.Frag) (ds : List D) (r : Rz) : Prop := Asks K ds r fun b d => d = dB (turnd b)
abbrev N_turned : List Str := ["board", "column", "signs"]
def t_turned (K : PySem.W.Frag) (w : World) (E : XK) : TS := (tSeq (tDrop (tCall (spF (P_need_board K)) [] E (tCons (tVar 0) tNil)))
 (tRet (tCB (rTupleOf K) (tCons (tLc (iRng1 (tCons (tCB (rLen K) (tCons (tOp (rIx K) (tVar 0) (tC (.int 0))) tNil)) tNil)) (gName 1) tYes (tM1 (rJoin K) (tC (.str "")) (tLc (iAny K (tVar 0)) (gName 2) tYes (tOp (rIx K) (tVar 2) (tVar 1)) [2])) [1]) tNil))))
section
variable {K : PySem.W.Frag} {w : World} {vs : List V} {H : Hp} {Q : VK} {E : XK} {c : Cfg} {ρ ρ1 ρ2 : Env} {te tr : TE} {b : Bd}
theorem len_turned (h : spF (P_turned K) vs H Q E) : vs.length = 1 := spF_len (fun ds r p => len1 p) h
/-- text[j], at a sign -/
theorem ev_ixR {l : List Nat} {i : Nat} {ta tb : TE} (h : EvX c ta ρ ρ (dR l)) (hi : EvX c tb ρ ρ (.int (i : Nat))) (hl : i < l.length) (hm : l.length ≤ 1000) : EvX c (tOp (rIx c.K) ta tb) ρ ρ (dR [l.getD i 0]) :=
  ev_op h hi (ux_ixS (k := l.getD i 0) (by rw [tx_len]; omega) (atI_nat (by rw [tx_list, List.getD_eq_getElem?_getD, List.getElem?_eq_getElem hl]; rfl)))
theorem ev_turnedC (W : Wf b) (hB : c.B = []) {i j : Nat} (hij : i ≠ j) (hi : i < ρ.length) (hj : j < ρ.length) (wi : EvI c (iRng1 (tCons (tCB (rLen c.K) (tCons (tOp (rIx c.K) te (tC (.int 0))) tNil)) tNil)) ρ ρ ((List.range (wid b)).map fun i : Nat => PyData.int (i : Nat)))
    (hb : ∀ k : Nat, EvX c te ((wipeE ρ [i]).set i (.dat (.int (k : Nat)))) ((wipeE ρ [i]).set i (.dat (.int (k : Nat)))) (dB b)) :
    EvX c (tCB (rTupleOf c.K) (tCons (tLc (iRng1 (tCons (tCB (rLen c.K) (tCons (tOp (rIx c.K) te (tC (.int 0))) tNil)) tNil)) (gName i) tYes (tM1 (rJoin c.K) (tC (.str "")) (tLc (iAny c.K te) (gName j) tYes (tOp (rIx c.K) (tVar j) (tVar i)) [j])) [i]) tNil)) ρ ρ (dB (turnd b)) := by
  have hh := W.h4
  have hw := W.w4
  refine ev_is (ev_tupOf (ev_lcA (List.range (wid b)) (fun i : Nat => PyData.int (i : Nat)) (fun k => dR (b.map fun r => r.getD k 0)) (fun k ρ => ρ.set i (.dat (.int (k : Nat)))) [i] wi (by rw [List.length_range]; omega) hB (fun _ _ => tg_name) (fun _ h => h) (fun k hk => ?_))) ?_
  · rw [List.mem_range] at hk
    refine ev_joinS (l := b.map fun r => r.getD k 0) (ev_is (ev_lcA b dR (fun r => dR [r.getD k 0]) (fun r ρ => ρ.set j (.dat (dR r))) [j] (ui_tup (hb k)) (by omega) hB (fun _ _ => tg_name) (fun _ h => h) (fun r hr => ?_)) (by rw [List.map_map]; rfl)) (by rw [List.length_map]; omega)
    obtain ⟨e1, e2⟩ := W.rows r hr
    refine ev_ixR (ev_var ?_) (ev_var ?_) (by rw [e1]; exact hk) (by omega)
    · rw [List.getElem?_set_self (by simp [wipeE_len, hj])]
    · rw [List.getElem?_set_ne (fun z => hij z.symm)]
      show (((((wipeE ρ [i]).set i _) : Env).set j .un))[i]? = _
      rw [List.getElem?_set_ne (fun z => hij z.symm), List.getElem?_set_self (by simp [wipeE_len, hi])]
  · unfold dB turnd
    rw [List.map_map]
    rfl
theorem body_turned (h : spF (P_turned K) vs H Q E) : t_turned K w E { nx := fun _ H' => Q .non H', rt := Q } (L2.start N_turned vs) H :=
  pure_of (t := t_turned K w) (P := P_turned K) (asks_of (N := N_turned) (u := fun E => _) fun E b d W hz => by
    subst hz
    have hw := W.w4
    exact ⟨_, exs_ret (ev_turnedC (c := ⟨K, [], [], E⟩) (ρ := env0 N_turned [dB b]) W rfl (i := 1) (j := 2) (by decide) (by simp [env0]) (by simp [env0]) (ei_range (ev_wid (c := ⟨K, [], [], E⟩) W (ev_var rfl)) (by omega)) (fun k => ev_var rfl)) (OwnSub.refl _)⟩) h
theorem ev_turned (W : Wf b) {E' : XK} (h : EvX c te ρ ρ1 (dB b)) : EvX c (tCall (spF (P_turned K)) [] E' (tCons te tNil)) ρ ρ1 (dB (turnd b)) := ev_asks (fun _ _ h => h) W rfl h
end
/-! ### sorted cells -/
theorem alike_dC (x y : Cl) : PySem.W.alike (dC x) (dC y) = true := by simp [dC, PySem.W.alike, PySem.W.alikeAll]
theorem le_dC (a b : Cl) : PySem.W.dataLe false dC a b = true ↔ ¬ ltC b a := by
  show (!PySem.W.dataLt (dC b) (dC a)) = true ↔ _
  rw [lt_dC, Bool.not_eq_true', decide_eq_false_iff_not]
theorem ltC_tri (a b : Cl) : ltC a b ∨ a = b ∨ ltC b a := by
  obtain ⟨a1, a2⟩ := a
  obtain ⟨b1, b2⟩ := b
  simp only [ltC, Prod.mk.injEq]
  omega
/-- lists in order, of the same cells, are the same -/
theorem asc_ext : ∀ {l m : List Cl}, l.Pairwise ltC → m.Pairwise ltC → (∀ c, c ∈ l ↔ c ∈ m) → l = m
  | [], [], _, _, _ => rfl
  | [], b :: m, _, _, h => absurd ((h b).mpr List.mem_cons_self) (by simp)
  | a :: l, [], _, _, h => absurd ((h a).mp List.mem_cons_self) (by simp)
  | a :: l, b :: m, hl, hm, h => by
    obtain ⟨l1, l2⟩ := List.pairwise_cons.mp hl
    obtain ⟨m1, m2⟩ := List.pairwise_cons.mp hm
    have e : a = b := by
      rcases List.mem_cons.mp ((h a).mp List.mem_cons_self) with z | z
      · exact z
      · rcases List.mem_cons.mp ((h b).mpr List.mem_cons_self) with y | y
        · exact y.symm
        · exact absurd (m1 a z) (ltC_asym (l1 b y))
    subst e
    congr 1
    refine asc_ext l2 m2 fun c => ?_
    constructor
    · intro hc
      rcases List.mem_cons.mp ((h c).mp (List.mem_cons_of_mem _ hc)) with z | z
      · rw [z] at hc
        exact absurd (l1 a hc) (ltC_irr a)
      · exact z
    · intro hc
      rcases List.mem_cons.mp ((h c).mpr (List.mem_cons_of_mem _ hc)) with z | z
      · rw [z] at hc
        exact absurd (m1 a hc) (ltC_irr a)
      · exact z
theorem sort_asc {l m : List Cl} (hm : m.Pairwise ltC) (hp : l.Perm m) : (l.map dC).mergeSort (PySem.W.dataLe false id) = m.map dC := by
  rw [← List.map_mergeSort (r := PySem.W.dataLe false dC) (s := PySem.W.dataLe false id) (f := dC) (fun a _ b _ => rfl)]
  congr 1
  have nd : l.Nodup := by
    rw [hp.nodup_iff, List.nodup_iff_pairwise_ne]
    exact hm.imp fun {a c} h e => by rw [e] at h; exact ltC_irr c h
  have hs := List.pairwise_mergeSort (le := PySem.W.dataLe false dC) (fun a b c h1 h2 => by
    rw [le_dC] at *
    intro z
    rcases ltC_tri a b with y | y | y
    · exact h2 (ltC_trans z y)
    · exact h2 (y ▸ z)
    · exact h1 y) (fun a b => by
    rw [Bool.or_eq_true, le_dC, le_dC]
    rcases ltC_tri a b with y | y | y
    · exact .inl (ltC_asym y)
    · exact .inl (y ▸ ltC_irr a)
    · exact .inr (ltC_asym y)) l
  refine asc_ext ?_ hm fun c => (List.mergeSort_perm _ _).mem_iff.trans hp.mem_iff
  have nd2 : (l.mergeSort (PySem.W.dataLe false dC)).Nodup := (List.mergeSort_perm _ _).nodup_iff.mpr nd
  rw [List.nodup_iff_pairwise_ne] at nd2
  refine (hs.and nd2).imp fun {a b} h => ?_
  obtain ⟨h1, h2⟩ := h
  rw [le_dC] at h1
  rcases ltC_tri a b with y | y | y
  · exact y
  · exact absurd y h2
  · exact absurd y h1
theorem rc_sortC {K : PySem.W.Frag} {l m : List Cl} (hm : m.Pairwise ltC) (hp : l.Perm m) (hl : l.length ≤ 100000) : RC (rSortedD K) [.list (l.map dC)] (.list (m.map dC)) := by
  rw [← sort_asc hm hp]
  exact rc_sorted (PySem.W.AllAlike.of alike_dC) (PySem.W.Sortable.tuples fun b => ⟨_, _, rfl⟩) (by rw [List.length_map]; exact hl) fun d hd => by
    obtain ⟨c, _, rfl⟩ := List.mem_map.mp hd
    exact Nat.le_trans (good_cl.dep c) (by decide)
end Fb

/-! Tension never grows; what never changes. -/
namespace Fb
open PySem PySem.Spec PyProof.Rows L2
theorem dis_ne (a b : Bool) : dis a b = if (b != a) = true then 1 else 0 := by cases a <;> cases b <;> rfl
section
variable {b : Bd}
def ten (h w : Nat) (u v : Cl → Bool) : Nat := sumL (cells h w) fun a => sumL (nb h w a) fun q => dis (u a) (v q)
theorem ten_edges (h w : Nat) (u v : Cl → Bool) : ten h w u v = sumL (edges h w) fun e => dis (u e.1) (v e.2) := by
  unfold ten edges
  rw [sumL_flatMap]
  exact sumL_congr fun a _ => (sumL_map (nb h w a) (fun q => (a, q)) (fun e : Cl × Cl => dis (u e.1) (v e.2))).symm
theorem ten_comm {h w : Nat} (hh : h < 5) (hw : w < 5) (u v : Cl → Bool) : ten h w u v = ten h w v u := by
  rw [ten_edges, ten_edges]
  have p := List.isPerm_iff.mp (edges_swap h hh w hw)
  have e := sumL_perm p fun e => dis (u e.1) (v e.2)
  rw [sumL_map] at e
  rw [← e]
  exact sumL_congr fun a _ => dis_comm _ _
theorem tens_ten (b : Bd) : tens b = ten (hgt b) (wid b) (iceAt (tick b)) (iceAt b) := by
  rw [tens_sum]
  unfold ten
  refine sumL_congr fun a _ => ?_
  rw [← sumL_count]
  exact sumL_congr fun q _ => (dis_ne _ _).symm
/-- the tick is with most neighbours -/
theorem least (W : Wf b) {p : Cl} (h1 : p.1 < hgt b) (h2 : p.2 < wid b) {z : Bool} (hz : isStone (sgn b p) = true → z = iceAt (tick b) p) :
    (sumL (nb (hgt b) (wid b) p) fun q => dis (iceAt (tick b) p) (iceAt b q)) ≤ sumL (nb (hgt b) (wid b) p) fun q => dis z (iceAt b q) := by
  by_cases e : z = iceAt (tick b) p
  · rw [e]; exact Nat.le_refl _
  · have hs : isStone (sgn b p) = false := by
      cases h : isStone (sgn b p) with
      | false => rfl
      | true => exact absurd (hz h) e
    have := pay_least W h1 h2 hs e
    unfold pay at this
    have d1 := dis_le (iceAt (tick b) p) (iceAt b p)
    have d2 := dis_le z (iceAt b p)
    omega
theorem tens_fall (W : Wf b) : tens (tick b) ≤ tens b := by
  rw [tens_ten b, tens_ten (tick b), hgt_tick, wid_tick W.h1, ten_comm W.h5 W.w5 (iceAt (tick b)) (iceAt b)]
  unfold ten
  refine sumL_le fun a ha => ?_
  obtain ⟨a1, a2⟩ := mem_cells.mp ha
  have k := least W.tick (p := a) (by rw [hgt_tick]; exact a1) (by rw [wid_tick W.h1]; exact a2) (z := iceAt b a) (fun hs => by
    rw [ice_stone W.tick (by rw [hgt_tick]; exact a1) (by rw [wid_tick W.h1]; exact a2) hs]
    rw [stone_tick W a1 a2] at hs
    exact (ice_stone W a1 a2 hs).symm)
  rw [hgt_tick, wid_tick W.h1] at k
  exact k
theorem end_two (W : Wf b) : tick (tick (endB b)) = endB b := by
  obtain ⟨F, _⟩ := fateN_ok W
  unfold endB
  rcases F.at_ with h | h
  · rw [h, h]
  · exact h
theorem tens_end (W : Wf b) : tens (tick (endB b)) = tens (endB b) := by
  have We : Wf (endB b) := W.later
  have h1 := tens_fall We
  have h2 := tens_fall We.tick
  rw [end_two W] at h2
  omega
theorem later_add : ∀ (n m : Nat) (b : Bd), later (n + m) b = later m (later n b)
  | 0, m, b => by rw [Nat.zero_add]; rfl
  | n + 1, m, b => by
    rw [show n + 1 + m = (n + m) + 1 by omega]
    exact later_add n m (tick b)
theorem later_far (W : Wf b) : ∀ k : Nat, later (fateN b + k) b = endB b ∨ later (fateN b + k) b = tick (endB b)
  | 0 => .inl rfl
  | k + 1 => by
    rw [← Nat.add_assoc, later_succ]
    rcases later_far W k with h | h
    · rw [h]; exact .inr rfl
    · rw [h, end_two W]; exact .inl rfl
def keptP (b : Bd) (i : Nat) (c : Cl) : Bool := (List.range i).all fun j => decide (iceAt (later (j + 1) b) c = iceAt b c)
theorem kept_eq (b : Bd) : ∀ i : Nat, kept b i = (free b).filter (keptP b i)
  | 0 => (List.filter_eq_self.mpr (fun _ _ => rfl)).symm
  | i + 1 => by
    unfold kept
    rw [kept_eq b i, List.filter_filter]
    refine List.filter_congr fun c _ => ?_
    unfold keptP
    rw [List.range_succ, List.all_append, Bool.and_comm]
    simp
theorem keptP_iff {i : Nat} {c : Cl} : keptP b i c = true ↔ ∀ j, j ≤ i → iceAt (later j b) c = iceAt b c := by
  unfold keptP
  rw [List.all_eq_true]
  constructor
  · intro h j hj
    cases j with
    | zero => rfl
    | succ j => exact of_decide_eq_true (h j (List.mem_range.mpr (by omega)))
  · intro h j hj
    exact decide_eq_true (h (j + 1) (by have := List.mem_range.mp hj; omega))
theorem keptP_far (W : Wf b) {c : Cl} (h : keptP b (fateN b + 2) c = true) (j : Nat) : iceAt (later j b) c = iceAt b c := by
  rw [keptP_iff] at h
  by_cases hj : j ≤ fateN b
  · exact h j (by omega)
  · have e := later_far W (j - fateN b)
    rw [show fateN b + (j - fateN b) = j by omega] at e
    have h0 := h (fateN b) (by omega)
    have h1 := h (fateN b + 1) (by omega)
    rw [later_succ] at h1
    rcases e with e | e
    · rw [e]; exact h0
    · rw [e]; exact h1
theorem never_mem (W : Wf b) {c : Cl} : c ∈ never b (fateN b) ↔ c ∈ free b ∧ ∀ j, iceAt (later j b) c = iceAt b c := by
  unfold never
  rw [kept_eq, List.mem_filter]
  exact ⟨fun h => ⟨h.1, fun j => keptP_far W h.2 j⟩, fun h => ⟨h.1, keptP_iff.mpr fun j _ => h.2 j⟩⟩
theorem kept_more (W : Wf b) {i : Nat} (h : fateN b + 2 ≤ i) : kept b i = never b (fateN b) := by
  unfold never
  rw [kept_eq, kept_eq]
  refine List.filter_congr fun c _ => ?_
  rw [Bool.eq_iff_iff]
  constructor
  · intro z
    rw [keptP_iff] at z ⊢
    exact fun j hj => z j (by omega)
  · intro z
    rw [keptP_iff]
    exact fun j _ => keptP_far W z j
theorem never_asc (b : Bd) (n : Nat) : (never b n).Pairwise ltC := by
  unfold never
  rw [kept_eq]
  exact (free_sorted b).sublist List.filter_sublist
theorem never_len (b : Bd) (n : Nat) : (never b n).length ≤ (free b).length := kept_len _
theorem never_all (W : Wf b) : never b (fateN b) = free b ↔ tick b = b := by
  constructor
  · intro e
    refine ext_ice W.tick W (hgt_tick b) (wid_tick W.h1) (fun p h1 h2 => ?_) (fun p h1 h2 => ?_)
    · rw [hgt_tick] at h1
      rw [wid_tick W.h1] at h2
      exact stone_tick W h1 h2
    · rw [hgt_tick] at h1
      rw [wid_tick W.h1] at h2
      cases hs : isStone (sgn b p) with
      | true => exact ice_stone W h1 h2 hs
      | false =>
        have hf : p ∈ free b := W.mem_free.mpr ⟨h1, h2, by
          have := (W.sgn_at h1 h2).2
          simp only [Bool.or_eq_true, Bool.or_eq_false_iff, beq_iff_eq, beq_eq_false_iff_ne] at this hs ⊢
          omega⟩
        rw [← e] at hf
        exact ((never_mem W).mp hf).2 1
  · intro e
    have hl : ∀ j, later j b = b := fun j => by
      induction j with
      | zero => rfl
      | succ j ih => rw [later_succ, ih, e]
    refine asc_ext (never_asc b _) (free_sorted b) fun c => ?_
    rw [never_mem W]
    exact ⟨fun h => h.1, fun h => ⟨h, fun j => by rw [hl j]⟩⟩
theorem never_exch (W : Wf b) : never (exch b) (fateN (exch b)) = never b (fateN b) := by
  have m := mv_exch W
  rw [m.fateN]
  refine asc_ext (never_asc _ _) (never_asc _ _) fun c => ?_
  constructor
  · intro h
    have hf := kept_sub h
    obtain ⟨c1, c2, _⟩ := W.exch.mem_free.mp hf
    rw [hgt_exch] at c1
    rw [W.wid_exch] at c2
    exact (m.mem_kept c1 c2 _).mp h
  · intro h
    obtain ⟨c1, c2, _⟩ := W.mem_free.mp (kept_sub h)
    exact (m.mem_kept c1 c2 _).mpr h
theorem never_turnd (W : Wf b) : ((never b (fateN b)).map swp).Perm (never (turnd b) (fateN (turnd b))) := by
  have m := mv_turnd W
  rw [m.fateN]
  have nd : ∀ n, ∀ b : Bd, (never b n).Nodup := fun n b => by
    rw [List.nodup_iff_pairwise_ne]
    exact (never_asc b n).imp fun {a c} h e => by rw [e] at h; exact ltC_irr c h
  refine (List.perm_ext_iff_of_nodup ?_ (nd _ _)).mpr fun q => ?_
  · rw [List.nodup_iff_pairwise_ne, List.pairwise_map]
    have n2 := nd (fateN b) b
    rw [List.nodup_iff_pairwise_ne] at n2
    exact n2.imp fun {a c} hne e => hne (Prod.ext (congrArg Prod.snd e) (congrArg Prod.fst e))
  · rw [List.mem_map]
    constructor
    · rintro ⟨p, hp, rfl⟩
      obtain ⟨p1, p2, _⟩ := W.mem_free.mp (kept_sub hp)
      exact (m.mem_kept p1 p2 _).mpr hp
    · intro hq
      obtain ⟨q1, q2, _⟩ := W.turnd.mem_free.mp (kept_sub hq)
      rw [hgt_turnd] at q1
      rw [W.wid_turnd] at q2
      exact ⟨(q.2, q.1), (m.mem_kept (p := (q.2, q.1)) q2 q1 _).mp hq, rfl⟩
theorem never_end (W : Wf b) {c : Cl} (h : c ∈ never b (fateN b)) : c ∈ never (endB b) (fateN (endB b)) := by
  have We : Wf (endB b) := W.later
  obtain ⟨h1, h2⟩ := (never_mem W).mp h
  obtain ⟨c1, c2, c3⟩ := W.mem_free.mp h1
  rw [never_mem We]
  have st : ∀ n, isStone (sgn (later n b) c) = isStone (sgn b c) := fun n => by
    induction n with
    | zero => rfl
    | succ n ih => rw [later_succ, stone_tick W.later (by rw [hgt_later]; exact c1) (by rw [wid_later _ W]; exact c2), ih]
  refine ⟨We.mem_free.mpr ⟨by unfold endB; rw [hgt_later]; exact c1, by unfold endB; rw [wid_later _ W]; exact c2, ?_⟩, fun j => ?_⟩
  · have s1 := st (fateN b)
    have sg := (We.sgn_at (p := c) (by unfold endB; rw [hgt_later]; exact c1) (by unfold endB; rw [wid_later _ W]; exact c2)).2
    have s1 : isStone (sgn (endB b) c) = isStone (sgn b c) := s1
    have hs : isStone (sgn b c) = false := by
      simp only [Bool.or_eq_true, Bool.or_eq_false_iff, beq_iff_eq, beq_eq_false_iff_ne] at c3 ⊢
      omega
    rw [hs] at s1
    simp only [Bool.or_eq_true, Bool.or_eq_false_iff, beq_iff_eq, beq_eq_false_iff_ne] at sg s1 ⊢
    omega
  · have e : later j (endB b) = later (fateN b + j) b := (later_add _ _ _).symm
    rw [e, h2, show iceAt (endB b) c = iceAt b c from h2 (fateN b)]
end
end Fb

/-! Words that the laws share. -/
namespace Fb
open PySem PySem.Spec PyProof.Rows L2
section
variable {K : PySem.W.Frag} {T : List (Addr × Str)} {E : XK} {p : Addr} {ρ ρ1 : Env} {te tr : TE} {tt : TT} {b : Bd}
/-- f(dice, ..), the arguments rolling, too -/
theorem ev_diceN {c : Cfg} {P : Int → Int → List D → D → Int → Int → Prop} {ta : TA} {z : D} {E : XK} {ds : List D} {i : Nat} {p : Addr} {o0 : HO} {a b a' b' : Int} (h0 : ρ[i]? = some (.obj p o0)) (hi : ρ1[i]? = some (.obj p (dice a b))) (hB : c.B = [p]) (h : EvA c ta ρ ρ1 ds) (hP : P a b ds z a' b') :
    EvX c (tCall (spDice P) [] E (tCons (tVar i) ta)) ρ (ρ1.set i (.obj p (dice a' b'))) z := fun σ G H s Q q => by
  obtain ⟨q1, q2, q3, q4⟩ := s.ent i _ h0
  refine ⟨.ref p, q1, h σ G H s _ fun vs G1 H1 g1 s1 i1 => ?_⟩
  obtain ⟨w1, w2, w3, w4⟩ := s1.ent i _ hi
  refine ⟨G1, p, a, b, vs, ds, z, a', b', by simp, s1.gh, w3, w2, i1, hP, fun v G2 H2 g2 gh2 h2 i2 => q v G2 H2 (g1.trans (by rw [hB]; exact g2)) (s1.grow1 hi g2 gh2 h2 (fun _ z => by cases z)) i2⟩
/-- a board falls -/
theorem ev_anyB {s : Int × Int} {m : Nat} (h1 : 1 ≤ m) (h2 : m ≤ 12) (hi : ρ[1]? = some (.obj p (dice s.1 s.2))) :
    EvX ⟨K, T, [p], E⟩ (tCall (spDice P_any) [] E (tCons (tVar 1) (tCons (tC (.int (m : Nat))) tNil))) ρ (ρ.set 1 (.obj p (dice (anyEnd s m).1 (anyEnd s m).2))) (dB (anyB s m)) :=
  ev_dice (c := ⟨K, T, [p], E⟩) (P := P_any) (i := 1) (p := p) hi rfl (ea_cons ev_int ea_nil) ⟨m, rfl, h1, h2, rfl, rfl, rfl⟩
theorem exs_anyB {s : Int × Int} {m i : Nat} (h1 : 1 ≤ m) (h2 : m ≤ 12) (hi : ρ[1]? = some (.obj p (dice s.1 s.2))) :
    ExS ⟨K, T, [p], E⟩ (tAsg (tCall (spDice P_any) [] E (tCons (tVar 1) (tCons (tC (.int (m : Nat))) tNil))) (gName i)) ρ (.next ((ρ.set 1 (.obj p (dice (anyEnd s m).1 (anyEnd s m).2))).set i (.dat (dB (anyB s m))))) :=
  exs_set (c := ⟨K, T, [p], E⟩) (ev_anyB h1 h2 hi) osO
/-- .., whatever it is -/
theorem drop_anyB (K : PySem.W.Frag) (T : List (Addr × Str)) (E : XK) {ρ : Env} {p : Addr} {s : Int × Int} (m i : Nat) (h1 : 1 ≤ m) (h2 : m ≤ 12) (hi : ρ[1]? = some (.obj p (dice s.1 s.2))) : ∃ (b : Bd) (d : Int × Int), Wf b ∧ hgt b * wid b ≤ m ∧
    ExS ⟨K, T, [p], E⟩ (tAsg (tCall (spDice P_any) [] E (tCons (tVar 1) (tCons (tC (.int (m : Nat))) tNil))) (gName i)) ρ (.next ((ρ.set 1 (.obj p (dice d.1 d.2))).set i (.dat (dB b)))) := by
  obtain ⟨W, h3, _⟩ := anyB_wf s h1 h2
  exact ⟨_, _, W, h3, exs_anyB h1 h2 hi⟩
theorem err_ok : PySem.PyData.strOk "error" = true := by decide +kernel
theorem ev_term {c : Cfg} {ρ : Env} {nm : Str} : EvX c (tTup (tCons (tC (.str "error")) (tCons (tC (.str nm)) tNil))) ρ ρ (termD nm) := ev_tp (ea_cons ev_str (ea_cons ev_str ea_nil))
theorem good_ss : Good (fun p : Str × Str => PyData.tuple [.str p.1, .str p.2]) (fun p => PySem.PyData.strOk p.1 = true ∧ PySem.PyData.strOk p.2 = true) 1 := good_pair good_str good_str
theorem gx_neTerm {K : PySem.W.Frag} {nm : Str} (h : PySem.PyData.strOk nm = true) : RX (rNeD K) (termD nm) (termD nm) (.bool false) := by
  have g := gx_ne (K := K) (a := (("error" : Str), nm)) (b := (("error" : Str), nm)) good_ss (by decide) ⟨err_ok, h⟩ ⟨err_ok, h⟩
  simp only [decide_true, Bool.not_true] at g
  exact g
theorem good_i2 : Good (fun p : Int × Int => PyData.tuple [.int p.1, .int p.2]) (fun _ => True ∧ True) 1 := good_pair good_int good_int
theorem gx_neI2 {i j k m : Int} : RX (rNeD K) (.tuple [.int i, .int j]) (.tuple [.int k, .int m]) (.bool (!decide ((i, j) = (k, m)))) := gx_ne (a := (i, j)) (b := (k, m)) good_i2 (by decide) ⟨trivial, trivial⟩ ⟨trivial, trivial⟩
/-- if _law_told(lambda: ..) != ("error", nm): return False -/
theorem exs_toldE {c : Cfg} {ρ : Env} {C : Addr} {nm : Str} {f : XK → TE} {t : TS} (tk : TermOk c.K C nm) (hn : PySem.PyData.strOk nm = true) (h : ∀ E' : XK, EvE ⟨c.K, c.T, [], E'⟩ (f E') ρ C) :
    ExS c (tIfS (tTest (tOp (rNeD c.K) (tTold c.K c.T f) (tTup (tCons (tC (.str "error")) (tCons (tC (.str nm)) tNil))))) t tNext) ρ (.next ρ) :=
  exs_skip (et_test (ev_op (ev_toldE tk h) ev_term (gx_neTerm hn))) (OwnSub.refl _)
/-- a == b of numbers, known to be so -/
theorem et_neSame {c : Cfg} {n m : Nat} (h1 : EvX c te ρ ρ (.int (n : Nat))) (h2 : EvX c tr ρ ρ (.int (m : Nat))) (e : n = m) : EvT c (tTest (tOp (rNeD c.K) te tr)) ρ ρ false :=
  et_is (et_test (ev_op h1 h2 gx_neI)) (by rw [e]; simp)
theorem et_neBd {c : Cfg} {b b' : Bd} (W : Wf b) (W' : Wf b') (h1 : EvX c te ρ ρ (dB b)) (h2 : EvX c tr ρ ρ (dB b')) (e : b = b') : EvT c (tTest (tOp (rNeD c.K) te tr)) ρ ρ false :=
  et_is (et_test (ev_neB W W' h1 h2)) (by rw [e]; simp)
theorem gx_neCs {K : PySem.W.Frag} {s u : List Cl} : RX (rNeD K) (dCs s) (dCs u) (.bool (!decide (s = u))) := gx_ne good_cs (by decide) (fun _ _ => trivial) (fun _ _ => trivial)
theorem et_neCs {c : Cfg} {s u : List Cl} (h1 : EvX c te ρ ρ (dCs s)) (h2 : EvX c tr ρ ρ (dCs u)) (e : s = u) : EvT c (tTest (tOp (rNeD c.K) te tr)) ρ ρ false :=
  et_is (et_test (ev_op h1 h2 gx_neCs)) (by rw [e]; simp)
theorem et_neBool {c : Cfg} {s u : Bool} (h1 : EvX c te ρ ρ (.bool s)) (h2 : EvX c tr ρ ρ (.bool u)) (e : s = u) : EvT c (tTest (tOp (rNeD c.K) te tr)) ρ ρ false :=
  et_is (et_test (ev_op h1 h2 gx_neB)) (by rw [e]; simp)
theorem good_cl2 : Good (fun s : List Cl => PyData.list (s.map dC)) (Ev All1) 2 := good_lst good_cl
theorem et_neCl {c : Cfg} {s u : List Cl} (h1 : EvX c te ρ ρ (.list (s.map dC))) (h2 : EvX c tr ρ ρ (.list (u.map dC))) (e : s = u) : EvT c (tTest (tOp (rNeD c.K) te tr)) ρ ρ false :=
  et_is (et_test (ev_op h1 h2 (gx_ne good_cl2 (by decide) (fun _ _ => trivial) (fun _ _ => trivial)))) (by rw [e]; simp)
/-- two tests of which neither holds -/
theorem et_or2 {c : Cfg} {t u : TT} (h1 : EvT c t ρ ρ false) (h2 : EvT c u ρ ρ false) : EvT c (tOr t u) ρ ρ false := et_or (a := false) (b := false) h1 (fun _ => h2)
/-- (("#", ),) written -/
theorem ev_tup1 {c : Cfg} {x : Str} {l : List Nat} (e : x = tx l) : EvX c (tTup (tCons (tC (.str x)) tNil)) ρ ρ (dB [l]) := ev_is (ev_tp (ea_cons ev_str ea_nil)) (by rw [e]; rfl)
end
end Fb

/-! A comprehension whose element wants that a token is out (text.replace of written texts); the def bare. -/
namespace Fb
open PySem PySem.Spec PyProof.Rows L2
section
variable {X : Cx}
theorem thnT {α : Type} {t : Sem α} {Q Q' : α → Shared → Prop} {M : Model} {A : Around} {E : Value → Shared → Prop} {s : Shared} (hn : 1 ≤ s.toks) (h : wpAny M A t Q E s) (k : ∀ a s', 1 ≤ s'.toks → Q a s' → Q' a s') : wpAny M A t Q' E s :=
  wpAny_mono (wpAny_toks_of hn h) (fun a s' z => k a s' z.1 z.2) fun _ _ z => z.2
theorem thnFT {α : Type} {t : Sem α} {Q Q' : α → Shared → Prop} {M : Model} {A : Around} {E : Value → Shared → Prop} {s : Shared} (hn : 1 ≤ s.toks) (h : wpAny M A t Q (fun _ _ => False) s) (k : ∀ a s', 1 ≤ s'.toks → Q a s' → Q' a s') : wpAny M A t Q' E s :=
  wpAny_mono (wpAny_toks_of hn h) (fun a s' z => k a s' z.1 z.2) fun _ _ z => z.2.elim
/-- each block's element, given a token -/
def BlkT (X : Cx) (scope : Scope) (elt : Expr) (te : TE) : Prop :=
  ∀ (s : Shared) (H : Hp) (C : Addr) (cl : List (Str × Addr)) (fp : List Addr), PET (X.blk s H scope (compEnvC scope cl C X.env) fp) elt te
def BlkG (X : Cx) (scope : Scope) (tg : Expr) (g : TG) : Prop :=
  ∀ (s : Shared) (H : Hp) (C : Addr) (cl : List (Str × Addr)) (fp : List Addr), PG (X.blk s H scope (compEnvC scope cl C X.env) fp) tg g
def BlkQ (X : Cx) (scope : Scope) (ifs : List Expr) (tt : TT) : Prop :=
  ∀ (s : Shared) (H : Hp) (C : Addr) (cl : List (Str × Addr)) (fp : List Addr), PTs (X.blk s H scope (compEnvC scope cl C X.env) fp) ifs tt
/-- statement and proof follow HandS.Comp's, the token beside them -/
theorem pet_lc {elt tg iter : Expr} {ifs : List Expr} {scope : Scope} {own : List (Str × Nat)} {pos : Pos} {wi : TI} {g : TG} {tt : TT} {te : TE}
    (hc : X.calm = true) (hN : X.N.Nodup) (hi : PI X tg iter wi) (ok : BlkOk X.N X.env.scope scope own)
    (hg : BlkG X scope tg g) (ht : BlkQ X scope ifs tt) (he : BlkT X scope elt te)
    (hs : ∀ x, foldedSetIterable iter X.env x = pure x := by intro _; rfl) : PET X (.ListComp elt [⟨tg, iter, ifs, 0⟩] scope pos) (tLc wi g tt te (own.map (·.2))) := by
  intro pins s σ H Q tk0 I h
  rw [eval_ListComp]
  have fr : ∀ y ∈ scope.names, y.2 = .free → ∃ c, X.env.cells.lookup y.1 = some c := by
    intro y hy e
    rcases ok.free y hy e with k | k
    · exact I.ok.has _ (.inl k)
    · exact I.ok.has _ (.inr k)
  refine wpAny_comprehension_free rfl hs (closure_ok fr) ok.kind (fun y hy e => by rw [ok.uniq y hy, e]) (?_ : wpAny _ _ (eval iter X.env) _ _ _)
  refine thnT tk0 (hi.run pins s σ H _ I h) fun xv sa tka hx => ?_
  refine thnT tka hx fun itv s2 tk2 h2 => ?_
  obtain ⟨it, fp, tn, J, H2, rfl, I2, T, st2, f2, q⟩ := h2
  refine wpAny_newObj_type (newEnv_comp ?_) (by show 0 ≤ sizeLine; decide)
  generalize hD : s2.heap.objs.size = L
  have freshL : H2 L = none := I2.hok.fresh (Nat.le_of_eq hD)
  obtain ⟨W, ⟨m0, w0⟩, turn⟩ := q L freshL
  generalize e3 : ({ s2 with heap := s2.heap.push { cls := .type "list", data := .seq ([] : List Value).toArray } } : Shared) = s3
  have tk3 : 1 ≤ s3.toks := by rw [← e3]; exact tk2
  have I3 : Inv X pins σ (upd H2 L (.lst [])) s3 := by
    rw [← e3]
    exact I2.laid (t' := s2.toks) (fun b o e => Heap.get?_push_of_some _ e) (Nat.le_of_eq hD) ⟨Nat.zero_le _, [], 0, .nil, by rw [← hD]; exact Heap.get?_push_size _ rfl⟩
  have g3 : s3.heap = s2.heap.push { cls := .type "list", data := .seq ([] : List Value).toArray } := by rw [← e3]
  have below : ∀ b ∈ fp, b < s2.heap.objs.size := by
    intro b hb
    obtain ⟨o, e, _⟩ := T.obj _ _ st2 b hb
    exact Heap.lt_size e
  have f3 : ∀ b ∈ fp, FpOk X pins (upd H2 L (.lst [])) b ∧ b < s3.heap.objs.size := by
    intro b hb
    have hlt := below b hb
    refine ⟨⟨?_, (f2 b hb).2⟩, by rw [g3, Heap.size_push]; exact Nat.lt_succ_of_lt hlt⟩
    rw [upd_ne (by rw [← hD]; exact Nat.ne_of_lt hlt)]
    exact (f2 b hb).1
  have st3 : tn 0 s3.heap := T.keep _ _ _ st2 (by intro b _ o e; rw [g3]; exact Heap.get?_push_of_some _ e)
  have I4 := block_start I3 ok hN f3
  have pg := hg s3 (upd H2 L (.lst [])) s3.heap.objs.size (cellsFrom (s3.heap.objs.size + 1) scope.names (cloFrom X.env.cells scope.names [])) fp
  have pt := ht s3 (upd H2 L (.lst [])) s3.heap.objs.size (cellsFrom (s3.heap.objs.size + 1) scope.names (cloFrom X.env.cells scope.names [])) fp
  have pe := he s3 (upd H2 L (.lst [])) s3.heap.objs.size (cellsFrom (s3.heap.objs.size + 1) scope.names (cloFrom X.env.cells scope.names [])) fp
  show codeAny _ _ (.compStart (.ListComp elt [⟨tg, iter, ifs, 0⟩] scope pos) 0 (.ref it) (.ref L) (compEnvC scope (cellsFrom (s3.heap.objs.size + 1) scope.names (cloFrom X.env.cells scope.names [])) s3.heap.objs.size X.env)) _ { s3 with heap := pushCells (s3.heap.push { cls := .type "dict", data := .dict #[] }) scope.names }
  have nfp : ∀ b ∈ fp, (upd H2 L (.lst [])) b = none := by intro b hb; exact (f3 b hb).1.1
  generalize hce : compEnvC scope (cellsFrom (s3.heap.objs.size + 1) scope.names (cloFrom X.env.cells scope.names [])) s3.heap.objs.size X.env = ce at I4 pg pt pe ⊢
  have cL : ce.locals = s3.heap.objs.size := by subst hce; rfl
  generalize hH3 : upd H2 L (.lst []) = H3 at I3 I4 pg pt pe w0 nfp f3
  generalize e4 : ({ s3 with heap := pushCells (s3.heap.push { cls := .type "dict", data := .dict #[] }) scope.names } : Shared) = s4 at I4 ⊢
  have tk4 : 1 ≤ s4.toks := by rw [← e4]; exact tk3
  have st4 : tn 0 s4.heap := T.keep _ _ _ st3 (by intro b _ o e; rw [← e4]; exact pushCells_keeps _ _ _ _ (Heap.get?_push_of_some _ e))
  have stat : ∀ {σ' : L2.St} {H' : Hp} {s' : Shared}, Inv (X.blk s3 H3 scope ce fp) [] σ' H' s' → (∀ b ∈ fp, H' b = none) → ∀ b ∈ fp, FpOk (X.blk s3 H3 scope ce fp) [] H' b := by
    intro σ' H' s' I' hn b hb
    exact ⟨hn b hb, (I'.ok.exf b hb).1, I'.ok.exfs b hb, .inl hb, fun x c e => (I'.ok.exf b hb).2 x c e, fun p hp => absurd (show p ∈ ([] : List (Addr × Obj)) ++ [] from hp) (by simp)⟩
  refine codeAny_compStart_list (?loop : codeAny (model X.prog X.w) X.A (.compLoop (.ListComp elt [⟨tg, iter, ifs, 0⟩] scope pos) 0 (.ref it) (.ref L) ce) _ s4) (T.self X.A 0 _ _ _ st4 ?loop)
  refine compLoop_any (fun n s' => 1 ≤ s'.toks ∧ ∃ i H', Inv (X.blk s3 H3 scope ce fp) [] (wipe σ (own.map (·.2))) H' s' ∧ tn i s'.heap ∧ (∀ b ∈ fp, H' b = none) ∧ W i n H') ?_ m0 ⟨tk4, 0, H3, I4, st4, nfp, w0⟩
  rintro n s5 ⟨tk5, i, H5, I5, st5, n5, w5⟩
  rcases turn i n H5 w5 with ⟨stop, qq⟩ | ⟨go, Nx, hNx, step⟩
  · refine thnF (T.done (X.blk s3 H3 scope ce fp) rfl rfl rfl hc i [] s5 _ H5 (fun _ _ => False) I5 (stat I5 n5) st5 stop) fun r s6 hr6 => ?_
    obtain ⟨rfl, I6⟩ := hr6
    have I7 : Inv X pins σ H5 s6 := I3.call' (ch := fp) I6.os I6.base I6.hok I6.bare fun b hb => ⟨(f3 b hb).1.2.2.2.1, (f3 b hb).1.2.1, (f3 b hb).1.2.2.2.2.1, (f3 b hb).1.2.2.2.2.2⟩
    have nC : H5 s3.heap.objs.size = none := by rw [← cL]; exact I6.free
    obtain ⟨m, hn, _⟩ := I6.loc
    have hn' : s6.heap.Ns s3.heap.objs.size m := by rw [← cL]; exact hn
    refine ⟨m, hn', fun h'' sb => ?_⟩
    obtain ⟨z0, z1, z2, z3, z4, z5⟩ := I3.fpOk (H' := H5) (Nat.le_refl _) nC
    exact ⟨.ref L, H5, I7.turned (t' := s6.toks) (fun b o hb e => (sb.2 b hb).trans e) z0 z1 z3 z4 z5, rfl, qq⟩
  · refine thnFT tk5 (T.item (X.blk s3 H3 scope ce fp) rfl rfl rfl hc i [] s5 _ H5 (fun _ _ => False) I5 (stat I5 n5) st5 go) fun r s6 tk6 hr6 => ?_
    obtain ⟨u, rfl, h6⟩ := hr6
    refine thnFT tk6 h6 fun _ s7 tk7 h7 => ?_
    obtain ⟨x, H7, I7, r7, y7, st7, n7⟩ := h7
    have I8 := I7.pinned (stat I7 n7) (T.obj _ _ st7)
    refine thnFT tk7 (pg.run _ s7 _ H7 x u _ I8 r7 (step x H7 y7)) fun _ s8 tk8 h8 => ?_
    obtain ⟨σ8, H8, I8, hw8, q8⟩ := h8
    refine thnFT tk8 (pt.run _ s8 σ8 H8 _ I8 q8) fun b s9 tk9 h9 => ?_
    obtain ⟨H9, I9, q9⟩ := h9
    have fin : ∀ {s' : Shared} {H' : Hp}, 1 ≤ s'.toks → Inv (X.blk s3 H3 scope ce fp) ([] ++ pinsAt fp s7.heap) σ8 H' s' → Nx H' →
        ∃ m, m < n ∧ (1 ≤ s'.toks ∧ ∃ i H', Inv (X.blk s3 H3 scope ce fp) [] (wipe σ (own.map (·.2))) H' s' ∧ tn i s'.heap ∧ (∀ b ∈ fp, H' b = none) ∧ W i m H') := by
      intro s' H' tk' I' nx
      obtain ⟨m', hm, w'⟩ := hNx H' nx
      have stay : ∀ b ∈ fp, ∀ o, s7.heap.get? b = some o → s'.heap.get? b = some o ∧ H' b = none := by
        intro b hb o e
        have z := I'.pin (b, o) (List.mem_append_right _ (List.mem_append_right _ (mem_pinsAt hb e)))
        exact ⟨z.1, z.2.1⟩
      refine ⟨m', hm, tk', i + 1, H', (I'.unpinned (pins := [])).weak (by rw [← hw8, wipe_length]) (fun j v e => ?_), T.keep _ _ _ st7 (fun b hb o e => (stay b hb o e).1), fun b hb => ?_, w'⟩
      · rw [← hw8] at e
        exact (wipe_some e).1
      · obtain ⟨o, e, _⟩ := T.obj _ _ st7 b hb
        exact (stay b hb o e).2
    cases b with
    | false =>
      simp only [Bool.false_eq_true, if_false] at q9 ⊢
      exact fin tk9 I9 q9
    | true =>
      simp only [if_true] at q9 ⊢
      refine thnFT tk9 (pe _ s9 σ8 H9 _ tk9 I9 q9) fun z s10 tk10 h10 => ?_
      obtain ⟨yv, H10, I10, r10, acc, hD10, hz10, nx⟩ := h10
      exact thnT tk10 (app_ok (X := X.blk s3 H3 scope ce fp) (Q := fun _ s' => Inv (X.blk s3 H3 scope ce fp) ([] ++ pinsAt fp s7.heap) σ8 (upd H10 L (.lst (acc ++ [yv]))) s') I10 hD10 hz10 r10 fun s11 I11 => I11) fun _ s11 tk11 I11 => fin tk11 I11 nx
end
end Fb

/-! bare, same_shape, need_pair. -/
namespace Fb
open PySem PySem.Spec PyProof.Rows L2
/-- a def that wants a token: its parameters' binding gives one out -/
theorem ok_tok {P : Program} {w : World} {K : PySem.W.Frag} {mg : Str → Option Value} {base : Heap} {CX : CXT} {N ps : List Str} {k : Nat} {sp : Sp} {st : Stmt} {x : Str} {f : Addr} {fd : FuncData} (F : FnP K x st f fd) (S : FnScope N ps (defScope st))
    (hnc : ∀ y ∈ (defScope st).names, y.2 ≠ .cell) (hps : 1 ≤ ps.length) (len : ∀ vs H Q E, sp vs H Q E → vs.length = ps.length)
    (hbody : ∀ (cdv : Value) (A : Around) (outer : List PySem.Env) (s : Shared) (H : Hp) (vs : List V) (Q : VK) (E : XK), Room k (A.deeper (envOfC x (defScope st) s.heap.objs.size f cdv)) → sp vs H Q E →
      ∃ t, PSsT (cxOf CX P w K mg base N x (defScope st) f cdv A outer s H E) (defBody st) t ∧ t { nx := fun _ H' => Q .non H', rt := Q } (L2.start N vs) H) : FnOk P w K mg base CX (k + 1) f fd ps sp := by
  obtain ⟨oc, od, dV, kV, doc, pm, an, cdv, ct, osl, e, lk, hcd, _, _⟩ := F.ex
  subst e
  exact fn_ofT lk hcd S hnc hps len fun A outer s H vs Q E hr hsp => hbody cdv A outer s H vs Q E hr hsp
theorem pet_callTy {X : Cx} {x : Str} {p pos : Pos} {e : Expr} {es : List Expr} {t : TA} {T : String} {r : List V → Hp → VK → Prop} (hc : CallR X (.type T) r) (hg : Gl X x) (hm : X.mg x = none) (hv : bootBuiltins x = some (.type T)) (ha : PAT X (e :: es) t)
    (hn : x ≠ "__name__" := by decide) (hdb : (x == ("__debug__" : Str)) = false := by decide)
    (he : starEach (e :: es) X.env = (false, eval e X.env) :: starEach es X.env := by rfl) (hpl : (backTo pos (starEach es X.env)).any (·.1) = false := by rfl) : PET X (.Call (.Name x p) (e :: es) [] pos) (tCB r t) := by
  intro pins s σ H Q tk I h
  refine wpAny_Call_Name_kw (ld_blt I hg hm hv ?_ hn hdb)
  exact PyProof.Rows.callWith_type1 (thn (ha pos pins s σ H _ tk I h) fun us s1 z => by
    obtain ⟨vs, H1, I1, r1, q1⟩ := z
    exact hc pins s1 σ H1 vs us Q I1 r1 q1) he hpl
/-! ### replace of one sign -/
def bareR (r : List Nat) : List Nat := r.map fun k => if k = 35 then 46 else k
def bareB (b : Bd) : Bd := b.map bareR
theorem repl_one (l : List Nat) : StrLaws.replL [35] [46] l = bareR l := by
  induction l with
  | nil => exact StrLaws.replL_nil
  | cons k l ih =>
    show _ = (if k = 35 then 46 else k) :: bareR l
    by_cases e : k = 35
    · rw [StrLaws.replL_hit (by decide) (by rw [e]; rfl), if_pos e]
      show 46 :: StrLaws.replL [35] [46] l = _
      rw [ih]
    · rw [StrLaws.replL_miss (by simpa using e), if_neg e, ih]
theorem repl_tx (r : List Nat) : Txt.replace (tx r) (tx [35]) (tx [46]) = tx (bareR r) := by
  have e := StrLaws.replace_list (x := tx r) (y := tx [35]) (z := tx [46]) (by decide)
  have e : (Txt.replace (tx r) (tx [35]) (tx [46])).cps.toList = StrLaws.replL [35] [46] r := e
  rw [repl_one] at e
  rw [← tx_of (Txt.replace (tx r) (tx [35]) (tx [46])), e]
section
variable {K : PySem.W.Frag} {w : World} {vs : List V} {H : Hp} {Q : VK} {E : XK} {c : Cfg} {ρ ρ1 ρ2 : Env} {te tr : TE} {b b' : Bd}
theorem ev_replB {r : List Nat} (h : EvX c te ρ ρ1 (dR r)) (hl : r.length ≤ 1000) : EvX c (CwR.tReplC te "#" ".") ρ ρ1 (dR (bareR r)) := fun σ G H s Q q => h σ G H s _ fun v G1 H1 g1 s1 i1 => by
  cases i1
  refine ⟨tx r, rfl, ?_, ?_⟩
  · rw [tx_len, s46, tx_len]
    show r.length + (r.length + 1) * 1 ≤ _
    omega
  · rw [s35, s46, repl_tx]
    exact q _ G1 H1 g1 s1 (.str _)
end
def P_bare (K : PySem.W.Frag) (ds : List D) (r : Rz) : Prop := ∃ b, ds = [dB b] ∧ Wf b ∧ r = .inl (dB (bareB b))
abbrev N_bare : List Str := ["board", "signs"]
def t_bare (K : PySem.W.Frag) (w : World) (E : XK) : TS := tRet (tCB (rTupleOf K) (tCons (tLc (iAny K (tVar 0)) (gName 1) tYes (CwR.tReplC (tVar 1) "#" ".") [1]) tNil))
/-- two boards are asked for -/
def AsksP (K : PySem.W.Frag) (ds : List D) (r : Rz) (z : Bd → Bd → Rz → Prop) : Prop := ∃ v u, ds = [v, u] ∧ smallB v ∧ smallB u ∧ ((isBoardD v = false ∧ r = .inr (He.ga K "InvalidBoard")) ∨
  ∃ b, v = dB b ∧ Wf b ∧ ((isBoardD u = false ∧ r = .inr (He.ga K "InvalidBoard")) ∨ ∃ b', u = dB b' ∧ Wf b' ∧ z b b' r))
def P_same_shape (K : PySem.W.Frag) (ds : List D) (r : Rz) : Prop := AsksP K ds r fun b b' r => r = .inl (.bool (decide (bareB b = bareB b')))
def P_need_pair (K : PySem.W.Frag) (ds : List D) (r : Rz) : Prop := AsksP K ds r fun b b' r => r = if bareB b = bareB b' then .inl .none else .inr (He.ga K "Unlike")
/-- .. of one shape -/
def AsksU (K : PySem.W.Frag) (ds : List D) (r : Rz) (z : Bd → Bd → D → Prop) : Prop := AsksP K ds r fun b b' r => (bareB b ≠ bareB b' ∧ r = .inr (He.ga K "Unlike")) ∨ (bareB b = bareB b' ∧ ∃ d, z b b' d ∧ r = .inl d)
theorem len2P {K : PySem.W.Frag} {ds : List D} {r : Rz} {z : Bd → Bd → Rz → Prop} (h : AsksP K ds r z) : ds.length = 2 := by
  obtain ⟨v, u, rfl, _⟩ := h
  rfl
abbrev N_same_shape : List Str := ["board", "other"]
def t_same_shape (K : PySem.W.Frag) (w : World) (E : XK) : TS := (tSeq (tDrop (tCall (spF (P_need_board K)) [] E (tCons (tVar 0) tNil)))
 (tSeq (tDrop (tCall (spF (P_need_board K)) [] E (tCons (tVar 1) tNil)))
 (tRet (tOp (rEqD K) (tCall (spF (P_bare K)) [] E (tCons (tVar 0) tNil)) (tCall (spF (P_bare K)) [] E (tCons (tVar 1) tNil))))))
abbrev N_need_pair : List Str := ["board", "other"]
def t_need_pair (K : PySem.W.Frag) (w : World) (E : XK) : TS := (tSeq (tDrop (tCall (spF (P_need_board K)) [] E (tCons (tVar 0) tNil)))
 (tSeq (tDrop (tCall (spF (P_need_board K)) [] E (tCons (tVar 1) tNil)))
 (tIfS (tTest (tOp (rNeD K) (tCall (spF (P_bare K)) [] E (tCons (tVar 0) tNil)) (tCall (spF (P_bare K)) [] E (tCons (tVar 1) tNil)))) (tRaise (He.ga K "Unlike") E) tNext)))
section
variable {K : PySem.W.Frag} {w : World} {vs : List V} {H : Hp} {Q : VK} {E : XK} {c : Cfg} {ρ ρ1 ρ2 : Env} {te tr : TE} {b b' : Bd}
theorem len_bare (h : spF (P_bare K) vs H Q E) : vs.length = 1 := spF_len (fun ds r p => by obtain ⟨_, e, _⟩ := p; rw [e]; rfl) h
theorem len_same_shape (h : spF (P_same_shape K) vs H Q E) : vs.length = 2 := spF_len (fun ds r p => len2P p) h
theorem len_need_pair (h : spF (P_need_pair K) vs H Q E) : vs.length = 2 := spF_len (fun ds r p => len2P p) h
theorem body_bare (h : spF (P_bare K) vs H Q E) : t_bare K w E { nx := fun _ H' => Q .non H', rt := Q } (L2.start N_bare vs) H := pure_of (t := t_bare K w) (fun E ds r q => by
  obtain ⟨b, rfl, W, rfl⟩ := q
  have hh := W.h4
  have hw := W.w4
  refine giv (exs_ret (c := ⟨K, [], [], E⟩) (ρ := env0 N_bare [dB b]) (ev_is (ev_tupOf (c := ⟨K, [], [], E⟩) (ev_lcA (c := ⟨K, [], [], E⟩) b dR (fun r => dR (bareR r)) (fun r ρ => ρ.set 1 (.dat (dR r))) [1] (ui_tup (ev_var rfl)) (by omega) rfl (fun _ _ => tg_name) (fun _ h => h) (fun r hr => ev_replB (ev_var rfl) (by
    obtain ⟨e1, _⟩ := W.rows r hr
    omega)))) ?_) (OwnSub.refl _))
  unfold dB bareB
  rw [List.map_map]
  rfl) h
theorem ev_bare (W : Wf b) {E' : XK} (hb : EvX c te ρ ρ1 (dB b)) : EvX c (tCall (spF (P_bare K)) [] E' (tCons te tNil)) ρ ρ1 (dB (bareB b)) := ev_call (P := P_bare K) (ea_cons hb ea_nil) ⟨b, rfl, W, rfl⟩
theorem Wf.bare_ok (W : Wf b) : Ev Fb.okR (bareB b) := fun r hr => by
  obtain ⟨u, hu, rfl⟩ := List.mem_map.mp hr
  obtain ⟨e1, e2⟩ := W.rows u hu
  show (tx (bareR u)).cps.all (· < 0x110000) = true
  rw [← Array.all_toList, tx_list, List.all_eq_true]
  intro k hk
  obtain ⟨m, hm, rfl⟩ := List.mem_map.mp hk
  refine decide_eq_true ?_
  show (if m = 35 then 46 else m) < 0x110000
  split
  · decide
  · exact sign_ok W (e2 m hm)
theorem asksP_of {N : List Str} {u : XK → TS} {z : Bd → Bd → Rz → Prop} (hu : ∀ E b b' r, Wf b → Wf b' → z b b' r → ∃ o, ExS ⟨K, [], [], E⟩ (u E) (env0 N [dB b, dB b']) o ∧ outOf o r) :
    ∀ (E : XK) (ds : List D) (r : Rz), AsksP K ds r z → ∃ o, ExS ⟨K, [], [], E⟩ (tSeq (tDrop (tCall (spF (P_need_board K)) [] E (tCons (tVar 0) tNil))) (tSeq (tDrop (tCall (spF (P_need_board K)) [] E (tCons (tVar 1) tNil))) (u E))) (env0 N ds) o ∧ outOf o r := fun E ds r p => by
  obtain ⟨v, u', rfl, hs, hs', ⟨hb, rfl⟩ | ⟨b, rfl, W, ⟨hb, rfl⟩ | ⟨b', rfl, W', hz⟩⟩⟩ := p
  · exact givX (exs_seq_exc (exs_drop_exc (c := ⟨K, [], [], E⟩) (ee_call (P := P_need_board K) (ds := [v]) (ea_cons (ev_var env0_0) ea_nil) ⟨v, rfl, hs, by rw [if_neg (by rw [hb]; exact Bool.false_ne_true)]⟩)))
  · exact givX (exs_seq (exs_need W env0_0 rfl) (exs_seq_exc (exs_drop_exc (c := ⟨K, [], [], E⟩) (ee_call (P := P_need_board K) (ds := [u']) (ea_cons (ev_var rfl) ea_nil) ⟨u', rfl, hs', by rw [if_neg (by rw [hb]; exact Bool.false_ne_true)]⟩))))
  · obtain ⟨o, h1, h2⟩ := hu E b b' r W W' hz
    exact ⟨o, exs_seq (exs_need W env0_0 rfl) (exs_seq (exs_drop (ev_call (P := P_need_board K) (z := .none) (ea_cons (ev_var rfl) ea_nil) ⟨dB b', rfl, W'.small, by rw [if_pos W'.isB]⟩) (OwnSub.refl _)) h1), h2⟩
theorem ev_eqBare (W : Wf b) (W' : Wf b') (h1 : EvX c te ρ ρ (dB b)) (h2 : EvX c tr ρ ρ (dB b')) {E' : XK} : EvX c (tOp (rEqD c.K) (tCall (spF (P_bare K)) [] E' (tCons te tNil)) (tCall (spF (P_bare K)) [] E' (tCons tr tNil))) ρ ρ (.bool (decide (bareB b = bareB b'))) :=
  ev_op (ev_bare W h1) (ev_bare W' h2) (gx_eq good_bd (by decide) W.bare_ok W'.bare_ok)
theorem ev_neBare (W : Wf b) (W' : Wf b') (h1 : EvX c te ρ ρ (dB b)) (h2 : EvX c tr ρ ρ (dB b')) {E' : XK} : EvX c (tOp (rNeD c.K) (tCall (spF (P_bare K)) [] E' (tCons te tNil)) (tCall (spF (P_bare K)) [] E' (tCons tr tNil))) ρ ρ (.bool (!decide (bareB b = bareB b'))) :=
  ev_op (ev_bare W h1) (ev_bare W' h2) (gx_ne good_bd (by decide) W.bare_ok W'.bare_ok)
theorem body_same_shape (h : spF (P_same_shape K) vs H Q E) : t_same_shape K w E { nx := fun _ H' => Q .non H', rt := Q } (L2.start N_same_shape vs) H :=
  pure_of (t := t_same_shape K w) (P := P_same_shape K) (asksP_of (N := N_same_shape) (u := fun E => _) fun E b b' r W W' hz => by
    subst hz
    exact giv (exs_ret (c := ⟨K, [], [], E⟩) (ev_eqBare (c := ⟨K, [], [], E⟩) W W' (ev_var rfl) (ev_var rfl)) (OwnSub.refl _))) h
theorem body_need_pair (h : spF (P_need_pair K) vs H Q E) : t_need_pair K w E { nx := fun _ H' => Q .non H', rt := Q } (L2.start N_need_pair vs) H :=
  pure_of (t := t_need_pair K w) (P := P_need_pair K) (asksP_of (N := N_need_pair) (u := fun E => _) fun E b b' r W W' hz => by
    subst hz
    have tst := ev_neBare (c := ⟨K, [], [], E⟩) (ρ := env0 N_need_pair [dB b, dB b']) W W' (te := tVar 0) (tr := tVar 1) (ev_var rfl) (ev_var rfl) (E' := E) (K := K)
    by_cases e : bareB b = bareB b'
    · rw [if_pos e]
      exact givN (exs_if (b := false) (et_is (et_test tst) (by simp [e])) (OwnSub.refl _) (fun z => nomatch z) (fun _ => exs_nil))
    · rw [if_neg e]
      exact givX (exs_if (b := true) (et_is (et_test tst) (by simp [e])) (OwnSub.refl _) (fun _ => exs_raise (c := ⟨K, [], [], E⟩)) (fun z => nomatch z))) h
/-- need_pair(..), then the rest -/
theorem asksU_of {N : List Str} {u : XK → TS} {z : Bd → Bd → D → Prop} (hu : ∀ E b b' d, Wf b → Wf b' → bareB b = bareB b' → z b b' d → ∃ ρ1, ExS ⟨K, [], [], E⟩ (u E) (env0 N [dB b, dB b']) (.ret ρ1 d)) :
    ∀ (E : XK) (ds : List D) (r : Rz), AsksU K ds r z → ∃ o, ExS ⟨K, [], [], E⟩ (tSeq (tDrop (tCall (spF (P_need_pair K)) [] E (tCons (tVar 0) (tCons (tVar 1) tNil)))) (u E)) (env0 N ds) o ∧ outOf o r := fun E ds r p => by
  obtain ⟨v, u', rfl, hs, hs', q⟩ := p
  have call : ∀ {r'}, P_need_pair K [v, u'] (.inr r') → ∃ o, ExS ⟨K, [], [], E⟩ (tSeq (tDrop (tCall (spF (P_need_pair K)) [] E (tCons (tVar 0) (tCons (tVar 1) tNil)))) (u E)) (env0 N [v, u']) o ∧ outOf o (.inr r') := fun hp =>
    givX (exs_seq_exc (exs_drop_exc (c := ⟨K, [], [], E⟩) (ee_call (P := P_need_pair K) (ea_cons (ev_var rfl) (ea_cons (ev_var rfl) ea_nil)) hp)))
  rcases q with ⟨hb, rfl⟩ | ⟨b, rfl, W, ⟨hb, rfl⟩ | ⟨b', rfl, W', ⟨hn, rfl⟩ | ⟨he, d, hz, rfl⟩⟩⟩
  · exact call ⟨v, u', rfl, hs, hs', .inl ⟨hb, rfl⟩⟩
  · exact call ⟨_, u', rfl, hs, hs', .inr ⟨b, rfl, W, .inl ⟨hb, rfl⟩⟩⟩
  · exact call ⟨_, _, rfl, hs, hs', .inr ⟨b, rfl, W, .inr ⟨b', rfl, W', (if_neg hn).symm⟩⟩⟩
  · obtain ⟨ρ1, h1⟩ := hu E b b' d W W' he hz
    exact giv (exs_seq (exs_drop (ev_call (P := P_need_pair K) (z := .none) (ea_cons (ev_var rfl) (ea_cons (ev_var rfl) ea_nil)) ⟨_, _, rfl, hs, hs', .inr ⟨b, rfl, W, .inr ⟨b', rfl, W', (if_pos he).symm⟩⟩⟩) (OwnSub.refl _)) h1)
theorem ev_sameShape (W : Wf b) (W' : Wf b') {E' : XK} (h1 : EvX c te ρ ρ1 (dB b)) (h2 : EvX c tr ρ1 ρ2 (dB b')) : EvX c (tCall (spF (P_same_shape K)) [] E' (tCons te (tCons tr tNil))) ρ ρ2 (.bool (decide (bareB b = bareB b'))) :=
  ev_call (P := P_same_shape K) (ea_cons h1 (ea_cons h2 ea_nil)) ⟨_, _, rfl, W.small, W'.small, .inr ⟨b, rfl, W, .inr ⟨b', rfl, W', rfl⟩⟩⟩
theorem ev_pairU {P : List D → Rz → Prop} {z : Bd → Bd → D → Prop} {d : D} (hP : ∀ ds r, AsksU K ds r z → P ds r) (W : Wf b) (W' : Wf b') (he : bareB b = bareB b') (hz : z b b' d) {E' : XK} (h1 : EvX c te ρ ρ1 (dB b)) (h2 : EvX c tr ρ1 ρ2 (dB b')) : EvX c (tCall (spF P) [] E' (tCons te (tCons tr tNil))) ρ ρ2 d :=
  ev_call (ea_cons h1 (ea_cons h2 ea_nil)) (hP _ _ ⟨_, _, rfl, W.small, W'.small, .inr ⟨b, rfl, W, .inr ⟨b', rfl, W', .inr ⟨he, d, hz, rfl⟩⟩⟩⟩)
end
end Fb

/-! tuple[::-1]. -/
namespace Fb
open PySem PySem.Spec PyProof.Rows L2
theorem applied_back {prog : Program} {w : World} {A : Around} {E : Value → Shared → Prop} {s : Shared} {sl : Addr} {vs : Value} {n : Nat} {Q : Int × Int × Nat → Shared → Prop} (hs : s.heap.IsSliceOf sl .none .none vs) (ps : IsPart vs (some (-1)))
    (h : Q ((n : Int) - 1, -1, n) s) : wpAny (model prog w) A (Builtin.Slice.sliceApplied (.ref sl) (pure (n : Int))) Q E s := by
  obtain ⟨os, ho, _, hd⟩ := id hs
  unfold Builtin.Slice.sliceApplied Builtin.Slice.sliceFields
  refine wpAny_bind (wpAny_bind (wpAny_field ho hd (x := .none) rfl (wpAny_bind (wpAny_field ho hd (x := .none) rfl (wpAny_bind (wpAny_field ho hd (x := vs) rfl (wpAny_pure ?_)))))))
  refine wpAny_bind (HT.slicePart_ ps ?_)
  show wpAny _ _ (if ((-1 : Int) == 0) = true then _ else _) _ _ s
  rw [if_neg (by decide)]
  refine wpAny_bind (HT.slicePart_ .none (wpAny_bind (HT.slicePart_ .none (wpAny_bind (wpAny_pure ?_)))))
  have e1 : Builtin.Slice.sliceAdjust none none (-1) (n : Int) = ((n : Int) - 1, -1) := by
    unfold Builtin.Slice.sliceAdjust
    simp
  have e2 : Builtin.Slice.slicePlaces ((n : Int) - 1) (-1) (-1) = n := by
    unfold Builtin.Slice.slicePlaces
    simp
    omega
  show wpAny _ _ (match Builtin.Slice.sliceAdjust none none (-1) (n : Int) with | (lo, hi) => pure (lo, (-1 : Int), Builtin.Slice.slicePlaces lo hi (-1))) _ _ s
  rw [e1]
  show wpAny _ _ (pure ((n : Int) - 1, (-1 : Int), Builtin.Slice.slicePlaces ((n : Int) - 1) (-1) (-1))) _ _ s
  rw [e2]
  exact wpAny_pure h
theorem pick_back (xs : Array Value) : (List.range xs.size).filterMap (fun (k : Nat) => xs[(((xs.size : Int) - 1) + (k : Int) * (-1)).toNat]?) = xs.toList.reverse := by
  have e : (fun (k : Nat) => xs[(((xs.size : Int) - 1) + (k : Int) * (-1)).toNat]?) = fun k => xs.toList[(xs.toList.length - 1 - k)]? := by
    funext k
    have : (((xs.size : Int) - 1) + (k : Int) * (-1)).toNat = xs.size - 1 - k := by omega
    rw [this]
    simp
  rw [e]
  have key : ∀ l : List Value, (List.range l.length).filterMap (fun k => l[l.length - 1 - k]?) = l.reverse := fun l => by
    have e2 : (List.range l.length).filterMap (fun k => l[l.length - 1 - k]?) = (List.range l.length).filterMap (fun k => l.reverse[k]?) := by
      have : ∀ (m : List Nat), (∀ k ∈ m, k < l.length) → m.filterMap (fun k => l[l.length - 1 - k]?) = m.filterMap (fun k => l.reverse[k]?) := fun m => by
        induction m with
        | nil => intro _; rfl
        | cons a m ih =>
          intro h
          rw [List.filterMap_cons, List.filterMap_cons, ih fun k hk => h k (List.mem_cons_of_mem _ hk), List.getElem?_reverse (h a List.mem_cons_self)]
      exact this _ fun k hk => List.mem_range.mp hk
    rw [e2]
    have e3 : ∀ m : List Value, (List.range m.length).filterMap (fun k => m[k]?) = m := fun m => by
      apply List.ext_getElem?
      intro i
      induction m generalizing i with
      | nil => rfl
      | cons a m ih =>
        rw [List.length_cons, List.range_succ_eq_map, List.filterMap_cons]
        simp only [List.getElem?_cons_zero, List.filterMap_map]
        cases i with
        | zero => rfl
        | succ i =>
          rw [List.getElem?_cons_succ, List.getElem?_cons_succ]
          exact ih i
    have := e3 l.reverse
    rwa [List.length_reverse] at this
  have h := key xs.toList
  rw [Array.length_toList] at h ⊢
  exact h
theorem getItem_back {prog : Program} {w : World} {A : Around} {E : Value → Shared → Prop} {s : Shared} {t sl : Addr} {items : Array Value} {vs : Value} {Q : Value → Shared → Prop} (ht : PyProof.Rows.IsTup s.heap t items) (hs : s.heap.IsSliceOf sl .none .none vs) (ps : IsPart vs (some (-1)))
    (h : Q (.ref s.heap.objs.size) { s with heap := s.heap.push { cls := .type "tuple", data := .seq items.toList.reverse.toArray } })
    (hsz : items.size ≤ sizeLine) : wpAny (model prog w) A (getItem (.ref t) (.ref sl)) Q E s := by
  have hok : sizeOk (.seq items.toList.reverse.toArray) := by
    show items.toList.reverse.toArray.size ≤ sizeLine
    rw [List.size_toArray, List.length_reverse, Array.length_toList]
    exact hsz
  obtain ⟨os, ho, hc, _⟩ := id hs
  have isS : s.TypeIs (.ref sl) "slice" := ⟨os, ho, hc⟩
  unfold getItem
  try with_reducible refine wpAny_holding ?_
  first | refine wpAny_bind (wpAny_pure ?_) | skip
  refine wpAny_bind (wpAny_sequenceKey ht.typeIs (by decide) ?_)
  refine wpAny_bind (wpAny_callSpecial?_slot (name := Str.ofString "__getitem__") ht.typeIs PyProof.Rows.slot_tuple_getitem (wpAny_call_entry PyProof.Rows.slot_tuple_getitem ht.typeIs PyProof.Rows.entry_tuple_getitem ?_ (PyProof.Rows.args_tuple_getitem _ _)))
  show wpAny _ _ (Builtin.Tuple.tupleItemsOf (.ref t) >>= _) _ _ s
  refine wpAny_bind (PyProof.Rows.tupleItemsOf_ ht (wpAny_bind (wpAny_typeOf isS ?_)))
  rw [if_pos (by decide)]
  refine wpAny_bind (applied_back hs ps ?_)
  have hno : ¬ ((((items.size : Int) - 1) == 0 && (-1 : Int) == 1 && items.size == items.size) = true) := by
    simp
  show wpAny _ _ (if ((((items.size : Int) - 1) == 0 && (-1 : Int) == 1 && items.size == items.size) = true) then _ else _) _ _ s
  rw [if_neg hno, pick_back]
  first
    | exact wpAny_bind (wpAny_bind (m := Builtin.Tuple.tupleExact _) (wpAny_newObj_type (wpAny_pure ⟨_, rfl, wpAny_pure h⟩) hok))
    | exact wpAny_bind (m := Builtin.Tuple.tupleExact _) (wpAny_newObj_type (wpAny_pure ⟨_, rfl, wpAny_pure h⟩) hok)
    | exact wpAny_bind (m := Builtin.Tuple.tupleExact _) (wpAny_newObj_type (wpAny_bind (wpAny_pure (wpAny_pure ⟨_, rfl, wpAny_pure h⟩))) hok)
    | exact wpAny_bind (wpAny_bind (m := Builtin.Tuple.tupleExact _) (wpAny_newObj_type (wpAny_pure (wpAny_pure ⟨_, rfl, wpAny_pure h⟩)) hok))
def tRevT (K : PySem.W.Frag) (te : TE) : TE := fun σ H Q => te σ H fun x H1 => ∃ a xs, x = .ref a ∧ SqT K H1 a xs ∧ ∀ p, H1 p = none → Q (.ref p) (upd H1 p (.tup xs.reverse))
section
variable {X : Cx}
theorem pe_revT {e : Expr} {te : TE} {k : Nat} {p1 p2 p3 pos : Pos} (he : PE X e te) : PE X (.Subscript e (.Slice none none (some (.UnaryOp .USub (.Constant (.int 1) k p1) p2)) p3) pos) (tRevT X.K te) := by
  refine ⟨fun pins s σ H Q I h => ?_⟩
  refine Subscript_ (thn (he.run pins s σ H _ I h) fun v s1 z => ?_)
  obtain ⟨x, H1, I1, r1, a, xs, rfl, hx, q⟩ := z
  cases r1
  have back : PO X (some (.UnaryOp .USub (.Constant (.int 1) k p1) p2)) (tPart (tUn (rU fun i => .int (-i)) (tC (.int 1)))) := po_some (pe_un un_neg pe_int)
  refine wpAny_Slice (thn (po_none.run pins s1 σ H1 (fun o H2 => o = none ∧ H2 = H1) I1 ⟨rfl, rfl⟩) fun vl s2 z => ?_)
  obtain ⟨l, H2, I2, pl, rfl, rfl⟩ := z
  refine thn (po_none.run pins s2 σ H2 (fun o H3 => o = none ∧ H3 = H2) I2 ⟨rfl, rfl⟩) fun vu s3 z => ?_
  obtain ⟨u, H3, I3, pu, rfl, rfl⟩ := z
  refine thn (back.run pins s3 σ H3 (fun o H4 => o = some (-1) ∧ H4 = H3) I3 ⟨1, rfl, -1, rfl, rfl, rfl⟩) fun vs s4 z => ?_
  obtain ⟨o, H4, I4, ps, rfl, rfl⟩ := z
  have I5 : Inv X pins σ H4 { s4 with heap := s4.heap.push { cls := .type "slice", data := .fields #[vl, vu, vs] } } := I4.kept (t' := s4.toks) fun b ob q => Heap.get?_push_of_some _ q
  obtain ⟨its, r, ht, hz⟩ := I5.tuple hx
  have hlen := r.length
  cases pl
  cases pu
  show wpAny (model X.prog X.w) X.A (subscriptTail e (.Slice none none (some (.UnaryOp .USub (.Constant (.int 1) k p1) p2)) p3) (.ref a) (.ref s4.heap.objs.size)) (EP X pins σ Q) X.xe { s4 with heap := s4.heap.push { cls := .type "slice", data := .fields #[.none, .none, vs] } }
  refine tail_any (ops := [.ref a, .ref s4.heap.objs.size]) ht.typeIs (PyProof.Rows.slot_tuple_getitem.lookup) ?_ (by with_unfolding_all rfl)
  refine getItem_back ht (Heap.IsSliceOf.new _ .none .none vs) ps ?_ (by rw [List.size_toArray]; omega)
  refine ⟨.ref _, _, I5.laid (t' := s4.toks) (o := .tup xs.reverse) (fun b ob q => Heap.get?_push_of_some _ q) (Nat.le_refl _) ?_, rfl, q _ (I5.hok.fresh (Nat.le_refl _))⟩
  exact ⟨by rw [List.length_reverse]; exact hz, its.reverse, r.reverse, IsTup.new _ _⟩
/-- a text, a list or a tuple, turned round -/
def tRevV (K : PySem.W.Frag) (te : TE) : TE := fun σ H Q => tRevU K te σ H Q ∨ tRevT K te σ H Q
theorem pe_revV {e : Expr} {te : TE} {k : Nat} {p1 p2 p3 pos : Pos} (he : PE X e te) : PE X (.Subscript e (.Slice none none (some (.UnaryOp .USub (.Constant (.int 1) k p1) p2)) p3) pos) (tRevV X.K te) := ⟨fun pins s σ H Q I q => by
  rcases q with q | q
  · exact (pe_revU he).run pins s σ H Q I q
  · exact (pe_revT he).run pins s σ H Q I q⟩
end
section
variable {c : Cfg} {ρ ρ1 : Env} {te : TE} {b : Bd}
theorem ev_revVS {l : List Nat} (h : EvX c te ρ ρ1 (dR l)) (hl : l.length ≤ 1000) : EvX c (tRevV c.K te) ρ ρ1 (dR l.reverse) := fun σ G H s Q q => .inl (.inl (ev_revS h (by rw [tx_len]; omega) σ G H s Q q))
theorem ev_revVL {ds : List D} (h : EvX c te ρ ρ1 (.list ds)) : EvX c (tRevV c.K te) ρ ρ1 (.list ds.reverse) := fun σ G H s Q q => .inl (.inr (ev_revL h σ G H s Q q))
theorem ev_revVT {ds : List D} (h : EvX c te ρ ρ1 (.tuple ds)) : EvX c (tRevV c.K te) ρ ρ1 (.tuple ds.reverse) := fun σ G H s Q q => .inr (h σ G H s _ fun v G1 H1 g1 s1 i1 => by
  cases i1 with
  | tup e is => exact ⟨_, _, rfl, .of (s1.gh _ _ e), fun p hp => (End1.of s1 fun v G2 H2 g2 s2 i2 => q v G2 H2 (g1.trans g2) s2 i2).tup s1.gh is.rev hp⟩)
theorem ev_revVB (h : EvX c te ρ ρ1 (dB b)) : EvX c (tRevV c.K te) ρ ρ1 (dB b.reverse) := ev_is (ev_revVT h) (by unfold dB; rw [List.map_reverse])
end
end Fb

/-! Shapes. -/
namespace Fb
open PySem PySem.Spec PyProof.Rows L2
section
variable {b b' : Bd}
theorem hgt_bare (b : Bd) : hgt (bareB b) = hgt b := by simp [bareB, hgt]
theorem Wf.wid_bare (W : Wf b) : wid (bareB b) = wid b := by
  rw [wid_getD, wid_getD]
  unfold bareB
  rw [getD_map b _ 0 [] [] W.h1]
  simp [bareR]
theorem Wf.sgn_bare (W : Wf b) {p : Cl} (h1 : p.1 < hgt b) (h2 : p.2 < wid b) : sgn (bareB b) p = if sgn b p = 35 then 46 else sgn b p := by
  unfold sgn bareB
  rw [getD_map b _ p.1 [] [] h1]
  unfold bareR
  rw [getD_map _ _ p.2 0 0 (by rw [(W.row h1).2.1]; exact h2)]
theorem bare_of (W : Wf b) (W' : Wf b') (hh : hgt b = hgt b') (hw : wid b = wid b') (hs : ∀ p : Cl, p.1 < hgt b → p.2 < wid b → isStone (sgn b p) = isStone (sgn b' p) ∧ (isStone (sgn b p) = true → sgn b p = sgn b' p)) : bareB b = bareB b' := by
  unfold bareB
  apply List.ext_getElem (by rw [List.length_map, List.length_map]; exact hh)
  intro i h1 h2
  rw [List.length_map] at h1 h2
  rw [List.getElem_map, List.getElem_map]
  have r1 := W.rows b[i] (List.getElem_mem h1)
  have r2 := W'.rows b'[i] (List.getElem_mem h2)
  have key : ∀ u v : List Nat, u = b[i] → v = b'[i] → bareR u = bareR v := fun u v eu ev => ?_
  · exact key _ _ rfl rfl
  unfold bareR
  rw [← eu] at r1
  rw [← ev] at r2
  apply List.ext_getElem (by rw [List.length_map, List.length_map, r1.1, r2.1, hw])
  intro j h3 h4
  rw [List.length_map] at h3 h4
  rw [List.getElem_map, List.getElem_map]
  have hj : j < wid b := by rw [← r1.1]; exact h3
  have g1 := r1.2 _ (List.getElem_mem h3)
  have g2 := r2.2 _ (List.getElem_mem h4)
  subst eu ev
  have s1 : sgn b (i, j) = b[i][j] := by
    unfold sgn
    simp [List.getD_eq_getElem?_getD, List.getElem?_eq_getElem h1, List.getElem?_eq_getElem h3]
  have s2 : sgn b' (i, j) = b'[i][j] := by
    unfold sgn
    simp [List.getD_eq_getElem?_getD, List.getElem?_eq_getElem h2, List.getElem?_eq_getElem h4]
  obtain ⟨k1, k2⟩ := hs (i, j) h1 hj
  rw [s1, s2] at k1 k2
  generalize b[i][j] = x at *
  generalize b'[i][j] = y at *
  rcases isSign_cases g1 with z | z | z | z <;> rcases isSign_cases g2 with u | u | u | u <;> subst z <;> subst u <;> first | rfl | (exact absurd k1 (by decide)) | (exact absurd (k2 rfl) (by decide))
theorem of_bare (W : Wf b) (W' : Wf b') (e : bareB b = bareB b') : hgt b = hgt b' ∧ wid b = wid b' ∧ ∀ p : Cl, p.1 < hgt b → p.2 < wid b → isStone (sgn b p) = isStone (sgn b' p) ∧ (isStone (sgn b p) = true → sgn b p = sgn b' p) := by
  have hh : hgt b = hgt b' := by rw [← hgt_bare b, e, hgt_bare]
  have hw : wid b = wid b' := by rw [← W.wid_bare, e, W'.wid_bare]
  refine ⟨hh, hw, fun p h1 h2 => ?_⟩
  have s1 := W.sgn_bare h1 h2
  have s2 := W'.sgn_bare (p := p) (by rw [← hh]; exact h1) (by rw [← hw]; exact h2)
  rw [e, s2] at s1
  have g1 := (W.sgn_at h1 h2).2
  have g2 := (W'.sgn_at (p := p) (by rw [← hh]; exact h1) (by rw [← hw]; exact h2)).2
  generalize sgn b p = x at *
  generalize sgn b' p = y at *
  rcases isSign_cases g1 with z | z | z | z <;> rcases isSign_cases g2 with u | u | u | u <;> subst z <;> subst u <;> first | exact ⟨rfl, fun _ => rfl⟩ | exact ⟨rfl, fun h => absurd h (by decide)⟩ | exact absurd s1 (by decide)
theorem bare_tick (W : Wf b) : bareB (tick b) = bareB b := (bare_of W W.tick (hgt_tick b).symm (wid_tick W.h1).symm fun p h1 h2 => ⟨(stone_tick W h1 h2).symm, fun h => by rw [sgn_tick W h1 h2, nextAt_eq, if_pos h]⟩).symm
theorem bare_later (W : Wf b) : ∀ n : Nat, bareB (later n b) = bareB b
  | 0 => rfl
  | n + 1 => by rw [later_succ, bare_tick W.later, bare_later W n]
theorem sgn_drawn (W : Wf b) (cs : List Cl) {p : Cl} (h1 : p.1 < hgt b) (h2 : p.2 < wid b) : sgn (drawn b cs) p = if isStone (sgn b p) = true then sgn b p else if p ∈ cs then 35 else 46 := by
  have e : (drawn b cs).getD p.1 [] = drawRow cs p.1 (b.getD p.1 []) := by
    unfold drawn
    rw [getD_map _ _ p.1 0 [] (by rw [List.length_range]; exact h1), range_getD h1]
  unfold sgn
  rw [e, drawRow_eq, getD_map _ _ p.2 0 0 (by rw [List.length_range, (W.row h1).2.1]; exact h2), range_getD (by rw [(W.row h1).2.1]; exact h2)]
  rfl
theorem stone_drawn (W : Wf b) (cs : List Cl) {p : Cl} (h1 : p.1 < hgt b) (h2 : p.2 < wid b) : isStone (sgn (drawn b cs) p) = isStone (sgn b p) := by
  rw [sgn_drawn W cs h1 h2]
  by_cases hs : isStone (sgn b p) = true
  · rw [if_pos hs]
  · rw [if_neg hs]
    have e : isStone (sgn b p) = false := by simpa using hs
    rw [e]
    split <;> rfl
theorem ice_drawn (W : Wf b) (cs : List Cl) {p : Cl} (h1 : p.1 < hgt b) (h2 : p.2 < wid b) : iceAt (drawn b cs) p = if isStone (sgn b p) = true then iceAt b p else decide (p ∈ cs) := by
  unfold iceAt
  rw [sgn_drawn W cs h1 h2]
  by_cases hs : isStone (sgn b p) = true
  · rw [if_pos hs, if_pos hs]
  · rw [if_neg hs, if_neg hs]
    by_cases hc : p ∈ cs
    · rw [if_pos hc, decide_eq_true hc]; rfl
    · rw [if_neg hc, decide_eq_false hc]; rfl
theorem bare_drawn (W : Wf b) (cs : List Cl) : bareB (drawn b cs) = bareB b := (bare_of W (W.drawn cs).2 (hgt_drawn b cs).symm (W.drawn cs).1.symm fun p h1 h2 => ⟨(stone_drawn W cs h1 h2).symm, fun h => by rw [sgn_drawn W cs h1 h2, if_pos h]⟩).symm
theorem free_stone (W : Wf b) {p : Cl} (h1 : p.1 < hgt b) (h2 : p.2 < wid b) : isFree (sgn b p) = !isStone (sgn b p) := by
  rcases isSign_cases (W.sgn_at h1 h2).2 with z | z | z | z <;> rw [z] <;> rfl
/-- boards of one shape have the same free cells -/
theorem bare_free (W : Wf b) (W' : Wf b') (e : bareB b = bareB b') : free b = free b' := by
  obtain ⟨hh, hw, hs⟩ := of_bare W W' e
  refine asc_ext (free_sorted b) (free_sorted b') fun c => ?_
  rw [W.mem_free, W'.mem_free, ← hh, ← hw]
  refine ⟨fun h => ⟨h.1, h.2.1, ?_⟩, fun h => ⟨h.1, h.2.1, ?_⟩⟩
  · rw [free_stone W' (by rw [← hh]; exact h.1) (by rw [← hw]; exact h.2.1), ← (hs c h.1 h.2.1).1, ← free_stone W h.1 h.2.1]
    exact h.2.2
  · rw [free_stone W h.1 h.2.1, (hs c h.1 h.2.1).1, ← free_stone W' (by rw [← hh]; exact h.1) (by rw [← hw]; exact h.2.1)]
    exact h.2.2
/-- a board is drawn again from its own ice -/
theorem drawn_own (W : Wf b) : drawn b ((free b).filter (iceAt b)) = b := by
  obtain ⟨w1, w2⟩ := W.drawn ((free b).filter (iceAt b))
  refine ext_ice w2 W (hgt_drawn _ _) w1 (fun p h1 h2 => ?_) (fun p h1 h2 => ?_)
  · rw [hgt_drawn] at h1
    rw [w1] at h2
    exact stone_drawn W _ h1 h2
  · rw [hgt_drawn] at h1
    rw [w1] at h2
    rw [ice_drawn W _ h1 h2]
    by_cases hs : isStone (sgn b p) = true
    · rw [if_pos hs]
    · rw [if_neg hs]
      have hf : p ∈ free b := W.mem_free.mpr ⟨h1, h2, by rw [free_stone W h1 h2]; simpa using hs⟩
      rw [Bool.eq_iff_iff, decide_eq_true_eq, List.mem_filter]
      exact ⟨fun h => h.2, fun h => ⟨hf, h⟩⟩
/-- drawing asks for the shape alone, and for the free cells alone -/
theorem drawn_same (W : Wf b) (W' : Wf b') (e : bareB b = bareB b') {cs ds : List Cl} (h : ∀ c ∈ free b, c ∈ cs ↔ c ∈ ds) : drawn b cs = drawn b' ds := by
  obtain ⟨hh, hw, hs⟩ := of_bare W W' e
  obtain ⟨w1, w2⟩ := W.drawn cs
  obtain ⟨w3, w4⟩ := W'.drawn ds
  refine ext_bd w2 w4 (by rw [hgt_drawn, hgt_drawn, hh]) (by rw [w1, w3, hw]) fun p h1 h2 => ?_
  rw [hgt_drawn] at h1
  rw [w1] at h2
  obtain ⟨k1, k2⟩ := hs p h1 h2
  rw [sgn_drawn W cs h1 h2, sgn_drawn W' ds (by rw [← hh]; exact h1) (by rw [← hw]; exact h2), ← k1]
  by_cases hst : isStone (sgn b p) = true
  · rw [if_pos hst, if_pos hst, k2 hst]
  · rw [if_neg hst, if_neg hst]
    have hf : p ∈ free b := W.mem_free.mpr ⟨h1, h2, by rw [free_stone W h1 h2]; simpa using hst⟩
    by_cases hc : p ∈ cs
    · rw [if_pos hc, if_pos ((h p hf).mp hc)]
    · rw [if_neg hc, if_neg (fun z => hc ((h p hf).mpr z))]
end
end Fb

/-! has_more, joined, shared, meet, with_ice, keep_water. -/
namespace Fb
open PySem PySem.Spec PyProof.Rows L2
def hasMore (b b' : Bd) : Bool := ((free b').filter (iceAt b')).all (iceAt b)
def joinB (b b' : Bd) : Bd := drawn b ((free b).filter fun c => iceAt b c || iceAt b' c)
def shareB (b b' : Bd) : Bd := drawn b ((free b).filter fun c => iceAt b c && iceAt b' c)
def meetN (b b' : Bd) : Option Nat := (List.range (max (fateN b) (fateN b') + 1)).find? fun n => decide (later n b = later n b')
def dOptN : Option Nat → D
  | none => .none
  | some n => .int (n : Nat)
def P_has_more (K : PySem.W.Frag) (ds : List D) (r : Rz) : Prop := AsksU K ds r fun b b' d => d = .bool (hasMore b b')
def P_joined (K : PySem.W.Frag) (ds : List D) (r : Rz) : Prop := AsksU K ds r fun b b' d => d = dB (joinB b b')
def P_shared (K : PySem.W.Frag) (ds : List D) (r : Rz) : Prop := AsksU K ds r fun b b' d => d = dB (shareB b b')
def P_meet (K : PySem.W.Frag) (ds : List D) (r : Rz) : Prop := AsksU K ds r fun b b' d => d = dOptN (meetN b b')
def P_with_ice (K : PySem.W.Frag) (ds : List D) (r : Rz) : Prop := AsksC K ds r fun b s d => ∃ cs, s = dCs cs ∧ d = dB (drawn b cs)
def keepW (b : Bd) (cs : List Cl) : Bool := cs.all (keepsB (without b cs))
def P_keep_water (K : PySem.W.Frag) (ds : List D) (r : Rz) : Prop := AsksC K ds r fun b s d => ∃ cs, s = dCs cs ∧ d = .bool (keepW b cs)
abbrev N_has_more : List Str := ["board", "other", "cell"]
def t_has_more (K : PySem.W.Frag) (w : World) (E : XK) : TS := (tSeq (tDrop (tCall (spF (P_need_pair K)) [] E (tCons (tVar 0) (tCons (tVar 1) tNil))))
 (tRet (tCB (rAll K) (tCons (tLc (iAny K (tCall (spF (P_free_cells K)) [] E (tCons (tVar 1) tNil))) (gName 2) (tB (tCall (spF (P_ice_at K)) [] E0 (tCons (tVar 1) (tCons (tVar 2) tNil)))) (tCall (spF (P_ice_at K)) [] E0 (tCons (tVar 0) (tCons (tVar 2) tNil))) [2]) tNil))))
abbrev N_joined : List Str := ["board", "other", "cell"]
def t_joined (K : PySem.W.Frag) (w : World) (E : XK) : TS := (tSeq (tDrop (tCall (spF (P_need_pair K)) [] E (tCons (tVar 0) (tCons (tVar 1) tNil))))
 (tRet (tCall (spF (P_drawn K)) [] E (tCons (tVar 0) (tCons (tLc (iAny K (tCall (spF (P_free_cells K)) [] E (tCons (tVar 0) tNil))) (gName 2) (tOr (tB (tCall (spF (P_ice_at K)) [] E0 (tCons (tVar 0) (tCons (tVar 2) tNil)))) (tB (tCall (spF (P_ice_at K)) [] E0 (tCons (tVar 1) (tCons (tVar 2) tNil))))) (tVar 2) [2]) tNil)))))
abbrev N_shared : List Str := ["board", "other", "cell"]
def t_shared (K : PySem.W.Frag) (w : World) (E : XK) : TS := (tSeq (tDrop (tCall (spF (P_need_pair K)) [] E (tCons (tVar 0) (tCons (tVar 1) tNil))))
 (tRet (tCall (spF (P_drawn K)) [] E (tCons (tVar 0) (tCons (tLc (iAny K (tCall (spF (P_free_cells K)) [] E (tCons (tVar 0) tNil))) (gName 2) (tAnd (tB (tCall (spF (P_ice_at K)) [] E0 (tCons (tVar 0) (tCons (tVar 2) tNil)))) (tB (tCall (spF (P_ice_at K)) [] E0 (tCons (tVar 1) (tCons (tVar 2) tNil))))) (tVar 2) [2]) tNil)))))
abbrev N_meet : List Str := ["board", "other", "ticks"]
def t_meet (K : PySem.W.Frag) (w : World) (E : XK) : TS := (tSeq (tDrop (tCall (spF (P_need_pair K)) [] E (tCons (tVar 0) (tCons (tVar 1) tNil))))
 (tSeq (tFor (iRng1 (tCons (tOp (rAddU K) (tCB rMax2 (tCons (tOp (rIx K) (tCall (spF (P_fate_of K)) [] E (tCons (tVar 0) tNil)) (tC (.int 0))) (tCons (tOp (rIx K) (tCall (spF (P_fate_of K)) [] E (tCons (tVar 1) tNil)) (tC (.int 0))) tNil))) (tC (.int 1))) tNil)) (gName 2) (tSeq (tIfS (tTest (tOp (rEqD K) (tVar 0) (tVar 1))) (tRet (tVar 2)) tNext)
 (tPar 0 1 (tCons (tCall (spF (P_ticked K)) [] E (tCons (tVar 0) tNil)) (tCons (tCall (spF (P_ticked K)) [] E (tCons (tVar 1) tNil)) tNil)))))
 (tRet (tC .non))))
abbrev N_with_ice : List Str := ["board", "cells"]
def t_with_ice (K : PySem.W.Frag) (w : World) (E : XK) : TS := (tSeq (tDrop (tCall (spF (P_need_cells K)) [] E (tCons (tVar 0) (tCons (tVar 1) tNil))))
 (tRet (tCall (spF (P_drawn K)) [] E (tCons (tVar 0) (tCons (tVar 1) tNil)))))
abbrev N_keep_water : List Str := ["board", "cells", "made", "cell"]
def t_keep_water (K : PySem.W.Frag) (w : World) (E : XK) : TS := (tSeq (tDrop (tCall (spF (P_need_cells K)) [] E (tCons (tVar 0) (tCons (tVar 1) tNil))))
 (tSeq (tAsg (tCall (spF (P_without K)) [] E (tCons (tVar 0) (tCons (tVar 1) tNil))) (gName 2))
 (tRet (tCB (rAll K) (tCons (tLc (iAny K (tVar 1)) (gName 3) tYes (tCall (spF (P_keeps K)) [] E0 (tCons (tVar 2) (tCons (tVar 3) tNil))) [3]) tNil)))))
section
variable {c : Cfg} {ρ ρ1 : Env} {wi : TI} {g : TG} {tt : TT} {te : TE} {vs : List Nat} {α : Type}
/-- all([.. for .. if ..]) -/
theorem ev_allM (xs : List α) (enc : α → D) (p q : α → Bool) (F : α → Env → Env) (js : List Nat) (hi : EvI c wi ρ ρ1 (xs.map enc)) (hn : xs.length ≤ 100000) (hB : c.B = [])
    (hg : ∀ a ∈ xs, TgX g (enc a) (F a) js) (hj : ∀ j ∈ js, j ∈ vs)
    (ht : ∀ a ∈ xs, EvT c tt (F a (wipeE ρ1 vs)) (F a (wipeE ρ1 vs)) (p a))
    (he : ∀ a ∈ xs, p a = true → EvX c te (F a (wipeE ρ1 vs)) (F a (wipeE ρ1 vs)) (.bool (q a))) : EvX c (tCB (rAll c.K) (tCons (tLc wi g tt te vs) tNil)) ρ ρ1 (.bool ((xs.filter p).all q)) := by
  have h := ev_lcM xs enc p (fun a => .bool (q a)) F js hi hn hB hg hj ht he
  have e : ((xs.filter p).map fun a => PyData.bool (q a)) = ((xs.filter p).map q).map .bool := by rw [List.map_map]; rfl
  rw [e] at h
  have r := ev_cb (ea_cons h ea_nil) (rc_all (K := c.K))
  rw [List.all_map] at r
  exact r
theorem ev_allA (xs : List α) (enc : α → D) (q : α → Bool) (F : α → Env → Env) (js : List Nat) (hi : EvI c wi ρ ρ1 (xs.map enc)) (hn : xs.length ≤ 100000) (hB : c.B = [])
    (hg : ∀ a ∈ xs, TgX g (enc a) (F a) js) (hj : ∀ j ∈ js, j ∈ vs)
    (he : ∀ a ∈ xs, EvX c te (F a (wipeE ρ1 vs)) (F a (wipeE ρ1 vs)) (.bool (q a))) : EvX c (tCB (rAll c.K) (tCons (tLc wi g tYes te vs) tNil)) ρ ρ1 (.bool (xs.all q)) := by
  have := ev_allM (tt := tYes) xs enc (fun _ => true) q F js hi hn hB hg hj (fun _ _ => et_yes) (fun a ha _ => he a ha)
  rwa [List.filter_eq_self.mpr (fun _ _ => rfl)] at this
end
section
variable {K : PySem.W.Frag} {w : World} {vs : List V} {H : Hp} {Q : VK} {E : XK} {c : Cfg} {ρ ρ1 ρ2 : Env} {te tr : TE} {b b' : Bd}
theorem len2U {K : PySem.W.Frag} {ds : List D} {r : Rz} {z : Bd → Bd → D → Prop} (h : AsksU K ds r z) : ds.length = 2 := len2P h
theorem len_has_more (h : spF (P_has_more K) vs H Q E) : vs.length = 2 := spF_len (fun ds r p => len2U p) h
theorem len_joined (h : spF (P_joined K) vs H Q E) : vs.length = 2 := spF_len (fun ds r p => len2U p) h
theorem len_shared (h : spF (P_shared K) vs H Q E) : vs.length = 2 := spF_len (fun ds r p => len2U p) h
theorem len_meet (h : spF (P_meet K) vs H Q E) : vs.length = 2 := spF_len (fun ds r p => len2U p) h
theorem len_with_ice (h : spF (P_with_ice K) vs H Q E) : vs.length = 2 := spF_len (fun ds r p => len2C p) h
theorem len_keep_water (h : spF (P_keep_water K) vs H Q E) : vs.length = 2 := spF_len (fun ds r p => len2C p) h
theorem free_in (W : Wf b) {q : Cl} (h : q ∈ free b) : q.1 < hgt b ∧ q.2 < wid b := by
  obtain ⟨h1, h2, _⟩ := W.mem_free.mp h
  exact ⟨h1, h2⟩
theorem free_in2 (W : Wf b) (W' : Wf b') (e : bareB b = bareB b') {q : Cl} (h : q ∈ free b) : q.1 < hgt b' ∧ q.2 < wid b' := by
  rw [bare_free W W' e] at h
  exact free_in W' h
theorem body_has_more (h : spF (P_has_more K) vs H Q E) : t_has_more K w E { nx := fun _ H' => Q .non H', rt := Q } (L2.start N_has_more vs) H :=
  pure_of (t := t_has_more K w) (P := P_has_more K) (asksU_of (N := N_has_more) (u := fun E => _) fun E b b' d W W' he hz => by
    subst hz
    have hl := W'.free_len
    exact ⟨_, exs_ret (c := ⟨K, [], [], E⟩) (ρ := env0 N_has_more [dB b, dB b']) (ev_allM (c := ⟨K, [], [], E⟩) (free b') dC (iceAt b') (iceAt b) (fun q ρ => ρ.set 2 (.dat (dC q))) [2] (ui_list (ev_free W' (ev_var rfl))) (by omega) rfl (fun _ _ => tg_name) (fun _ h => h)
      (fun q hq => et_B (ev_ice W' (free_in W' hq).1 (free_in W' hq).2 (ev_var rfl) (ev_var rfl))) (fun q hq _ => ev_ice W (free_in2 W' W he.symm hq).1 (free_in2 W' W he.symm hq).2 (ev_var rfl) (ev_var rfl))) (OwnSub.refl _)⟩) h
theorem body_joined (h : spF (P_joined K) vs H Q E) : t_joined K w E { nx := fun _ H' => Q .non H', rt := Q } (L2.start N_joined vs) H :=
  pure_of (t := t_joined K w) (P := P_joined K) (asksU_of (N := N_joined) (u := fun E => _) fun E b b' d W W' he hz => by
    subst hz
    have hl := W.free_len
    exact ⟨_, exs_ret (c := ⟨K, [], [], E⟩) (ρ := env0 N_joined [dB b, dB b']) (ev_drawn (.inl rfl) W (ev_var rfl) (ev_lcM (c := ⟨K, [], [], E⟩) (free b) dC (fun c => iceAt b c || iceAt b' c) dC (fun q ρ => ρ.set 2 (.dat (dC q))) [2] (ui_list (ev_free W (ev_var rfl))) (by omega) rfl (fun _ _ => tg_name) (fun _ h => h)
      (fun q hq => et_or (et_B (ev_ice W (free_in W hq).1 (free_in W hq).2 (ev_var rfl) (ev_var rfl))) (fun _ => et_B (ev_ice W' (free_in2 W W' he hq).1 (free_in2 W W' he hq).2 (ev_var rfl) (ev_var rfl)))) (fun q hq _ => ev_var rfl))) (OwnSub.refl _)⟩) h
theorem body_shared (h : spF (P_shared K) vs H Q E) : t_shared K w E { nx := fun _ H' => Q .non H', rt := Q } (L2.start N_shared vs) H :=
  pure_of (t := t_shared K w) (P := P_shared K) (asksU_of (N := N_shared) (u := fun E => _) fun E b b' d W W' he hz => by
    subst hz
    have hl := W.free_len
    exact ⟨_, exs_ret (c := ⟨K, [], [], E⟩) (ρ := env0 N_shared [dB b, dB b']) (ev_drawn (.inl rfl) W (ev_var rfl) (ev_lcM (c := ⟨K, [], [], E⟩) (free b) dC (fun c => iceAt b c && iceAt b' c) dC (fun q ρ => ρ.set 2 (.dat (dC q))) [2] (ui_list (ev_free W (ev_var rfl))) (by omega) rfl (fun _ _ => tg_name) (fun _ h => h)
      (fun q hq => et_and (et_B (ev_ice W (free_in W hq).1 (free_in W hq).2 (ev_var rfl) (ev_var rfl))) (fun _ => et_B (ev_ice W' (free_in2 W W' he hq).1 (free_in2 W W' he hq).2 (ev_var rfl) (ev_var rfl)))) (fun q hq _ => ev_var rfl))) (OwnSub.refl _)⟩) h
theorem body_meet (h : spF (P_meet K) vs H Q E) : t_meet K w E { nx := fun _ H' => Q .non H', rt := Q } (L2.start N_meet vs) H :=
  pure_of (t := t_meet K w) (P := P_meet K) (asksU_of (N := N_meet) (u := fun E => _) fun E b b' d W W' he hz => by
    subst hz
    obtain ⟨F, hF⟩ := fateN_ok W
    obtain ⟨F', hF'⟩ := fateN_ok W'
    have num : EvX ⟨K, [], [], E⟩ (tOp (rAddU K) (tCB rMax2 (tCons (tOp (rIx K) (tCall (spF (P_fate_of K)) [] E (tCons (tVar 0) tNil)) (tC (.int 0))) (tCons (tOp (rIx K) (tCall (spF (P_fate_of K)) [] E (tCons (tVar 1) tNil)) (tC (.int 0))) tNil))) (tC (.int 1)))
        (env0 N_meet [dB b, dB b']) (env0 N_meet [dB b, dB b']) (.int ((max (fateN b) (fateN b') + 1 : Nat))) :=
      ev_is (ev_op (ev_cb (ea_cons (ev_op (ev_fate W F (by omega) (ev_var rfl)) ev_int (ux_ixT (d := .int (fateN b : Nat)) rfl)) (ea_cons (ev_op (ev_fate W' F' (by omega) (ev_var rfl)) ev_int (ux_ixT (d := .int (fateN b' : Nat)) rfl)) ea_nil)) rc_max2) ev_int ux_addI) (congrArg PyData.int (by
        by_cases z : ((fateN b' : Nat) : Int) > (fateN b : Nat)
        · rw [if_pos z]; omega
        · rw [if_neg z]; omega))
    have turn : ∀ i, later i b ≠ later i b' → ExS ⟨K, [], [], E⟩ (tSeq (tIfS (tTest (tOp (rEqD K) (tVar 0) (tVar 1))) (tRet (tVar 2)) tNext) (tPar 0 1 (tCons (tCall (spF (P_ticked K)) [] E (tCons (tVar 0) tNil)) (tCons (tCall (spF (P_ticked K)) [] E (tCons (tVar 1) tNil)) tNil))))
        [.dat (dB (later i b)), .dat (dB (later i b')), .dat (.int (i : Nat))] (.next [.dat (dB (later (i + 1) b)), .dat (dB (later (i + 1) b')), .un]) := fun i hi => by
      rw [later_succ, later_succ]
      exact exs_to (exs_seq (exs_skip (et_is (et_test (ev_eqB (c := ⟨K, [], [], E⟩) W.later W'.later (ev_var rfl) (ev_var rfl))) (decide_eq_false hi)) (OwnSub.refl _)) (exs_par (c := ⟨K, [], [], E⟩) (ea_cons (ev_tick W.later (ev_var rfl)) (ea_cons (ev_tick W'.later (ev_var rfl)) ea_nil)) (OwnSub.refl _))) (.eq (.eq (.un .nil)))
    rcases find_first (List.range (max (fateN b) (fateN b') + 1)) (fun n => decide (later n b = later n b')) with ⟨h1, h2⟩ | ⟨j, x, h0, h1, h2, h3, h4⟩
    · refine ⟨_, exs_seq (exs_range (c := ⟨K, [], [], E⟩) (j := 2) (n := max (fateN b) (fateN b') + 1) (fun i => [.dat (dB (later i b)), .dat (dB (later i b')), .un]) num (by omega) (OwnSub.refl _) (fun i hi => turn i (of_decide_eq_false (h2 i (List.mem_range.mpr hi))))) (exs_ret (ev_is ev_non ?_) (OwnSub.refl _))⟩
      unfold meetN
      rw [h1]
      rfl
    · rw [List.length_range] at h0
      rw [List.getElem?_range h0] at h1
      obtain rfl := Option.some.inj h1
      have h2 := of_decide_eq_true h2
      refine ⟨[.dat (dB (later j b)), .dat (dB (later j b')), .dat (.int (j : Nat))], exs_seq_ret (exs_list_ret (c := ⟨K, [], [], E⟩) (j := 2) (wi := iRng1 (tCons (tOp (rAddU K) (tCB rMax2 (tCons (tOp (rIx K) (tCall (spF (P_fate_of K)) [] E (tCons (tVar 0) tNil)) (tC (.int 0))) (tCons (tOp (rIx K) (tCall (spF (P_fate_of K)) [] E (tCons (tVar 1) tNil)) (tC (.int 0))) tNil))) (tC (.int 1))) tNil)) (List.range (max (fateN b) (fateN b') + 1)) (fun i : Nat => PyData.int (i : Nat)) (fun i => [.dat (dB (later i b)), .dat (dB (later i b')), .un]) j (ei_range num (by omega)) (OwnSub.refl _) 0 (by rw [List.length_range]; exact h0)
        (fun i hi => by
          rw [range_getD (by omega)]
          exact turn i (of_decide_eq_false (h3 i i hi (List.getElem?_range (by omega))))) ?_)⟩
      rw [range_getD h0]
      refine exs_seq_ret (exs_if (b := true) (et_is (et_test (ev_eqB (c := ⟨K, [], [], E⟩) W.later W'.later (ev_var rfl) (ev_var rfl))) (decide_eq_true h2)) (OwnSub.refl _) (fun _ => exs_ret (ev_is (ev_var rfl) ?_) (OwnSub.refl _)) (fun z => nomatch z))
      unfold meetN
      rw [h4]
      rfl) h
/-- need_cells(..), then the rest -/
theorem asksC_of {N : List Str} {u : XK → TS} {z : Bd → D → D → Prop} (hu : ∀ E b cs d, Wf b → (∀ c ∈ cs, c ∈ free b) → cs.Pairwise ltC → z b (dCs cs) d → ∃ ρ1, ExS ⟨K, [], [], E⟩ (u E) (env0 N [dB b, dCs cs]) (.ret ρ1 d)) :
    ∀ (E : XK) (ds : List D) (r : Rz), AsksC K ds r z → ∃ o, ExS ⟨K, [], [], E⟩ (tSeq (tDrop (tCall (spF (P_need_cells K)) [] E (tCons (tVar 0) (tCons (tVar 1) tNil)))) (u E)) (env0 N ds) o ∧ outOf o r := fun E ds r p => by
  obtain ⟨v, s, rfl, hs, hs', q⟩ := p
  have call : ∀ {r'}, P_need_cells K [v, s] (.inr r') → ∃ o, ExS ⟨K, [], [], E⟩ (tSeq (tDrop (tCall (spF (P_need_cells K)) [] E (tCons (tVar 0) (tCons (tVar 1) tNil)))) (u E)) (env0 N [v, s]) o ∧ outOf o (.inr r') := fun hp =>
    givX (exs_seq_exc (exs_drop_exc (c := ⟨K, [], [], E⟩) (ee_call (P := P_need_cells K) (ea_cons (ev_var rfl) (ea_cons (ev_var rfl) ea_nil)) hp)))
  rcases q with ⟨hb, rfl⟩ | ⟨b, rfl, W, ⟨hc, rfl⟩ | ⟨hc, d, hz, rfl⟩⟩
  · exact call ⟨v, s, rfl, hs, hs', .inl ⟨hb, rfl⟩⟩
  · exact call ⟨_, s, rfl, hs, hs', .inr ⟨b, rfl, W, .inl ⟨hc, rfl⟩⟩⟩
  · obtain ⟨cs, rfl, h1, h2⟩ := isCells_of W hc
    obtain ⟨ρ1, h3⟩ := hu E b cs d W h1 h2 hz
    exact giv (exs_seq (exs_drop (ev_call (P := P_need_cells K) (z := .none) (ea_cons (ev_var rfl) (ea_cons (ev_var rfl) ea_nil)) ⟨_, _, rfl, hs, hs', .inr ⟨b, rfl, W, .inr ⟨hc, .none, rfl, rfl⟩⟩⟩) (OwnSub.refl _)) h3)
theorem dCs_inj {s u : List Cl} (e : dCs s = dCs u) : s = u := good_cs.inj e
theorem body_with_ice (h : spF (P_with_ice K) vs H Q E) : t_with_ice K w E { nx := fun _ H' => Q .non H', rt := Q } (L2.start N_with_ice vs) H :=
  pure_of (t := t_with_ice K w) (P := P_with_ice K) (asksC_of (N := N_with_ice) (u := fun E => _) fun E b cs d W h1 h2 hz => by
    obtain ⟨cs', e, rfl⟩ := hz
    obtain rfl := dCs_inj e
    exact ⟨_, exs_ret (c := ⟨K, [], [], E⟩) (ev_drawn (.inr rfl) W (ev_var rfl) (ev_var rfl)) (OwnSub.refl _)⟩) h
theorem cells_short (W : Wf b) {cs : List Cl} (h1 : ∀ c ∈ cs, c ∈ free b) (h2 : cs.Pairwise ltC) : cs.length ≤ 12 := by
  have e : cs = (free b).filter (fun c => decide (c ∈ cs)) := asc_ext h2 ((free_sorted b).sublist List.filter_sublist) (fun c => by
    rw [List.mem_filter, decide_eq_true_eq]
    exact ⟨fun h => ⟨h1 c h, h⟩, fun h => h.2⟩)
  have e2 := congrArg List.length e
  have := List.length_filter_le (fun c => decide (c ∈ cs)) (free b)
  have := W.free_len
  omega
theorem body_keep_water (h : spF (P_keep_water K) vs H Q E) : t_keep_water K w E { nx := fun _ H' => Q .non H', rt := Q } (L2.start N_keep_water vs) H :=
  pure_of (t := t_keep_water K w) (P := P_keep_water K) (asksC_of (N := N_keep_water) (u := fun E => _) fun E b cs d W h1 h2 hz => by
    obtain ⟨cs', e, rfl⟩ := hz
    obtain rfl := dCs_inj e
    have hl := cells_short W h1 h2
    obtain ⟨w1, w2, w3⟩ := W.without cs
    exact ⟨_, exs_seq (exs_set (c := ⟨K, [], [], E⟩) (ev_call (P := P_without K) (z := dB (without b cs)) (ea_cons (ev_var rfl) (ea_cons (ev_var rfl) ea_nil)) ⟨b, dCs cs, cs, rfl, .inr rfl, W, rfl⟩) (OwnSub.refl _))
      (exs_ret (ev_allA (c := ⟨K, [], [], E⟩) cs dC (keepsB (without b cs)) (fun q ρ => ρ.set 3 (.dat (dC q))) [3] (ui_tup (ev_var rfl)) (by omega) rfl (fun _ _ => tg_name) (fun _ h => h)
        (fun q hq => ev_call (P := P_keeps K) (ea_cons (ev_var rfl) (ea_cons (ev_var rfl) ea_nil)) ⟨_, q, rfl, w3, by rw [w2]; exact (free_in W (h1 q hq)).1, by rw [w1]; exact (free_in W (h1 q hq)).2, rfl⟩)) (OwnSub.refl _))⟩) h
end
end Fb

/-! The law's some cells, by dice. -/
namespace Fb
open PySem PySem.Spec PyProof.Rows L2
def shareV (s : Int × Int) : Nat := 2 + rollK 2 s
def someL (m : Nat) (cs : List Cl) (s : Int × Int) : List Cl := ((List.range cs.length).filter fun k => decide (rollK (m : Nat) (dst (m : Nat) k s) = 0)).map fun k => cs.getD k (0, 0)
def someB (cs : List Cl) (s : Int × Int) : List Cl := someL (shareV s) cs (nxt 2 s)
def someEnd (cs : List Cl) (s : Int × Int) : Int × Int := dst (shareV s : Nat) cs.length (nxt 2 s)
def P_some (a b : Int) (ds : List D) (z : D) (a' b' : Int) : Prop := ∃ cs : List Cl, ds = [.list (cs.map dC)] ∧ cs.length ≤ 12 ∧ z = dCs (someB cs (a, b)) ∧ a' = (someEnd cs (a, b)).1 ∧ b' = (someEnd cs (a, b)).2
theorem some_mem {cs : List Cl} {s : Int × Int} {c : Cl} (h : c ∈ someB cs s) : c ∈ cs := by
  unfold someB someL at h
  obtain ⟨k, hk, rfl⟩ := List.mem_map.mp h
  have hl := List.mem_range.mp (List.mem_filter.mp hk).1
  rw [List.getD_eq_getElem?_getD, List.getElem?_eq_getElem hl]
  exact List.getElem_mem hl
theorem some_asc {cs : List Cl} (hs : cs.Pairwise ltC) (s : Int × Int) : (someB cs s).Pairwise ltC := by
  unfold someB someL
  rw [List.pairwise_map]
  refine List.Pairwise.imp_of_mem (R := fun i j => i < j) (fun {i j} hi hj hij => ?_) (List.Pairwise.sublist List.filter_sublist List.pairwise_lt_range)
  have li := List.mem_range.mp (List.mem_filter.mp hi).1
  have lj := List.mem_range.mp (List.mem_filter.mp hj).1
  rw [List.getD_eq_getElem?_getD, List.getElem?_eq_getElem li, List.getD_eq_getElem?_getD, List.getElem?_eq_getElem lj]
  exact List.pairwise_iff_getElem.mp hs i j li lj hij
abbrev N__law_some : List Str := ["_law_dice", "_law_own", "_law_share", "_law_cell_here"]
def t__law_some (K : PySem.W.Frag) (w : World) (E : XK) : TS := (tSeq (tAsg (tOp (rAddU K) (tC (.int 2)) (tCall (spDice P_roll) [] E (tCons (tVar 0) (tCons (tC (.int 2)) tNil)))) (gName 2))
 (tRet (tCB (rTupleOf K) (tCons (tLc (iAny K (tVar 1)) (gName 3) (tTest (tOp (rEqD K) (tCall (spDice P_roll) [] E0 (tCons (tVar 0) (tCons (tVar 2) tNil))) (tC (.int 0)))) (tVar 3) [3]) tNil))))
section
variable {K : PySem.W.Frag} {w : World} {vs : List V} {H : Hp} {Q : VK} {E : XK}
theorem len__law_some (h : spDice P_some vs H Q E) : vs.length = 2 := spDice_len (fun a b ds z a' b' p => by obtain ⟨_, e, _⟩ := p; rw [e]; rfl) h
theorem dst_succ (m : Int) (k : Nat) (s : Int × Int) : dst m (k + 1) s = nxt m (dst m k s) := rfl
theorem body__law_some (h : spDice P_some vs H Q E) : t__law_some K w E { nx := fun _ H' => Q .non H', rt := Q } (L2.start N__law_some vs) H := pure_dice (K := K) (t := t__law_some K w) (fun E p a b ds z a' b' q => by
  obtain ⟨cs, rfl, hl, rfl, rfl, rfl⟩ := q
  have r2 := rollK_lt (m := 2) (by decide) (a, b)
  have hm : shareV (a, b) = 2 ∨ shareV (a, b) = 3 := by unfold shareV; omega
  unfold someB someEnd
  generalize hs : nxt 2 (a, b) = s
  have A : ExS ⟨K, [], [p], E⟩ (tAsg (tOp (rAddU K) (tC (.int 2)) (tCall (spDice P_roll) [] E (tCons (tVar 0) (tCons (tC (.int 2)) tNil)))) (gName 2)) (envD N__law_some p a b [.list (cs.map dC)])
      (.next [.obj p (dice s.1 s.2), .dat (.list (cs.map dC)), .dat (.int (shareV (a, b) : Nat)), .un]) := by
    rw [← hs]
    exact exs_set (c := ⟨K, [], [p], E⟩) (ev_is (ev_op ev_int (ev_rollD (c := ⟨K, [], [p], E⟩) (i := 0) (s := (a, b)) rfl rfl ev_int (by decide) (by decide)) ux_addI) (congrArg PyData.int (by show (2 : Int) + _ = ((2 + _ : Nat) : Int); omega))) osO
  generalize shareV (a, b) = m at hm A ⊢
  have hm0 : (0 : Int) < (m : Nat) := by omega
  have L := ev_lcF (c := ⟨K, [], [p], E⟩) (ρ := [.obj p (dice s.1 s.2), .dat (.list (cs.map dC)), .dat (.int (m : Nat)), .un]) (wi := iAny K (tVar 1)) (g := gName 3) (tt := tTest (tOp (rEqD K) (tCall (spDice P_roll) [] E0 (tCons (tVar 0) (tCons (tVar 2) tNil))) (tC (.int 0))))
    (te := tVar 3) (vs := [3]) (i := 0) (p := p) (items := cs.map dC) (fun k ρ => ρ.set 3 (.dat (dC (cs.getD k (0, 0))))) (fun _ => [3])
    (fun k => (dst (m : Nat) k s, (decide (rollK (m : Nat) (dst (m : Nat) (k - 1) s) = 0), dC (cs.getD (k - 1) (0, 0))))) rfl rfl (ui_list (ev_var rfl)) (by rw [List.length_map]; omega)
    (fun k d hd => by
      rw [List.getElem?_map] at hd
      cases e : cs[k]? with
      | none => rw [e] at hd; cases hd
      | some q =>
        rw [e] at hd
        obtain rfl : dC q = d := Option.some.inj hd
        rw [List.getD_eq_getElem?_getD, e]
        exact ⟨tg_name, fun _ h => h⟩)
    (fun k hk => by
      have roll : EvT ⟨K, [], [p], E⟩ (tTest (tOp (rEqD K) (tCall (spDice P_roll) [] E0 (tCons (tVar 0) (tCons (tVar 2) tNil))) (tC (.int 0)))) [.obj p (dice (dst (m : Nat) k s).1 (dst (m : Nat) k s).2), .dat (.list (cs.map dC)), .dat (.int (m : Nat)), .dat (dC (cs.getD k (0, 0)))]
          [.obj p (dice (dst (m : Nat) (k + 1) s).1 (dst (m : Nat) (k + 1) s).2), .dat (.list (cs.map dC)), .dat (.int (m : Nat)), .dat (dC (cs.getD k (0, 0)))] (decide (rollK (m : Nat) (dst (m : Nat) k s) = 0)) := by
        rw [dst_succ]
        exact et_is (et_test (ev_op (ev_rollD (c := ⟨K, [], [p], E⟩) (i := 0) (s := dst (m : Nat) k s) rfl rfl (ev_var rfl) hm0 (by omega)) ev_int gx_eqI)) (decide_eq_decide.mpr (by omega))
      exact ⟨_, _, roll, fun _ => ⟨ev_var rfl, rfl⟩, fun _ => rfl⟩)
  simp only [List.length_map, Nat.add_sub_cancel] at L
  have e2 : picked ((List.range cs.length).map fun k => (decide (rollK (m : Nat) (dst (m : Nat) k s) = 0), dC (cs.getD k (0, 0)))) = (someL m cs s).map dC := by
    rw [picked_filter (List.range cs.length) (fun k => decide (rollK (m : Nat) (dst (m : Nat) k s) = 0)) (fun k => dC (cs.getD k (0, 0)))]
    unfold someL
    rw [List.map_map]
    rfl
  rw [e2] at L
  exact ⟨_, exs_seq A (exs_ret (ev_tupOf (c := ⟨K, [], [p], E⟩) L) osO), rfl⟩) h
/-- some cells fall -/
theorem ev_some {T : List (Addr × Str)} {p : Addr} {ρ : Env} {te : TE} {s : Int × Int} {cs : List Cl} (hl : cs.length ≤ 12) (hi : ρ[1]? = some (.obj p (dice s.1 s.2))) (h : EvX ⟨K, T, [p], E⟩ te ρ ρ (.list (cs.map dC))) {E' : XK} :
    EvX ⟨K, T, [p], E⟩ (tCall (spDice P_some) [] E' (tCons (tVar 1) (tCons te tNil))) ρ (ρ.set 1 (.obj p (dice (someEnd cs s).1 (someEnd cs s).2))) (dCs (someB cs s)) :=
  ev_dice (c := ⟨K, T, [p], E⟩) (P := P_some) (i := 1) (p := p) hi rfl (ea_cons h ea_nil) ⟨cs, rfl, hl, rfl, rfl, rfl⟩
end
end Fb

/-! More ice stays more ice. -/
namespace Fb
open PySem PySem.Spec PyProof.Rows L2
/-- no own lists at all -/
def noOwn (ρ : Env) : Bool := ρ.all fun e => match e with
  | .own _ _ => false
  | _ => true
theorem os_of {ρ1 ρ : Env} (h : noOwn ρ1 = true) : OwnSub ρ1 ρ := fun i p ds e => by
  have := List.all_eq_true.mp h _ (List.mem_of_getElem? e)
  cases this
def rNotB : R2 := fun x y H Q => ∃ a b, x = .bl a ∧ y = .bl b ∧ Q (.bl (!decide (a = b))) H
theorem op_notBl {X : Cx} : OpR X (compareOp .IsNot) rNotB := op_isnot_bl
theorem rx_notB {a b : Bool} : RX rNotB (.bool a) (.bool b) (.bool (!decide (a = b))) := fun x y G H gh ha hb Q q => by
  cases ha; cases hb
  exact ⟨a, b, rfl, rfl, q.here gh (.bl _)⟩
/-- b has ice wherever b' has, and they are of one shape -/
structure More (b b' : Bd) : Prop where
  w1 : Wf b
  w2 : Wf b'
  sh : bareB b = bareB b'
  ice : ∀ p : Cl, p.1 < hgt b → p.2 < wid b → iceAt b' p = true → iceAt b p = true
section
variable {b b' : Bd}
theorem same_ice_stone (W : Wf b) (W' : Wf b') (e : bareB b = bareB b') {p : Cl} (h1 : p.1 < hgt b) (h2 : p.2 < wid b) (hs : isStone (sgn b p) = true) : iceAt b p = iceAt b' p := by
  obtain ⟨_, _, k⟩ := of_bare W W' e
  unfold iceAt
  rw [(k p h1 h2).2 hs]
theorem more_iff (W : Wf b) (W' : Wf b') (e : bareB b = bareB b') : hasMore b b' = true ↔ More b b' := by
  unfold hasMore
  rw [List.all_eq_true]
  constructor
  · intro h
    refine ⟨W, W', e, fun p h1 h2 hi => ?_⟩
    by_cases hs : isStone (sgn b p) = true
    · rw [same_ice_stone W W' e h1 h2 hs]; exact hi
    · refine h p (List.mem_filter.mpr ⟨?_, hi⟩)
      rw [← bare_free W W' e]
      exact W.mem_free.mpr ⟨h1, h2, by rw [free_stone W h1 h2]; simpa using hs⟩
  · intro m c hc
    obtain ⟨h1, h2⟩ := List.mem_filter.mp hc
    rw [← bare_free W W' e] at h1
    obtain ⟨k1, k2⟩ := free_in W h1
    exact m.ice c k1 k2 h2
theorem More.refl (W : Wf b) : More b b := ⟨W, W, rfl, fun _ _ _ h => h⟩
theorem countP_mono {α : Type} {l : List α} {u v : α → Bool} (h : ∀ a ∈ l, u a = true → v a = true) : l.countP u ≤ l.countP v := by
  induction l with
  | nil => exact Nat.le_refl _
  | cons a l ih =>
    rw [List.countP_cons, List.countP_cons]
    have i := ih fun x hx => h x (List.mem_cons_of_mem _ hx)
    have h0 := h a List.mem_cons_self
    cases hu : u a with
    | false => simp only [Bool.false_eq_true, if_false]; split <;> omega
    | true => rw [h0 hu]; simp only [if_true]; omega
theorem More.tick (m : More b b') : More (tick b) (Fb.tick b') where
  w1 := m.w1.tick
  w2 := m.w2.tick
  sh := by rw [bare_tick m.w1, bare_tick m.w2, m.sh]
  ice := fun p h1 h2 hi => by
    rw [hgt_tick] at h1
    rw [wid_tick m.w1.h1] at h2
    obtain ⟨hh, hw, hs⟩ := of_bare m.w1 m.w2 m.sh
    have h1' : p.1 < hgt b' := by rw [← hh]; exact h1
    have h2' : p.2 < wid b' := by rw [← hw]; exact h2
    cases hst : isStone (sgn b p) with
    | true =>
      rw [ice_stone m.w1 h1 h2 hst]
      rw [ice_stone m.w2 h1' h2' (by rw [← (hs p h1 h2).1]; exact hst)] at hi
      exact m.ice p h1 h2 hi
    | false =>
      rw [ice_tick m.w1 h1 h2 hst]
      rw [ice_tick m.w2 h1' h2' (by rw [← (hs p h1 h2).1]; exact hst), ← hh, ← hw] at hi
      have hc : (nb (hgt b) (wid b) p).countP (fun q => iceAt b' q) ≤ (nb (hgt b) (wid b) p).countP (fun q => iceAt b q) := countP_mono fun q hq hqi => by
        obtain ⟨q1, q2⟩ := nb_in h1 h2 hq
        exact m.ice q q1 q2 hqi
      have h0 := m.ice p h1 h2
      generalize (nb (hgt b) (wid b) p).countP (fun q => iceAt b' q) = k' at hc hi
      generalize (nb (hgt b) (wid b) p).countP (fun q => iceAt b q) = k at hc ⊢
      generalize (nb (hgt b) (wid b) p).length = n at hi ⊢
      by_cases c1 : 2 * k' = n
      · rw [if_pos c1] at hi
        by_cases c2 : 2 * k = n
        · rw [if_pos c2]; exact h0 hi
        · rw [if_neg c2]; exact decide_eq_true (by omega)
      · rw [if_neg c1] at hi
        have := of_decide_eq_true hi
        rw [if_neg (by omega)]
        exact decide_eq_true (by omega)
theorem More.later (m : More b b') : ∀ n : Nat, More (later n b) (Fb.later n b')
  | 0 => m
  | n + 1 => by rw [later_succ, later_succ]; exact (More.later m n).tick
theorem More.anti (m : More b b') (k : More b' b) : b = b' := by
  obtain ⟨hh, hw, hs⟩ := of_bare m.w1 m.w2 m.sh
  refine ext_ice m.w1 m.w2 hh hw (fun p h1 h2 => (hs p h1 h2).1) fun p h1 h2 => ?_
  rw [Bool.eq_iff_iff]
  exact ⟨fun h => k.ice p (by rw [← hh]; exact h1) (by rw [← hw]; exact h2) h, fun h => m.ice p h1 h2 h⟩
theorem More.trans {c : Bd} (m : More b b') (k : More b' c) : More b c := by
  obtain ⟨hh, hw, hs⟩ := of_bare m.w1 m.w2 m.sh
  exact ⟨m.w1, k.w2, m.sh.trans k.sh, fun p h1 h2 h => m.ice p h1 h2 (k.ice p (by rw [← hh]; exact h1) (by rw [← hw]; exact h2) h)⟩
/-- drawing more -/
theorem more_drawn (W : Wf b) {cs ds : List Cl} (h : ∀ c ∈ free b, c ∈ ds → c ∈ cs) : More (drawn b cs) (drawn b ds) := by
  obtain ⟨w1, w2⟩ := W.drawn cs
  obtain ⟨w3, w4⟩ := W.drawn ds
  refine ⟨w2, w4, by rw [bare_drawn W, bare_drawn W], fun p h1 h2 hi => ?_⟩
  rw [hgt_drawn] at h1
  rw [w1] at h2
  rw [ice_drawn W _ h1 h2] at hi ⊢
  by_cases hs : isStone (sgn b p) = true
  · rw [if_pos hs] at hi ⊢; exact hi
  · rw [if_neg hs] at hi ⊢
    have hf : p ∈ free b := W.mem_free.mpr ⟨h1, h2, by rw [free_stone W h1 h2]; simpa using hs⟩
    exact decide_eq_true (h p hf (of_decide_eq_true hi))
theorem wf_join (W : Wf b) (b' : Bd) : Wf (joinB b b') ∧ bareB (joinB b b') = bareB b := ⟨(W.drawn _).2, bare_drawn W _⟩
theorem wf_share (W : Wf b) (b' : Bd) : Wf (shareB b b') ∧ bareB (shareB b b') = bareB b := ⟨(W.drawn _).2, bare_drawn W _⟩
theorem own_of (W : Wf b) (W' : Wf b') (e : bareB b = bareB b') : drawn b ((free b).filter (iceAt b')) = b' := by
  rw [drawn_same W W' e (ds := (free b').filter (iceAt b')) (fun c hc => by rw [bare_free W W' e]), drawn_own W']
theorem join_l (W : Wf b) (W' : Wf b') (e : bareB b = bareB b') : More (joinB b b') b := by
  have h := more_drawn W (cs := (free b).filter fun c => iceAt b c || iceAt b' c) (ds := (free b).filter (iceAt b)) (fun c _ hc => by
    rw [List.mem_filter] at hc ⊢
    exact ⟨hc.1, by rw [hc.2]; rfl⟩)
  rw [drawn_own W] at h
  exact h
theorem join_r (W : Wf b) (W' : Wf b') (e : bareB b = bareB b') : More (joinB b b') b' := by
  have h := more_drawn W (cs := (free b).filter fun c => iceAt b c || iceAt b' c) (ds := (free b).filter (iceAt b')) (fun c _ hc => by
    rw [List.mem_filter] at hc ⊢
    exact ⟨hc.1, by rw [hc.2, Bool.or_true]⟩)
  rw [own_of W W' e] at h
  exact h
theorem share_l (W : Wf b) (W' : Wf b') (e : bareB b = bareB b') : More b (shareB b b') := by
  have h := more_drawn W (ds := (free b).filter fun c => iceAt b c && iceAt b' c) (cs := (free b).filter (iceAt b)) (fun c _ hc => by
    rw [List.mem_filter] at hc ⊢
    exact ⟨hc.1, (Bool.and_eq_true _ _ ▸ hc.2 : _ ∧ _).1⟩)
  rw [drawn_own W] at h
  exact h
theorem share_r (W : Wf b) (W' : Wf b') (e : bareB b = bareB b') : More b' (shareB b b') := by
  have h := more_drawn W (ds := (free b).filter fun c => iceAt b c && iceAt b' c) (cs := (free b).filter (iceAt b')) (fun c _ hc => by
    rw [List.mem_filter] at hc ⊢
    exact ⟨hc.1, (Bool.and_eq_true _ _ ▸ hc.2 : _ ∧ _).2⟩)
  rw [own_of W W' e] at h
  exact h
end
/-! ### a board of another shape, written -/
def unlikeB (b : Bd) : Bd := if 1 < hgt b * wid b then [[35]] else [[35, 35]]
theorem unlike_ok (b : Bd) : Wf (unlikeB b) := by unfold unlikeB; split <;> decide
theorem unlike_ne {b : Bd} (W : Wf b) : bareB b ≠ bareB (unlikeB b) := fun e => by
  obtain ⟨hh, hw, _⟩ := of_bare W (unlike_ok b) e
  have h1 : 1 ≤ hgt b := W.h1
  have w1 := W.w1
  unfold unlikeB at hh hw
  split at hh
  · rename_i c
    rw [if_pos c] at hw
    have hh : hgt b = 1 := hh
    have hw : wid b = 1 := hw
    rw [hh, hw] at c
    omega
  · rename_i c
    rw [if_neg c] at hw
    have hh : hgt b = 1 := hh
    have hw : wid b = 2 := hw
    rw [hh, hw] at c
    omega
section
variable {K : PySem.W.Frag} {c : Cfg} {ρ ρ1 ρ2 : Env} {te tr : TE} {b b' : Bd}
/-- ("#",) if len(board) * len(board[0]) > 1 else ("##",) -/
theorem ev_unlike (W : Wf b) (hb : EvX c te ρ ρ (dB b)) : EvX c (tIf (tTest (tOp (rGtU c.K) (tOp (rMulU c.K) (tCB (rLen c.K) (tCons te tNil)) (tCB (rLen c.K) (tCons (tOp (rIx c.K) te (tC (.int 0))) tNil))) (tC (.int 1)))) (tTup (tCons (tC (.str "#")) tNil)) (tTup (tCons (tC (.str "##")) tNil))) ρ ρ (dB (unlikeB b)) := by
  have hh := W.h4
  have hh : hgt b ≤ 4 := hh
  have hw := W.w4
  refine ev_if (b := decide (1 < hgt b * wid b)) (et_is (et_test (ev_op (ev_op (ev_hgt W hb) (ev_wid W hb) (ux_mulR (by omega))) ev_int ux_gtI)) (decide_eq_decide.mpr ?_)) (fun z => ?_) (fun z => ?_)
  · rw [← Int.natCast_mul]
    omega
  · unfold unlikeB
    rw [if_pos (of_decide_eq_true z)]
    exact ev_tup1 (by decide +kernel)
  · unfold unlikeB
    rw [if_neg (of_decide_eq_false z)]
    exact ev_tup1 (by decide +kernel)
theorem ee_unlike {P : List D → Rz → Prop} {z : Bd → Bd → D → Prop} (hP : ∀ ds r, AsksU c.K ds r z → P ds r) (W : Wf b) (W' : Wf b') (hn : bareB b ≠ bareB b') (h1 : EvX c te ρ ρ1 (dB b)) (h2 : EvX c tr ρ1 ρ2 (dB b')) : EvE c (tCall (spF P) [] c.E (tCons te (tCons tr tNil))) ρ (He.ga c.K "Unlike") :=
  ee_call (ea_cons h1 (ea_cons h2 ea_nil)) (hP _ _ ⟨_, _, rfl, W.small, W'.small, .inr ⟨b, rfl, W, .inr ⟨b', rfl, W', .inl ⟨hn, rfl⟩⟩⟩⟩)
theorem ev_more (W : Wf b) (W' : Wf b') (e : bareB b = bareB b') {E' : XK} (h1 : EvX c te ρ ρ1 (dB b)) (h2 : EvX c tr ρ1 ρ2 (dB b')) : EvX c (tCall (spF (P_has_more c.K)) [] E' (tCons te (tCons tr tNil))) ρ ρ2 (.bool (hasMore b b')) := ev_pairU (fun _ _ h => h) W W' e rfl h1 h2
/-- not has_more(..), where it has -/
theorem et_notMore (m : More b b') {E' : XK} (h1 : EvX c te ρ ρ1 (dB b)) (h2 : EvX c tr ρ1 ρ2 (dB b')) : EvT c (tNot (tB (tCall (spF (P_has_more c.K)) [] E' (tCons te (tCons tr tNil))))) ρ ρ2 false :=
  et_is (et_not (et_B (ev_more m.w1 m.w2 m.sh h1 h2))) (by rw [(more_iff m.w1 m.w2 m.sh).mpr m]; rfl)
end
end Fb

/-! count_ice; a dict made of written pairs. -/
namespace Fb
open PySem PySem.Spec PyProof.Rows L2
def rCntS : V → List V → Hp → VK → Prop := fun x xs H Q => ∃ a b, x = .str a ∧ xs = [.str b] ∧ Q (.int (Txt.count a b)) H
/-! ### rows of signs, all of them -/
def rowsN : Nat → List (List Nat)
  | 0 => [[]]
  | n + 1 => (rowsN n).flatMap fun r => [35 :: r, 46 :: r, 42 :: r, 111 :: r]
theorem mem_rowsN : ∀ {r : List Nat}, (∀ k ∈ r, isSign k = true) → r ∈ rowsN r.length
  | [], _ => List.mem_singleton.mpr rfl
  | k :: r, h => by
    have ih := mem_rowsN (r := r) fun x hx => h x (List.mem_cons_of_mem _ hx)
    show k :: r ∈ (rowsN r.length).flatMap fun r => [35 :: r, 46 :: r, 42 :: r, 111 :: r]
    rw [List.mem_flatMap]
    refine ⟨r, ih, ?_⟩
    rcases isSign_cases (h k List.mem_cons_self) with z | z | z | z <;> subst z <;> simp
theorem cnt_all : ∀ n, n < 5 → ∀ r ∈ rowsN n, Txt.count (tx r) "#" + Txt.count (tx r) "*" = ((r.countP (fun k => isIce k) : Nat) : Int) := by decide +kernel
theorem cnt_row {r : List Nat} (hl : r.length ≤ 4) (h : ∀ k ∈ r, isSign k = true) : Txt.count (tx r) "#" + Txt.count (tx r) "*" = ((r.countP (fun k => isIce k) : Nat) : Int) := cnt_all r.length (by omega) r (mem_rowsN h)
def countIce (b : Bd) : Nat := (b.map fun r => r.countP fun k => isIce k).sum
def P_count_ice (K : PySem.W.Frag) (ds : List D) (r : Rz) : Prop := Asks K ds r fun b d => d = .int (countIce b : Nat)
abbrev N_count_ice : List Str := ["board", "signs"]
def t_count_ice (K : PySem.W.Frag) (w : World) (E : XK) : TS := (tSeq (tDrop (tCall (spF (P_need_board K)) [] E (tCons (tVar 0) tNil)))
 (tRet (tCB (rSum K) (tCons (tLc (iAny K (tVar 0)) (gName 1) tYes (tOp (rAddU K) (tM1 rCntS (tVar 1) (tC (.str "#"))) (tM1 rCntS (tVar 1) (tC (.str "*")))) [1]) tNil))))
section
variable {K : PySem.W.Frag} {w : World} {vs : List V} {H : Hp} {Q : VK} {E : XK} {c : Cfg} {ρ ρ1 ρ2 : Env} {te tr : TE} {b b' : Bd}
theorem len_count_ice (h : spF (P_count_ice K) vs H Q E) : vs.length = 1 := spF_len (fun ds r p => len1 p) h
theorem sum_cast (l : List Nat) : (l.map fun n : Nat => (n : Int)).sum = ((l.sum : Nat) : Int) := by
  induction l with
  | nil => rfl
  | cons a l ih => rw [List.map_cons, List.sum_cons, List.sum_cons, ih, Int.natCast_add]
theorem body_count_ice (h : spF (P_count_ice K) vs H Q E) : t_count_ice K w E { nx := fun _ H' => Q .non H', rt := Q } (L2.start N_count_ice vs) H :=
  pure_of (t := t_count_ice K w) (P := P_count_ice K) (asks_of (N := N_count_ice) (u := fun E => _) fun E b d W hz => by
    subst hz
    have hh := W.h4
    have hw := W.w4
    have L := ev_lcA (c := ⟨K, [], [], E⟩) (ρ := env0 N_count_ice [dB b]) (te := tOp (rAddU K) (tM1 rCntS (tVar 1) (tC (.str "#"))) (tM1 rCntS (tVar 1) (tC (.str "*")))) (g := gName 1) (vs := [1]) (wi := iAny K (tVar 0)) b dR (fun r => .int ((r.countP (fun k => isIce k) : Nat) : Int)) (fun r ρ => ρ.set 1 (.dat (dR r))) [1] (ui_tup (ev_var rfl)) (by omega) rfl (fun _ _ => tg_name) (fun _ h => h)
      (fun r hr => by
        obtain ⟨e1, e2⟩ := W.rows r hr
        exact ev_is (ev_op (ev_m1 (ev_var rfl) ev_str rm_count) (ev_m1 (ev_var rfl) ev_str rm_count) ux_addI) (congrArg PyData.int (cnt_row (by omega) e2)))
    have e : (b.map fun r => PyData.int ((r.countP (fun k => isIce k) : Nat) : Int)) = ((b.map fun r => r.countP fun k => isIce k).map fun n : Nat => (n : Int)).map .int := by rw [List.map_map, List.map_map]; rfl
    rw [e] at L
    exact ⟨_, exs_ret (ev_is (ev_cb (ea_cons L ea_nil) rc_sum) (congrArg PyData.int (sum_cast _))) (OwnSub.refl _)⟩) h
theorem ev_count (W : Wf b) {E' : XK} (h : EvX c te ρ ρ1 (dB b)) : EvX c (tCall (spF (P_count_ice K)) [] E' (tCons te tNil)) ρ ρ1 (.int (countIce b : Nat)) := ev_asks (fun _ _ h => h) W rfl h
/-! as a sum over the cells -/
theorem sum_range {α : Type} (l : List α) (f : α → Nat) (z : α) : (l.map f).sum = ((List.range l.length).map fun i => f (l.getD i z)).sum := by
  congr 1
  apply List.ext_getElem
  · simp
  · intro i h1 h2
    rw [List.length_map] at h1
    rw [List.getElem_map, List.getElem_map, List.getElem_range, List.getD_eq_getElem?_getD, List.getElem?_eq_getElem h1]
    rfl
theorem count_cells (W : Wf b) : countIce b = sumL (cells (hgt b) (wid b)) fun p => if iceAt b p = true then 1 else 0 := by
  unfold countIce cells
  rw [sumL_flatMap, sum_range b _ []]
  unfold sumL
  refine congrArg List.sum (List.map_congr_left fun i hi => ?_)
  have hi := List.mem_range.mp hi
  have hl := (W.row (r := i) hi).2.1
  rw [← sumL_count, List.map_map]
  unfold sumL
  rw [sum_range (b.getD i []) _ 0, hl]
  rfl
theorem count_turnd (W : Wf b) : countIce (turnd b) = countIce b := by
  have m := mv_turnd W
  rw [count_cells W, count_cells W.turnd, ← sumL_perm (m.gm.cells m.w1.h5 m.w1.w5 m.w2.h5 m.w2.w5), sumL_map]
  refine sumL_congr fun a ha => ?_
  obtain ⟨a1, a2⟩ := mem_cells.mp ha
  rw [m.ice a1 a2]
  cases iceAt b a <;> rfl
theorem cells_len (h w : Nat) : (cells h w).length = h * w := by
  unfold cells
  induction h with
  | zero => simp
  | succ h ih => rw [List.range_succ, List.flatMap_append, List.length_append, ih]; simp [Nat.succ_mul]
theorem count_exch (W : Wf b) : countIce (exch b) + countIce b = hgt b * wid b := by
  have m := mv_exch W
  rw [count_cells W, count_cells W.exch, hgt_exch, W.wid_exch, ← sumL_add, ← cells_len]
  have : ∀ l : List Cl, (∀ a ∈ l, a.1 < hgt b ∧ a.2 < wid b) → (sumL l fun a => (if iceAt (exch b) a = true then 1 else 0) + (if iceAt b a = true then 1 else 0)) = l.length := by
    intro l
    induction l with
    | nil => intro _; rfl
    | cons a l ih =>
      intro h
      obtain ⟨a1, a2⟩ := h a List.mem_cons_self
      have e : iceAt (exch b) a = (iceAt b a != true) := m.ice a1 a2
      rw [sumL_cons, ih fun x hx => h x (List.mem_cons_of_mem _ hx), List.length_cons, e]
      cases iceAt b a <;> simp <;> omega
  exact this _ fun a ha => mem_cells.mp ha
theorem drawn_nil (W : Wf b) : drawn b [] = bareB b := by
  unfold drawn bareB
  apply List.ext_getElem
  · simp [hgt]
  · intro i h1 h2
    have hi : i < b.length := by simpa using h2
    rw [List.getElem_map, List.getElem_range, List.getElem_map]
    obtain ⟨e1, e2⟩ := W.rows _ (List.getElem_mem hi)
    have eg : b.getD i [] = b[i] := by rw [List.getD_eq_getElem?_getD, List.getElem?_eq_getElem hi]; rfl
    rw [eg]
    generalize b[i] = r at e1 e2
    rw [drawRow_eq]
    unfold bareR
    apply List.ext_getElem
    · simp
    · intro j h3 h4
      have hj : j < r.length := by simpa using h4
      rw [List.getElem_map, List.getElem_range, List.getElem_map]
      unfold drawS
      rw [List.getD_eq_getElem?_getD, List.getElem?_eq_getElem hj]
      show (if isStone r[j] = true then r[j] else if (i, j) ∈ ([] : List Cl) then 35 else 46) = _
      rw [if_neg (show ¬ (i, j) ∈ ([] : List Cl) by simp)]
      rcases isSign_cases (e2 _ (List.getElem_mem hj)) with z | z | z | z <;> rw [z] <;> rfl
end
/-! ### a dict of written pairs -/
def rDictP (K : PySem.W.Frag) : List V → Hp → VK → Prop := fun xs H Q => ∃ (a : Addr) (ps : List Addr) (kvs : List (Key × V)), xs = [.ref a] ∧ SqL K H a (ps.map V.ref) ∧ Paired (fun p kv => SqT K H p [kV kv.1, kv.2]) ps kvs ∧
    ∀ p, H p = none → Q (.ref p) (upd H p (.dK (mergeK [] kvs)))
def pairD (q : Str × Str) : D := .tuple [.str q.1, .str q.2]
def pairV (q : Str × Str) : Key × V := (.inr q.1, .str q.2)
theorem isAll_pairs {K : PySem.W.Frag} {G H : Hp} (gh : Ex G H) : ∀ {vs : List V} {ps : List (Str × Str)}, IsAll G vs (ps.map pairD) → ∃ as : List Addr, vs = as.map V.ref ∧ Paired (fun p kv => SqT K H p [kV kv.1, kv.2]) as (ps.map pairV)
  | [], [], _ => ⟨[], rfl, .nil⟩
  | _ :: _, _ :: _, .cons h t => by
    obtain ⟨as, e, q⟩ := isAll_pairs (K := K) gh t
    cases h with
    | tup ea is =>
      cases is with
      | cons h1 t1 =>
        cases t1 with
        | cons h2 t2 =>
          cases t2
          cases h1
          cases h2
          rename_i a
          refine ⟨a :: as, by rw [e]; rfl, .cons ?_ q⟩
          exact .of (gh _ _ ea)
section
variable {c : Cfg} {ρ ρ1 : Env} {ta : TA} {te : TE} {u : TS} {o : Out}
/-- x = dict([..]) -/
theorem exs_dictP {i : Nat} {ps : List (Str × Str)} (h0 : EvA c ta ρ ρ [.list (ps.map pairD)]) (h : ∀ p : Addr, ExS c u (ρ.set i (.obj p (.dK (mergeK [] (ps.map pairV))))) o) : ExS c (tSeq (tAsg (tCB (rDictP c.K) ta) (gName i)) u) ρ o := fun G0 H0 Dn σ G H r z => by
  refine h0 σ G H r.sit _ fun vs G1 H1 g1 s1 i1 => ?_
  cases i1 with
  | cons hl t =>
    cases t
    cases hl with
    | lst e is =>
      obtain ⟨as, ev, q⟩ := isAll_pairs (K := c.K) s1.gh is
      subst ev
      refine ⟨_, as, _, rfl, .of (s1.gh _ _ e), q, fun p hp => ?_⟩
      refine h p G0 H0 Dn _ G1 (upd H1 p (.dK (mergeK [] (ps.map pairV)))) ?_ (z.ex g1.gg)
      have hG : G1 p = none := s1.gh.free hp
      have pl : Pl G1 H1 G1 (upd H1 p (.dK (mergeK [] (ps.map pairV)))) := ⟨.refl _, Ex.new hp, fun _ _ => rfl⟩
      refine ⟨(s1.pl pl (s1.gh.trans (Ex.new hp))).set ⟨rfl, upd_same, hG, fun _ z => by cases z⟩ (fun p' e j e' h1 h2 => ?_), (r.grow.trans g1).trans (pl.grow (B := c.B)), fun k p' es e => ?_⟩
      · obtain rfl : p = p' := Option.some.inj e
        exact absurd hp (s1.addr_in h1 h2)
      · rcases getset e with ⟨_, e, _⟩ | ⟨_, e⟩
        · cases e
        · exact r.new k p' es e
/-- d[k] of such -/
theorem ev_dgetS {i : Nat} {p : Addr} {kvs : List (Key × V)} {k z : Str} (hi : ρ[i]? = some (.obj p (.dK kvs))) (h : EvX c te ρ ρ (.str k)) (hv : valV kvs (.inr k) = some (.str z)) : EvX c (tDGet (tVar i) te) ρ ρ (.str z) := fun σ G H s Q q => by
  obtain ⟨q1, _⟩ := s.ent i _ hi
  refine ⟨.ref p, q1, h σ G H s _ fun v G1 H1 g1 s1 i1 => ?_⟩
  cases i1
  obtain ⟨_, w2, _⟩ := s1.ent i _ hi
  refine ⟨p, .str z, rfl, ?_, q _ G1 H1 g1 s1 (.str _)⟩
  have := DGet.k (k := Sum.inr k) w2
  rw [hv] at this
  exact this
end
end Fb

/-! More words that the laws share. -/
namespace Fb
open PySem PySem.Spec PyProof.Rows L2
theorem le_set : ∀ {ρ : Env} {j : Nat} {e : Ent}, ρ[j]? = some .un → Le ρ (ρ.set j e)
  | [], _, _, h => by cases h
  | x :: ρ, 0, e, h => by
    have h : x = .un := Option.some.inj h
    subst h
    exact .un (Le.refl ρ)
  | x :: ρ, j + 1, e, h => .eq (le_set (ρ := ρ) (j := j) (by simpa using h))
section
variable {K : PySem.W.Frag} {c : Cfg} {ρ ρ1 ρ2 : Env} {te tr : TE} {b : Bd} {t : TS}
/-- for x in [..]: a body that changes nothing -/
theorem exs_bads {j : Nat} (xs : List D) (hj : ρ[j]? = some .un) (hi : EvX c te ρ ρ (.list xs)) (hb : ∀ x ∈ xs, ExS c t (ρ.set j (.dat x)) (.next (ρ.set j (.dat x)))) : ExS c (tFor (iAny c.K te) (gName j) t) ρ (.next ρ) :=
  exs_list (c := c) (j := j) xs id (fun _ => ρ) (ui_list (ev_is hi (by rw [List.map_id]))) (OwnSub.refl _) .none fun i h => by
    have hm : xs.getD i .none ∈ xs := by rw [List.getD_eq_getElem?_getD, List.getElem?_eq_getElem h]; exact List.getElem_mem h
    exact exs_to (hb _ hm) (le_set hj)
theorem ev_isBoard {v : D} (hs : smallB v) {E' : XK} (h : EvX c te ρ ρ1 v) : EvX c (tCall (spF (P_is_board K)) [] E' (tCons te tNil)) ρ ρ1 (.bool (isBoardD v)) := ev_call (P := P_is_board K) (ea_cons h ea_nil) ⟨v, rfl, hs, rfl⟩
theorem ev_cellsP (W : Wf b) {E' : XK} (h : EvX c te ρ ρ1 (dB b)) : EvX c (tCall (spF (P_cells K)) [] E' (tCons te tNil)) ρ ρ1 (dCs (free b)) := ev_asks (fun _ _ h => h) W rfl h
theorem small_cs {cs : List Cl} (h : cs.length ≤ 1000) : smallCs (dCs cs) := ⟨by rw [List.length_map]; exact h, fun d hd => by
  obtain ⟨c, _, rfl⟩ := List.mem_map.mp hd
  exact (by decide : 2 ≤ 1000)⟩
theorem ev_askC {P : List D → Rz → Prop} {z : Bd → D → D → Prop} {d : D} {cs : List Cl} (hP : ∀ ds r, AsksC K ds r z → P ds r) (W : Wf b) (h1 : ∀ c ∈ cs, c ∈ free b) (h2 : cs.Pairwise ltC) (hz : z b (dCs cs) d) {E' : XK} (hb : EvX c te ρ ρ1 (dB b)) (hc : EvX c tr ρ1 ρ2 (dCs cs)) :
    EvX c (tCall (spF P) [] E' (tCons te (tCons tr tNil))) ρ ρ2 d :=
  ev_call (ea_cons hb (ea_cons hc ea_nil)) (hP _ _ ⟨_, _, rfl, W.small, small_cs (Nat.le_trans (cells_short W h1 h2) (by decide)), .inr ⟨b, rfl, W, .inr ⟨by rw [isCells_dCs W, decide_eq_true ⟨h1, h2⟩], d, hz, rfl⟩⟩⟩)
theorem ev_withIce {cs : List Cl} (W : Wf b) (h1 : ∀ c ∈ cs, c ∈ free b) (h2 : cs.Pairwise ltC) {E' : XK} (hb : EvX c te ρ ρ1 (dB b)) (hc : EvX c tr ρ1 ρ2 (dCs cs)) : EvX c (tCall (spF (P_with_ice K)) [] E' (tCons te (tCons tr tNil))) ρ ρ2 (dB (drawn b cs)) :=
  ev_askC (fun _ _ h => h) W h1 h2 ⟨cs, rfl, rfl⟩ hb hc
theorem ev_keepW {cs : List Cl} (W : Wf b) (h1 : ∀ c ∈ cs, c ∈ free b) (h2 : cs.Pairwise ltC) {E' : XK} (hb : EvX c te ρ ρ1 (dB b)) (hc : EvX c tr ρ1 ρ2 (dCs cs)) : EvX c (tCall (spF (P_keep_water K)) [] E' (tCons te (tCons tr tNil))) ρ ρ2 (.bool (keepW b cs)) :=
  ev_askC (fun _ _ h => h) W h1 h2 ⟨cs, rfl, rfl⟩ hb hc
theorem ev_freeze {cs : List Cl} (W : Wf b) (h1 : ∀ c ∈ cs, c ∈ free b) (h2 : cs.Pairwise ltC) {E' : XK} (hb : EvX c te ρ ρ1 (dB b)) (hc : EvX c tr ρ1 ρ2 (dCs cs)) : EvX c (tCall (spF (P_freeze K)) [] E' (tCons te (tCons tr tNil))) ρ ρ2 (.bool (freezes b cs)) :=
  ev_askC (fun _ _ h => h) W h1 h2 ⟨cs, rfl, rfl⟩ hb hc
theorem ev_greatest (W : Wf b) {E' : XK} (h : EvX c te ρ ρ1 (dB b)) : EvX c (tCall (spF (P_greatest_keeping K)) [] E' (tCons te tNil)) ρ ρ1 (dCs (greatest b)) := ev_asks (fun _ _ h => h) W rfl h
/-- cells that are none -/
theorem ee_badC {P : List D → Rz → Prop} {z : Bd → D → D → Prop} {x : D} (hP : ∀ ds r, AsksC c.K ds r z → P ds r) (W : Wf b) (hs : smallCs x) (hx : isCellsD b x = false) (hb : EvX c te ρ ρ1 (dB b)) (hc : EvX c tr ρ1 ρ2 x) :
    EvE c (tCall (spF P) [] c.E (tCons te (tCons tr tNil))) ρ (He.ga c.K "InvalidCells") :=
  ee_call (ea_cons hb (ea_cons hc ea_nil)) (hP _ _ ⟨_, x, rfl, W.small, hs, .inr ⟨b, rfl, W, .inl ⟨hx, rfl⟩⟩⟩)
/-- if .. or _law_told(..) != ..: return False -/
theorem et_toldE {C : Addr} {nm : Str} {f : XK → TE} (tk : TermOk c.K C nm) (hn : PySem.PyData.strOk nm = true) (h : ∀ E' : XK, EvE ⟨c.K, c.T, [], E'⟩ (f E') ρ C) :
    EvT c (tTest (tOp (rNeD c.K) (tTold c.K c.T f) (tTup (tCons (tC (.str "error")) (tCons (tC (.str nm)) tNil))))) ρ ρ false := et_test (ev_op (ev_toldE tk h) ev_term (gx_neTerm hn))
theorem et_not1 {a : Bool} {tt : TT} (h : EvT c tt ρ ρ1 a) (e : a = true) : EvT c (tNot tt) ρ ρ1 false := et_is (et_not h) (by rw [e]; rfl)
end
end Fb

/-! The order of data; all boards of a shape. -/
namespace Fb
open PySem PySem.Spec PyProof.Rows L2
/-! ### order -/
theorem dlt_irrefl (x : D) : PySem.W.dataLt x x = false := PyProof.Rows.lex_irrefl _
theorem dlt_trans {x y z : D} (h : PySem.W.dataLt x y = true) (k : PySem.W.dataLt y z = true) : PySem.W.dataLt x z = true := PyProof.Rows.lex_trans _ _ _ h k
theorem dlt_toks {x y : D} (h : PySem.W.dataLt x y = false) (k : PySem.W.dataLt y x = false) : PySem.W.keyToks x = PySem.W.keyToks y := PyProof.Rows.lex_total _ _ h k
theorem toks_eq {x y : D} (ha : PySem.W.alike x y = true) (h : PySem.W.keyToks x = PySem.W.keyToks y) : PyData.eqv x y = true := by
  cases e : PyData.eqv x y with
  | true => rfl
  | false =>
    have k := (PySem.W.toks_eqv x y ha).2 e [] [Sum.inl 0]
    rw [h, PySem.W.lex_pre, PyProof.Rows.lex_irrefl] at k
    cases k
section
variable {α : Type} [DecidableEq α] {enc : α → D} {ok : α → Prop} {n : Nat}
theorem dlt_tri (g : Good enc ok n) (al : ∀ a b, PySem.W.alike (enc a) (enc b) = true) (a b : α) : PySem.W.dataLt (enc a) (enc b) = true ∨ a = b ∨ PySem.W.dataLt (enc b) (enc a) = true := by
  cases h : PySem.W.dataLt (enc a) (enc b) with
  | true => exact .inl rfl
  | false =>
    cases k : PySem.W.dataLt (enc b) (enc a) with
    | true => exact .inr (.inr rfl)
    | false =>
      have e := toks_eq (al a b) (dlt_toks h k)
      rw [g.eqv] at e
      exact .inr (.inl (of_decide_eq_true e))
theorem dle_iff (a b : α) : PySem.W.dataLe false enc a b = true ↔ ¬ PySem.W.dataLt (enc b) (enc a) = true := by
  show (!PySem.W.dataLt (enc b) (enc a)) = true ↔ _
  cases PySem.W.dataLt (enc b) (enc a) <;> simp
theorem dle_trans (a b c : α) (h : PySem.W.dataLe false enc a b = true) (k : PySem.W.dataLe false enc b c = true) : PySem.W.dataLe false enc a c = true := by
  rw [dle_iff] at *
  intro z
  rcases PyProof.Rows.lex_negTrans _ (PySem.W.keyToks (enc b)) _ z with y | y
  · exact k y
  · exact h y
theorem dle_total (a b : α) : (PySem.W.dataLe false enc a b || PySem.W.dataLe false enc b a) = true := by
  rw [Bool.or_eq_true, dle_iff, dle_iff]
  cases h : PySem.W.dataLt (enc b) (enc a) with
  | false => exact .inl (by simp)
  | true =>
    refine .inr fun k => ?_
    have := dlt_trans h k
    rw [dlt_irrefl] at this
    cases this
theorem dle_anti (g : Good enc ok n) (al : ∀ a b, PySem.W.alike (enc a) (enc b) = true) {a b : α} (h : PySem.W.dataLe false enc a b = true) (k : PySem.W.dataLe false enc b a = true) : a = b := by
  rw [dle_iff] at h k
  rcases dlt_tri g al a b with z | z | z
  · exact absurd z k
  · exact z
  · exact absurd z h
theorem sorted_unique {le : α → α → Bool} (anti : ∀ a b, le a b = true → le b a = true → a = b) : ∀ {l m : List α}, l.Perm m → l.Pairwise (fun a b => le a b = true) → m.Pairwise (fun a b => le a b = true) → l = m
  | [], m, p, _, _ => (List.nil_perm.mp p).symm
  | a :: l, [], p, _, _ => absurd p.length_eq (by simp)
  | a :: l, b :: m, p, hl, hm => by
    obtain ⟨l1, l2⟩ := List.pairwise_cons.mp hl
    obtain ⟨m1, m2⟩ := List.pairwise_cons.mp hm
    have e : a = b := by
      rcases List.mem_cons.mp (p.mem_iff.mp List.mem_cons_self) with z | z
      · exact z
      · rcases List.mem_cons.mp (p.mem_iff.mpr List.mem_cons_self) with y | y
        · exact y.symm
        · exact anti a b (l1 b y) (m1 a z)
    subst e
    rw [sorted_unique anti (List.Perm.cons_inv p) l2 m2]
theorem sort_sorted (l : List α) : (l.mergeSort (PySem.W.dataLe false enc)).Pairwise (fun a b => PySem.W.dataLe false enc a b = true) := List.pairwise_mergeSort dle_trans dle_total l
theorem sort_unique (g : Good enc ok n) (al : ∀ a b, PySem.W.alike (enc a) (enc b) = true) {l m : List α} (p : l.Perm m) (hm : m.Pairwise (fun a b => PySem.W.dataLe false enc a b = true)) : l.mergeSort (PySem.W.dataLe false enc) = m :=
  sorted_unique (fun _ _ h k => dle_anti g al h k) ((List.mergeSort_perm _ _).trans p) (sort_sorted l) hm
end
/-! ### all boards of a shape -/
theorem subsA_mem : ∀ {cs : List Cl} {f : List (List Cl)} {s : List Cl}, s ∈ subsA cs f ↔ ∃ u ∈ f, ∃ t : List Cl, t.Sublist cs ∧ s = u ++ t
  | [], f, s => by
    show s ∈ f ↔ _
    constructor
    · intro h
      exact ⟨s, h, [], .slnil, by rw [List.append_nil]⟩
    · rintro ⟨u, hu, t, ht, rfl⟩
      rw [List.eq_nil_of_sublist_nil ht, List.append_nil]
      exact hu
  | c :: cs, f, s => by
    show s ∈ subsA cs (f ++ f.map fun s => s ++ [c]) ↔ _
    rw [subsA_mem (cs := cs)]
    constructor
    · rintro ⟨u, hu, t, ht, rfl⟩
      rcases List.mem_append.mp hu with z | z
      · exact ⟨u, z, t, ht.cons c, rfl⟩
      · obtain ⟨v, hv, rfl⟩ := List.mem_map.mp z
        exact ⟨v, hv, c :: t, ht.cons_cons c, by rw [List.append_assoc]; rfl⟩
    · rintro ⟨u, hu, t, ht, rfl⟩
      cases ht with
      | cons _ h => exact ⟨u, List.mem_append_left _ hu, t, h, rfl⟩
      | cons_cons _ h =>
        rename_i t'
        exact ⟨u ++ [c], List.mem_append_right _ (List.mem_map.mpr ⟨u, hu, rfl⟩), t', h, by rw [List.append_assoc]; rfl⟩
theorem subs_mem {cs s : List Cl} : s ∈ subs cs ↔ s.Sublist cs := by
  unfold subs
  rw [subsA_mem]
  constructor
  · rintro ⟨u, hu, t, ht, rfl⟩
    rw [List.mem_singleton.mp hu]
    exact ht
  · intro h
    exact ⟨[], List.mem_singleton.mpr rfl, s, h, rfl⟩
section
variable {b b' : Bd}
theorem mem_allB (W : Wf b) {o : Bd} : o ∈ allB b ↔ Wf o ∧ bareB o = bareB b := by
  rw [(allB_perm b).mem_iff, List.mem_map]
  constructor
  · rintro ⟨s, hs, rfl⟩
    exact ⟨(W.drawn s).2, bare_drawn W s⟩
  · rintro ⟨Wo, e⟩
    exact ⟨(free b).filter (iceAt o), subs_mem.mpr List.filter_sublist, own_of W Wo e.symm⟩
theorem allB_shape (W : Wf b) (W' : Wf b') (e : bareB b = bareB b') : allB b = allB b' := by
  unfold allB
  rw [bare_free W W' e]
  congr 1
  exact List.map_congr_left fun s _ => drawn_same W W' e fun c _ => Iff.rfl
theorem subsA_nodup : ∀ {cs : List Cl} {f : List (List Cl)}, f.Nodup → cs.Nodup → (∀ u ∈ f, ∀ c ∈ cs, c ∉ u) → (subsA cs f).Nodup
  | [], f, h, _, _ => h
  | c :: cs, f, h, hc, hf => by
    obtain ⟨c1, c2⟩ := List.nodup_cons.mp hc
    refine subsA_nodup (cs := cs) ?_ c2 ?_
    · rw [List.nodup_append]
      refine ⟨h, ?_, fun u hu v hv e => ?_⟩
      · rw [List.nodup_iff_pairwise_ne, List.pairwise_map]
        rw [List.nodup_iff_pairwise_ne] at h
        exact h.imp fun hne e => hne (List.append_cancel_right e)
      · obtain ⟨x, hx, rfl⟩ := List.mem_map.mp hv
        exact hf u hu c List.mem_cons_self (by rw [e]; exact List.mem_append_right _ (List.mem_singleton.mpr rfl))
    · intro u hu d hd hdu
      rcases List.mem_append.mp hu with z | z
      · exact hf u z d (List.mem_cons_of_mem _ hd) hdu
      · obtain ⟨x, hx, rfl⟩ := List.mem_map.mp z
        rcases List.mem_append.mp hdu with y | y
        · exact hf x hx d (List.mem_cons_of_mem _ hd) y
        · exact c1 (by rw [← List.mem_singleton.mp y]; exact hd)
theorem drawn_inj (W : Wf b) {s t : List Cl} (hs : s.Sublist (free b)) (ht : t.Sublist (free b)) (e : drawn b s = drawn b t) : s = t := by
  refine asc_ext ((free_sorted b).sublist hs) ((free_sorted b).sublist ht) fun c => ?_
  have key : ∀ {u : List Cl}, u.Sublist (free b) → (c ∈ u ↔ c ∈ free b ∧ iceAt (drawn b u) c = true) := fun {u} hu => by
    constructor
    · intro h
      have hf := hu.subset h
      obtain ⟨h1, h2, h3⟩ := W.mem_free.mp hf
      refine ⟨hf, ?_⟩
      rw [free_stone W h1 h2] at h3
      rw [ice_drawn W u h1 h2, if_neg (by simpa using h3)]
      exact decide_eq_true h
    · rintro ⟨hf, hi⟩
      obtain ⟨h1, h2, h3⟩ := W.mem_free.mp hf
      rw [free_stone W h1 h2] at h3
      rw [ice_drawn W u h1 h2, if_neg (by simpa using h3)] at hi
      exact of_decide_eq_true hi
  rw [key hs, key ht, e]
theorem nodup_allB (W : Wf b) : (allB b).Nodup := by
  rw [(allB_perm b).nodup_iff, List.nodup_iff_pairwise_ne, List.pairwise_map]
  have h : (subs (free b)).Nodup := subsA_nodup (by simp) (nodup_free b) (fun u hu => by rw [List.mem_singleton.mp hu]; simp)
  rw [List.nodup_iff_pairwise_ne] at h
  exact List.Pairwise.imp_of_mem (fun {s t} hs ht hne e => hne (drawn_inj W (subs_mem.mp hs) (subs_mem.mp ht) e)) h
theorem allB_sorted (b : Bd) : (allB b).Pairwise (fun a c => PySem.W.dataLe false dB a c = true) := sort_sorted _
theorem free_len_le (W : Wf b) : (free b).length ≤ hgt b * wid b := freeFrom_len b 0 fun u hu => (W.rows u hu).1
end
/-! ### the law's own -/
def P__law_all (K : PySem.W.Frag) := P_all_boards K
abbrev N__law_all : List Str := ["_law_board", "_law_found", "_law_cell_here", "_law_some"]
def t__law_all (K : PySem.W.Frag) (w : World) (E : XK) : TS := (tSeq (tAsg (tLst (tCons (tTup tNil) tNil)) (gName 1))
 (tSeq (tFor (iAny K (tCall (spF (P__law_free K)) [] E (tCons (tVar 0) tNil))) (gName 2) (tAsg (tOp (rAddU K) (tVar 1) (tLc (iAny K (tVar 1)) (gName 3) tYes (tOp (rAddU K) (tVar 3) (tTup (tCons (tVar 2) tNil))) [3])) (gName 1)))
 (tRet (tCB (rSortedD K) (tCons (tLc (iAny K (tVar 1)) (gName 3) tYes (tCall (spF (P__law_laid K)) [] E0 (tCons (tVar 0) (tCons (tVar 3) tNil))) [3]) tNil)))))
section
variable {K : PySem.W.Frag} {w : World} {vs : List V} {H : Hp} {Q : VK} {E : XK} {c : Cfg} {ρ ρ1 ρ2 : Env} {te tr : TE} {b b' : Bd}
theorem len__law_all (h : spF (P__law_all K) vs H Q E) : vs.length = 1 := len_all_boards h
theorem body__law_all (h : spF (P__law_all K) vs H Q E) : t__law_all K w E { nx := fun _ H' => Q .non H', rt := Q } (L2.start N__law_all vs) H := body_all_boards (w := w) h
theorem ev_lAll (W : Wf b) {E' : XK} (hb : EvX c te ρ ρ1 (dB b)) : EvX c (tCall (spF (P__law_all K)) [] E' (tCons te tNil)) ρ ρ1 (.list ((allB b).map dB)) := ev_allB W hb
theorem ev_askF {P : List D → Rz → Prop} {z : Bd → D → Prop} {d : D} (hP : ∀ ds r, AsksF K ds r z → P ds r) (W : Wf b) (h9 : (free b).length ≤ 9) (hz : z b d) {E' : XK} (hb : EvX c te ρ ρ1 (dB b)) : EvX c (tCall (spF P) [] E' (tCons te tNil)) ρ ρ1 d :=
  ev_call (ea_cons hb ea_nil) (hP _ _ ⟨_, rfl, W.small, .inr ⟨b, rfl, W, .inr ⟨h9, d, hz, rfl⟩⟩⟩)
def forer (b : Bd) : List Bd := (allB b).filter fun o => decide (tick o = b)
def stillB (b : Bd) : List Bd := (allB b).filter fun o => decide (tick o = o)
theorem ev_forer (W : Wf b) (h9 : (free b).length ≤ 9) {E' : XK} (hb : EvX c te ρ ρ1 (dB b)) : EvX c (tCall (spF (P_forerunners K)) [] E' (tCons te tNil)) ρ ρ1 (.tuple ((forer b).map dB)) := ev_askF (fun _ _ h => h) W h9 rfl hb
theorem ev_stills (W : Wf b) (h9 : (free b).length ≤ 9) {E' : XK} (hb : EvX c te ρ ρ1 (dB b)) : EvX c (tCall (spF (P_still_boards K)) [] E' (tCons te tNil)) ρ ρ1 (.tuple ((stillB b).map dB)) := ev_askF (fun _ _ h => h) W h9 rfl hb
theorem ev_turns (W : Wf b) (h9 : (free b).length ≤ 9) {E' : XK} (hb : EvX c te ρ ρ1 (dB b)) : EvX c (tCall (spF (P_boards_in_turn K)) [] E' (tCons te tNil)) ρ ρ1 (.tuple (((allB b).filter turnB).map dBB)) := ev_askF (fun _ _ h => h) W h9 rfl hb
theorem ee_large {P : List D → Rz → Prop} {z : Bd → D → Prop} (hP : ∀ ds r, AsksF c.K ds r z → P ds r) (W : Wf b) (h9 : 9 < (free b).length) (hb : EvX c te ρ ρ1 (dB b)) : EvE c (tCall (spF P) [] c.E (tCons te tNil)) ρ (He.ga c.K "TooLarge") :=
  ee_call (ea_cons hb ea_nil) (hP _ _ ⟨_, rfl, W.small, .inr ⟨b, rfl, W, .inl ⟨h9, rfl⟩⟩⟩)
theorem good_bds : Good (fun s : List Bd => PyData.tuple (s.map dB)) (Ev (Ev okR)) 2 := good_tup good_bd
theorem good_bdl : Good (fun s : List Bd => PyData.list (s.map dB)) (Ev (Ev okR)) 2 := good_lst good_bd
theorem ok_all (W : Wf b) {p : Bd → Bool} : Ev (Ev okR) ((allB b).filter p) := fun o ho => (allB_wf W (List.mem_filter.mp ho).1).2.2.ok
end
end Fb

/-! Sorting boards, any, and other words of the laws on all boards. -/
namespace Fb
open PySem PySem.Spec PyProof.Rows L2
theorem pick_range {α : Type} (l : List α) (p : α → Bool) (z : α) : ((List.range l.length).filter fun i => p (l.getD i z)).map (fun i => l.getD i z) = l.filter p := by
  have e : l = (List.range l.length).map fun i => l.getD i z := by
    apply List.ext_getElem
    · simp
    · intro i h1 h2
      rw [List.getElem_map, List.getElem_range, List.getD_eq_getElem?_getD, List.getElem?_eq_getElem h1]; rfl
  have k := List.filter_map (p := p) (f := fun i => l.getD i z) (l := List.range l.length)
  rw [← e] at k
  exact k.symm
section
variable {b b' : Bd}
theorem bare_exch (W : Wf b) (W' : Wf b') (e : bareB b = bareB b') : bareB (exch b) = bareB (exch b') := by
  obtain ⟨hh, hw, hs⟩ := of_bare W W' e
  refine bare_of W.exch W'.exch (by rw [hgt_exch, hgt_exch, hh]) (by rw [W.wid_exch, W'.wid_exch, hw]) fun p h1 h2 => ?_
  rw [hgt_exch] at h1
  rw [W.wid_exch] at h2
  have s1 : sgn (exch b) p = fx true (sgn b p) := (mv_exch W).sg p h1 h2
  have s2 : sgn (exch b') p = fx true (sgn b' p) := (mv_exch W').sg p (by rw [← hh]; exact h1) (by rw [← hw]; exact h2)
  obtain ⟨k1, k2⟩ := hs p h1 h2
  have g1 := (W.sgn_at h1 h2).2
  have g2 := (W'.sgn_at (p := p) (by rw [← hh]; exact h1) (by rw [← hw]; exact h2)).2
  rw [s1, s2, fx_stone true g1, fx_stone true g2]
  exact ⟨k1, fun h => by rw [k2 h]⟩
theorem exch_inj (W : Wf b) (W' : Wf b') (e : exch b = exch b') : b = b' := by rw [← exch_exch W, e, exch_exch W']
end
section
variable {K : PySem.W.Frag} {c : Cfg} {ρ ρ1 ρ2 : Env} {te tr : TE} {wi : TI} {g : TG} {tt : TT} {vs : List Nat} {α : Type}
/-- any([.. for .. if ..]) -/
theorem ev_anyM (xs : List α) (enc : α → D) (p q : α → Bool) (F : α → Env → Env) (js : List Nat) (hi : EvI c wi ρ ρ1 (xs.map enc)) (hn : xs.length ≤ 100000) (hB : c.B = [])
    (hg : ∀ a ∈ xs, TgX g (enc a) (F a) js) (hj : ∀ j ∈ js, j ∈ vs)
    (ht : ∀ a ∈ xs, EvT c tt (F a (wipeE ρ1 vs)) (F a (wipeE ρ1 vs)) (p a))
    (he : ∀ a ∈ xs, p a = true → EvX c te (F a (wipeE ρ1 vs)) (F a (wipeE ρ1 vs)) (.bool (q a))) : EvX c (tCB (rAny c.K) (tCons (tLc wi g tt te vs) tNil)) ρ ρ1 (.bool ((xs.filter p).any q)) := by
  have h := ev_lcM xs enc p (fun a => .bool (q a)) F js hi hn hB hg hj ht he
  have e : ((xs.filter p).map fun a => PyData.bool (q a)) = ((xs.filter p).map q).map .bool := by rw [List.map_map]; rfl
  rw [e] at h
  have r := ev_cb (ea_cons h ea_nil) (rc_any (K := c.K))
  rw [List.any_map] at r
  exact r
theorem ev_anyA (xs : List α) (enc : α → D) (q : α → Bool) (F : α → Env → Env) (js : List Nat) (hi : EvI c wi ρ ρ1 (xs.map enc)) (hn : xs.length ≤ 100000) (hB : c.B = [])
    (hg : ∀ a ∈ xs, TgX g (enc a) (F a) js) (hj : ∀ j ∈ js, j ∈ vs)
    (he : ∀ a ∈ xs, EvX c te (F a (wipeE ρ1 vs)) (F a (wipeE ρ1 vs)) (.bool (q a))) : EvX c (tCB (rAny c.K) (tCons (tLc wi g tYes te vs) tNil)) ρ ρ1 (.bool (xs.any q)) := by
  have := ev_anyM (tt := tYes) xs enc (fun _ => true) q F js hi hn hB hg hj (fun _ _ => et_yes) (fun a ha _ => he a ha)
  rwa [List.filter_eq_self.mpr (fun _ _ => rfl)] at this
theorem ev_listD {ds : List D} (h : EvX c te ρ ρ1 (.tuple ds)) : EvX c (tCB (rListOf c.K) (tCons te tNil)) ρ ρ1 (.list ds) := ev_cb (ea_cons h ea_nil) rc_listT
theorem rc_sortB {l m : List Bd} (hm : m.Pairwise (fun a b => PySem.W.dataLe false dB a b = true)) (hp : l.Perm m) (h1 : ∀ o ∈ l, Wf o) (hl : l.length ≤ 100000) : RC (rSortedD K) [.list (l.map dB)] (.list (m.map dB)) := by
  have hne : ∀ d ∈ l.map dB, ∃ x r, d = .tuple (x :: r) := fun d hd => by
    obtain ⟨o, ho, rfl⟩ := List.mem_map.mp hd
    have h1 := (h1 o ho).h1
    unfold dB
    cases o with
    | nil => simp at h1
    | cons a r => exact ⟨_, _, rfl⟩
  have sr := rc_sorted (K := K) (ds := l.map dB) (fun d hd d' hd' => by
    obtain ⟨o, _, rfl⟩ := List.mem_map.mp hd
    obtain ⟨o', _, rfl⟩ := List.mem_map.mp hd'
    exact alike_dB o o') (.inl hne) (by rw [List.length_map]; omega) (fun d hd => by
    obtain ⟨o, _, rfl⟩ := List.mem_map.mp hd
    exact Nat.le_trans (good_bd.dep o) (by decide))
  have es : (l.map dB).mergeSort (PySem.W.dataLe false id) = m.map dB := by
    rw [← List.map_mergeSort (r := PySem.W.dataLe false dB) (s := PySem.W.dataLe false id) (f := dB) (fun a _ b _ => rfl), sort_unique good_bd alike_dB hp hm]
  rw [es] at sr
  exact sr
theorem et_neBs {s u : List Bd} (hs : Ev (Ev okR) s) (h1 : EvX c te ρ ρ (.tuple (s.map dB))) (h2 : EvX c tr ρ ρ (.tuple (u.map dB))) (e : s = u) : EvT c (tTest (tOp (rNeD c.K) te tr)) ρ ρ false := by
  subst e
  exact et_is (et_test (ev_op h1 h2 (gx_ne (a := s) (b := s) good_bds (by decide) hs hs))) (by simp)
theorem et_neBl {s u : List Bd} (hs : Ev (Ev okR) s) (h1 : EvX c te ρ ρ (.list (s.map dB))) (h2 : EvX c tr ρ ρ (.list (u.map dB))) (e : s = u) : EvT c (tTest (tOp (rNeD c.K) te tr)) ρ ρ false := by
  subst e
  exact et_is (et_test (ev_op h1 h2 (gx_ne (a := s) (b := s) good_bdl (by decide) hs hs))) (by simp)
theorem ev_inB {o : Bd} {l : List Bd} (W : Wf o) (hl : Ev (Ev okR) l) (h1 : EvX c te ρ ρ (dB o)) (h2 : EvX c tr ρ ρ (.tuple (l.map dB))) : EvX c (tOp (rInU c.K) te tr) ρ ρ (.bool (decide (o ∈ l))) := ev_is (ev_op h1 h2 (gx_inT good_bd (by decide) W.ok hl)) (congrArg PyData.bool (decide_eq_decide.mpr Iff.rfl))
end
end Fb

/-! A set's table with masks up to 511: what is put in is found again; the table laid anew. -/
namespace Fb
open PySem PySem.Spec PyProof.Rows L2
/-! ### the round i -> 5 i + 1 modulo 512 -/
def Msk (m : Nat) : Prop := MaskOk m ∨ m = 511
theorem Msk.odd {m : Nat} (h : Msk m) : m % 2 = 1 := by
  rcases h with h | rfl
  · exact mask_odd h
  · rfl
theorem Msk.le {m : Nat} (h : Msk m) : m ≤ 511 := by
  rcases h with (rfl | rfl | rfl) | rfl <;> decide
theorem lcgI_shift (m x : Nat) : ∀ k, lcgI m ((x * 5 + 1) % (m + 1)) k = lcgI m x (k + 1)
  | 0 => rfl
  | k + 1 => by
    show (lcgI m ((x * 5 + 1) % (m + 1)) k * 5 + 1) % (m + 1) = (lcgI m x (k + 1) * 5 + 1) % (m + 1)
    rw [lcgI_shift m x k]
theorem lcgN_eq (m : Nat) : ∀ k, lcgN m k = lcgI m 0 k
  | 0 => rfl
  | k + 1 => by
    show (lcgN m k * 5 + 1) % (m + 1) = (lcgI m 0 k * 5 + 1) % (m + 1)
    rw [lcgN_eq m k]
/-- the numbers met in n steps from x, as bits -/
def seenB (m : Nat) : Nat → Nat → Nat → Nat
  | 0, _, acc => acc
  | n + 1, x, acc => seenB m n ((x * 5 + 1) % (m + 1)) (acc ||| 2 ^ x)
theorem seenB_of (m j : Nat) : ∀ (n x acc : Nat), (seenB m n x acc).testBit j = true → acc.testBit j = true ∨ ∃ k, k < n ∧ lcgI m x k = j
  | 0, _, _, h => .inl h
  | n + 1, x, acc, h => by
    rcases seenB_of m j n _ _ h with h1 | ⟨k, hk, e⟩
    · rw [Nat.testBit_or, Bool.or_eq_true] at h1
      rcases h1 with h1 | h1
      · exact .inl h1
      · rw [Nat.testBit_two_pow, decide_eq_true_eq] at h1
        exact .inr ⟨0, Nat.succ_pos _, h1⟩
    · rw [lcgI_shift] at e
      exact .inr ⟨k + 1, Nat.succ_lt_succ hk, e⟩
set_option exponentiation.threshold 1000 in
theorem seen511 : seenB 511 512 0 0 = 2 ^ 512 - 1 := by decide +kernel
theorem round511 : lcgN 511 512 = 0 := by decide +kernel
theorem Msk.all {m : Nat} (hm : Msk m) {j : Nat} (hj : j ≤ m) : ∃ b, b ≤ m ∧ lcgN m b = j := by
  rcases hm with h | rfl
  · exact lcg_all h hj
  · have h1 : (seenB 511 512 0 0).testBit j = true := by
      rw [seen511, Nat.testBit_two_pow_sub_one, decide_eq_true_eq]
      omega
    rcases seenB_of 511 j 512 0 0 h1 with h2 | ⟨k, hk, e⟩
    · rw [Nat.zero_testBit] at h2
      cases h2
    · exact ⟨k, by omega, by rw [lcgN_eq]; exact e⟩
theorem Msk.round {m : Nat} (hm : Msk m) : lcgN m (m + 1) = 0 := by
  rcases hm with h | rfl
  · exact lcg_round h
  · exact round511
theorem Msk.mod {m : Nat} (hm : Msk m) (k : Nat) : lcgN m (m + 1 + k) = lcgN m k := by
  rw [← lcgN_add m (m + 1) k, hm.round, ← lcgN_eq]
theorem Msk.meets {m : Nat} (hm : Msk m) {i j : Nat} (hi : i ≤ m) (hj : j ≤ m) : ∃ k, k ≤ m ∧ lcgI m i k = j := by
  obtain ⟨a, ha, rfl⟩ := hm.all hi
  obtain ⟨b, hb, rfl⟩ := hm.all hj
  by_cases h : a ≤ b
  · exact ⟨b - a, by omega, by rw [lcgN_add, show a + (b - a) = b from by omega]⟩
  · exact ⟨b + (m + 1) - a, by omega, by rw [lcgN_add, show a + (b + (m + 1) - a) = m + 1 + b from by omega, hm.mod]⟩
theorem Msk.run {m : Nat} (hm : Msk m) (h : Int) {j : Nat} (hj : j ≤ m) : ∃ n, n ≤ m + 12 ∧ runI m (SetTable.bits h) n = j := by
  obtain ⟨k, hk, e⟩ := hm.meets (runI_le m (SetTable.bits h) 12) hj
  refine ⟨12 + k, by omega, ?_⟩
  rw [runI_tail (bits_lt h), e]
theorem Msk.nth {m : Nat} (hm : Msk m) (h : Int) {j : Nat} (hj : j ≤ m) : ∃ k, k < 10 * SetTable.turns m ∧ way m h k = j := by
  obtain ⟨n, hn, e⟩ := hm.run h hj
  obtain ⟨k, hk, e2⟩ := run_nth m (SetTable.bits h) n
  refine ⟨k, by unfold SetTable.turns; omega, ?_⟩
  show (L2.nth m (runAt m (SetTable.bits h % (m + 1)) (SetTable.bits h)) k).j = j
  rw [e2]
  exact e
theorem way_in (m : Nat) (h : Int) (k : Nat) : way m h k ≤ m := by
  have hi : SetTable.bits h % (m + 1) ≤ m := Nat.le_of_lt_succ (Nat.mod_lt _ (Nat.succ_pos _))
  have r := runEnd_bd hi
  have q := nth_in (m := m) k (runAt m (SetTable.bits h % (m + 1)) (SetTable.bits h)) (by
    show SetTable.bits h % (m + 1) + (SetTable.runEnd m (SetTable.bits h % (m + 1)) - SetTable.bits h % (m + 1)) ≤ m
    omega)
  show (L2.nth m (runAt m (SetTable.bits h % (m + 1)) (SetTable.bits h)) k).j ≤ m
  omega
/-! ### the table -/
structure TabN (t : SetTable) (hs : List Int) : Prop where
  ris : Ris t.place.toList
  dm : t.dummies = #[]
  sz : t.place.size = hs.length
  mok : Msk t.mask
  bd : ∀ x ∈ t.place.toList, x ≤ t.mask
  reach : ∀ (i : Nat) (h : Int) (j : Nat), hs[i]? = some h → t.place.toList[i]? = some j → ∃ k, way t.mask h k = j ∧ ∀ k', k' < k → way t.mask h k' ∈ t.place.toList
section
variable {t : SetTable} {hs : List Int}
theorem TabN.first (T : TabN t hs) (hl : hs.length ≤ t.mask) (h : Int) : ∃ K, K < 10 * SetTable.turns t.mask ∧ way t.mask h K ∉ t.place.toList ∧ ∀ k, k < K → way t.mask h k ∈ t.place.toList := by
  obtain ⟨j, hj, hn⟩ := st_missing t.place.toList (t.mask + 1) (by rw [Array.length_toList, T.sz]; omega)
  obtain ⟨k, hk, e⟩ := T.mok.nth h (Nat.le_of_lt_succ hj)
  obtain ⟨K, h1, h2, h3⟩ := st_least (p := fun k => way t.mask h k ∉ t.place.toList) k (by show way t.mask h k ∉ _; rw [e]; exact hn)
  exact ⟨K, Nat.lt_of_le_of_lt h1 hk, h2, fun k' hk' => Classical.byContradiction (h3 k' hk')⟩
theorem TabN.before (T : TabN t hs) {h : Int} {K i j : Nat} (hK : way t.mask h K ∉ t.place.toList) (hi : hs[i]? = some h) (hj : t.place.toList[i]? = some j) : ∃ k, k < K ∧ way t.mask h k = j := by
  obtain ⟨k, e, hb⟩ := T.reach i h j hi hj
  refine ⟨k, Nat.lt_of_not_le fun c => hK ?_, e⟩
  rcases Nat.lt_or_eq_of_le c with c | c
  · exact hb K c
  · rw [c, e]; exact List.mem_of_getElem? hj
/-- what only the order's trust tells apart -/
theorem TabN.plain (T : TabN t hs) (b : Bool) : TabN { t with plain := b } hs := ⟨T.ris, T.dm, T.sz, T.mok, T.bd, T.reach⟩
theorem TabN.put (T : TabN t hs) {h : Int} {K : Nat} (hK : way t.mask h K ∉ t.place.toList) (hb : ∀ k, k < K → way t.mask h k ∈ t.place.toList) :
    ∃ p, t.put (way t.mask h K) = ((t.put (way t.mask h K)).1, p) ∧ p ≤ hs.length ∧ TabN (t.put (way t.mask h K)).1 (hs.take p ++ h :: hs.drop p) ∧ (t.put (way t.mask h K)).1.mask = t.mask ∧ (t.put (way t.mask h K)).1.led = t.led ∧ (t.put (way t.mask h K)).1.fill = hs.length + 1 := by
  have hjm := way_in t.mask h K
  generalize hj : way t.mask h K = j at hK hjm ⊢
  obtain ⟨c1, _, _⟩ := below_cut T.ris j
  generalize hp : SetTable.below t.place j = p at c1
  have hl : p ≤ t.place.toList.length := by rw [Array.length_toList]; exact c1
  have hh : p ≤ hs.length := by rw [← T.sz]; exact c1
  have pp : (t.put j).1.place.toList = t.place.toList.take p ++ j :: t.place.toList.drop p := by rw [put_place, hp]
  have no : t.place[SetTable.below t.place j]? ≠ some j := fun e => hK (List.mem_of_getElem? (by rw [Array.getElem?_toList]; exact e))
  have sz : (t.put j).1.place.size = hs.length + 1 := by
    rw [← Array.length_toList, pp, len_ins _ hl, Array.length_toList, T.sz]
  have up : ∀ {x : Nat}, x ∈ t.place.toList → x ∈ (t.put j).1.place.toList := fun hx => by
    rw [pp]
    exact mem_ins.2 (.inr hx)
  refine ⟨p, ?_, hh, ⟨ris_insert T.ris no, put_dm T.dm j, by rw [len_ins _ hh]; exact sz, T.mok, fun x hx => ?_, fun i h' j' h1 h2 => ?_⟩, rfl, rfl, ?_⟩
  · rw [← hp]
    rfl
  · rw [pp] at hx
    rcases mem_ins.1 hx with rfl | z
    · exact hjm
    · exact T.bd x z
  · rw [tins_get hs hh] at h1
    rw [pp, tins_get _ hl] at h2
    show ∃ k, way t.mask h' k = j' ∧ ∀ k', k' < k → way t.mask h' k' ∈ (t.put j).1.place.toList
    have old : ∀ i0, hs[i0]? = some h' → t.place.toList[i0]? = some j' → ∃ k, way t.mask h' k = j' ∧ ∀ k', k' < k → way t.mask h' k' ∈ (t.put j).1.place.toList := fun i0 a b => by
      obtain ⟨k, e, z⟩ := T.reach i0 h' j' a b
      exact ⟨k, e, fun k' hk' => up (z k' hk')⟩
    by_cases c : i < p
    · rw [if_pos c] at h1 h2
      exact old i h1 h2
    · rw [if_neg c] at h1 h2
      by_cases d : i = p
      · rw [if_pos d] at h1 h2
        obtain rfl := Option.some.inj h1
        obtain rfl := Option.some.inj h2
        exact ⟨K, hj, fun k' hk' => up (hb k' hk')⟩
      · rw [if_neg d] at h1 h2
        exact old (i - 1) h1 h2
  · show (t.put j).1.place.size + (t.put j).1.dummies.size = hs.length + 1
    rw [sz, put_dm T.dm j]
    rfl
end
/-! ### laid anew -/
theorem free_at {m : Nat} (hm : Msk m) (owner : Array (Option Nat)) (h : Int) {j : Nat} (hj : j ≤ m) (hf : oAt owner j = none) :
    ∃ K, SetTable.layClean.free m owner (SetTable.turns m) (SetTable.bits h % (m + 1)) (SetTable.bits h) = some (way m h K) ∧ oAt owner (way m h K) = none ∧ ∀ k, k < K → oAt owner (way m h k) ≠ none := by
  obtain ⟨n, hn, e⟩ := hm.run h hj
  generalize hi : SetTable.bits h % (m + 1) = i
  have hw : oAt owner (way m h (off m i (SetTable.bits h) n)) = none := by
    show oAt owner (L2.nth m (runAt m (SetTable.bits h % (m + 1)) (SetTable.bits h)) (off m i (SetTable.bits h) n)).j = none
    rw [hi, nth_off, ← hi, itL_run]
    show oAt owner (runI m (SetTable.bits h) n) = none
    rw [e]
    exact hf
  obtain ⟨K, k1, k2, k3⟩ := st_least (p := fun k => oAt owner (way m h k) = none) (off m i (SetTable.bits h) n) hw
  have hwy : ∀ k, (L2.nth m (runAt m i (SetTable.bits h)) k).j = way m h k := fun k => by rw [← hi]
  refine ⟨K, ?_, k2, k3⟩
  have fs := free_spec m owner (SetTable.turns m) n i (SetTable.bits h) K (by unfold SetTable.turns; omega) k1 (fun k hk => ?_) ?_
  · rw [fs, hwy]
  · rw [hwy]
    cases z : oAt owner (way m h k) with
    | none => exact absurd z (k3 k hk)
    | some _ => rfl
  · rw [hwy, k2]
    rfl
theorem own_next {m : Nat} (hm : Msk m) {done : List Int} {owner : Array (Option Nat)} (W : Own m done owner) (hl : done.length ≤ m) (h : Int) :
    ∃ j, SetTable.layClean.free m owner (SetTable.turns m) (SetTable.bits h % (m + 1)) (SetTable.bits h) = some j ∧ Own m (done ++ [h]) (owner.setIfInBounds j (some done.length)) := by
  obtain ⟨ps, hps, hin⟩ := W.ps
  obtain ⟨j0, h0, hn0⟩ := st_missing ps (m + 1) (by omega)
  have free0 : oAt owner j0 = none := Classical.byContradiction fun z => hn0 (hin j0 (Nat.le_of_lt_succ h0) z)
  obtain ⟨K, e1, e2, e3⟩ := free_at hm owner h (Nat.le_of_lt_succ h0) free0
  have hjm := way_in m h K
  generalize hj : way m h K = j at e1 e2 hjm
  have self := oAt_set_self (owner := owner) (j := j) (some done.length) (by rw [W.sz]; omega)
  have mono : ∀ {i : Nat}, oAt owner i ≠ none → oAt (owner.setIfInBounds j (some done.length)) i ≠ none := fun {i} hi => by
    by_cases c : i = j
    · rw [c, self]; exact fun e => nomatch e
    · rw [oAt_set_ne _ c]; exact hi
  refine ⟨j, e1, ⟨by rw [Array.size_setIfInBounds]; exact W.sz, fun i k hi e => ?_, fun k hk => ?_, ⟨j :: ps, by rw [List.length_cons, List.length_append, hps]; rfl, fun i hi e => ?_⟩⟩⟩
  · by_cases c : i = j
    · rw [c, self] at e
      obtain rfl := Option.some.inj e
      exact ⟨h, K, by rw [List.getElem?_append_right (Nat.le_refl _), Nat.sub_self]; rfl, hj.trans c.symm, fun k' hk' => mono (e3 k' hk')⟩
    · rw [oAt_set_ne _ c] at e
      obtain ⟨h', K', a1, a2, a3⟩ := W.at_ i k hi e
      exact ⟨h', K', by rw [List.getElem?_append_left (List.getElem?_eq_some_iff.mp a1).1]; exact a1, a2, fun k' hk' => mono (a3 k' hk')⟩
  · by_cases c : k < done.length
    · obtain ⟨i, hi, e⟩ := W.all k c
      exact ⟨i, hi, by rw [oAt_set_ne _ (fun z => by rw [z, e2] at e; cases e)]; exact e⟩
    · rw [List.length_append, List.length_singleton] at hk
      exact ⟨j, hjm, by rw [self, show done.length = k from by omega]⟩
  · by_cases c : i = j
    · rw [c]; exact List.mem_cons_self
    · rw [oAt_set_ne _ c] at e
      exact List.mem_cons_of_mem _ (hin i hi e)
theorem lay_all {m : Nat} (hm : Msk m) : ∀ (rest done : List Int) (owner : Array (Option Nat)), Own m done owner → done.length + rest.length ≤ m →
    ∃ owner', rest.foldl (stepF m) (some (owner, done.length)) = some (owner', (done ++ rest).length) ∧ Own m (done ++ rest) owner'
  | [], done, owner, W, _ => ⟨owner, by rw [List.append_nil]; rfl, by rw [List.append_nil]; exact W⟩
  | h :: rest, done, owner, W, hl => by
    rw [List.length_cons] at hl
    obtain ⟨j, e, W'⟩ := own_next hm W (by omega) h
    have hl1 : (done ++ [h]).length = done.length + 1 := by rw [List.length_append]; rfl
    obtain ⟨owner', f, W2⟩ := lay_all hm rest (done ++ [h]) _ W' (by omega)
    rw [hl1] at f
    rw [List.append_assoc, List.singleton_append] at f W2
    exact ⟨owner', by rw [List.foldl_cons, stepF_some e]; exact f, W2⟩
theorem relaidN (t : SetTable) {hs : Array Int} {wanted M : Nat} (hw : SetTable.sizeAbove wanted - 1 = M) (hM : Msk M) (hn : hs.size ≤ M) :
    ∃ t' order, t.relaid hs wanted = some (t', order) ∧ order.toList.Perm (List.range hs.size) ∧ TabN t' (order.toList.map fun i => hs.getD i 0) ∧ t'.mask = M ∧ t'.led = t.led ∧ t'.dummies = #[] := by
  obtain ⟨owner, f, W⟩ := lay_all hM hs.toList [] _ (Own.init M) (by rw [Array.length_toList]; show 0 + hs.size ≤ M; omega)
  rw [List.nil_append] at f W
  have hr : t.relaid hs wanted = some (tabOf t M owner, ((liveOf M owner).map (·.2)).toArray) := by
    have f' : hs.toList.foldl (stepF M) (some (Array.replicate (M + 1) none, 0)) = some (owner, hs.toList.length) := f
    rw [relaid_eq, hw, layClean_eq, f']
    rfl
  have ris := ris_live (fun j => owner.getD j none) (List.range (M + 1)) (by
    unfold Ris
    first | exact List.pairwise_lt_range | exact List.pairwise_lt_range _)
  have r1 : Ris ((liveOf M owner).map (·.1)) := ris.1
  have r2 : ∀ x ∈ (liveOf M owner).map (·.1), x ∈ List.range (M + 1) := ris.2
  have hz : hs.toList.length = hs.size := Array.length_toList
  have all : ∀ k, k < hs.size → k ∈ (liveOf M owner).map (·.2) := fun k hk => by
    obtain ⟨j, b1, b2⟩ := W.all k (by rw [hz]; exact hk)
    exact List.mem_map.mpr ⟨(j, k), (mem_live W.sz).2 ⟨b1, b2⟩, rfl⟩
  have hlen : (liveOf M owner).length = hs.size := by
    obtain ⟨ps, p1, p2⟩ := W.ps
    have nd : ((liveOf M owner).map (·.1)).Nodup := List.Pairwise.imp (fun h => Nat.ne_of_lt h) r1
    have a := nat_nodup_len ((liveOf M owner).map (·.1)) ps nd fun x hx => by
      obtain ⟨⟨y, k⟩, hq, rfl⟩ := List.mem_map.mp hx
      obtain ⟨b1, b2⟩ := (mem_live W.sz).1 hq
      exact p2 y b1 (by rw [b2]; exact fun z => nomatch z)
    have b := nat_nodup_len (List.range hs.size) ((liveOf M owner).map (·.2)) List.nodup_range fun k hk => all k (List.mem_range.mp hk)
    rw [List.length_map, p1] at a
    rw [List.length_map, List.length_range] at b
    omega
  refine ⟨tabOf t M owner, ((liveOf M owner).map (·.2)).toArray, hr, perm_range hs.size _ (by show ((liveOf M owner).map (·.2)).length = _; rw [List.length_map]; exact hlen) all, ⟨r1, rfl, ?_, hM, fun x hx => Nat.le_of_lt_succ (List.mem_range.mp (r2 x hx)), fun i h j h1 h2 => ?_⟩, rfl, rfl, rfl⟩
  · show ((liveOf M owner).map (·.1)).toArray.size = (((liveOf M owner).map (·.2)).map fun i => hs.getD i 0).length
    rw [List.size_toArray, List.length_map, List.length_map, List.length_map]
  · have h1' : (((liveOf M owner).map (·.2)).map fun i => hs.getD i 0)[i]? = some h := h1
    have h2' : ((liveOf M owner).map (·.1))[i]? = some j := h2
    rw [List.getElem?_map, List.getElem?_map] at h1'
    rw [List.getElem?_map] at h2'
    cases hq : (liveOf M owner)[i]? with
    | none => rw [hq] at h2'; cases h2'
    | some q =>
      obtain ⟨y, k⟩ := q
      rw [hq] at h1' h2'
      obtain rfl : y = j := Option.some.inj h2'
      have eh : hs.getD k 0 = h := Option.some.inj h1'
      obtain ⟨b1, b2⟩ := (mem_live W.sz).1 (List.mem_of_getElem? hq)
      obtain ⟨h0, K, a1, a2, a3⟩ := W.at_ y k b1 b2
      have e0 : hs.getD k 0 = h0 := by
        rw [Array.getD_eq_getD_getElem?, ← Array.getElem?_toList, a1]
        rfl
      obtain rfl : h0 = h := e0.symm.trans eh
      refine ⟨K, a2, fun k' hk' => ?_⟩
      show way M h0 k' ∈ (liveOf M owner).map (·.1)
      cases z : oAt owner (way M h0 k') with
      | none => exact absurd z (a3 k' hk')
      | some k2 => exact List.mem_map.mpr ⟨(way M h0 k', k2), (mem_live W.sz).2 ⟨way_in M h0 k', z⟩, rfl⟩
theorem size_308 : SetTable.sizeAbove (SetTable.grown 77) = 512 := by decide +kernel
end Fb

/-! len(set([x])), x a tuple of texts. -/
namespace Fb
open PySem PySem.Spec PyProof.Rows L2
section
variable {P : Program} {w : World} {A : Around} {E : Value → Shared → Prop} {s : Shared}
def Flat (v : Value) : Prop := (∃ i t, v = Value.int i t) ∨ ∃ x t, v = Value.str x t
theorem hashBy_flat {n : Nat} {v : Value} (h : Flat v) : ∃ b, hashByValue n v = pure b := by
  rcases h with ⟨i, t, rfl⟩ | ⟨x, t, rfl⟩
  · exact ⟨true, by cases n <;> rfl⟩
  · exact ⟨false, by cases n <;> rfl⟩
theorem hashBy_flats {b : Addr} {items : Array Value} (ht : s.heap.IsTuple b items) (hs : ∀ v ∈ items.toList, Flat v) {Q : Bool → Shared → Prop} (h : ∀ r, Q r s) : wpAny (model P w) A (hashByValue 8 (.ref b)) Q E s := by
  have hT := ht.typeIs
  obtain ⟨o, ho, hc, n, hd⟩ := ht
  unfold hashByValue
  refine wpAny_bind (wpAny_specialOf hT F.slot_tuple_hash.lookup ?_)
  show wpAny _ _ (seqItems? (.ref b) >>= _) _ _ s
  refine wpAny_bind (wpAny_seqItems ho hd ?_)
  refine wpAny_bind ?_
  show wpAny _ _ (forIn items _ _) _ _ s
  rw [← Array.forIn_toList]
  refine wpAny_forIn_list _ (fun rest r s' => s' = s ∧ ∀ v ∈ rest, Flat v) _ ?_ ?_ _ _ ⟨rfl, hs⟩
  · rintro v rest r s' ⟨rfl, hall⟩
    obtain ⟨k, e⟩ := hashBy_flat (n := 7) (hall v List.mem_cons_self)
    rw [e]
    refine wpAny_bind (wpAny_pure ?_)
    cases k with
    | true =>
      simp only [Bool.not_true, Bool.false_eq_true, if_false]
      exact wpAny_pure ⟨rfl, fun u hu' => hall u (List.mem_cons_of_mem _ hu')⟩
    | false =>
      simp only [Bool.not_false, if_true]
      exact wpAny_pure (wpAny_pure (h false))
  · rintro ⟨r1, r2⟩ s' ⟨rfl, _⟩
    cases r1 with
    | none => exact wpAny_pure (h _)
    | some k => exact wpAny_pure (h _)
abbrev emptyO (w : World) : Obj := { cls := .type "set", dict := none, data := .set #[] 0 (.fresh 0 0 (!w.params.followText "set-order")) }
end
end Fb

/-! A set of tuples of ints and texts, up to 300 members: searching, adding. -/
namespace Fb
open PySem PySem.Spec PyProof.Rows L2
abbrev IsK (P : Program) (w : World) (h : Heap) (k : List L2.Key) (a : Addr) : Prop := IsTupleKey (mixKind P w) h k a
abbrev khash (P : Program) (w : World) (k : List L2.Key) : Int := tupleKeyHash (mixKind P w) k
abbrev KL := List (Addr × List L2.Key)
section
variable {P : Program} {w : World} {A : Around} {E : Value → Shared → Prop} {s : Shared}
theorem flat_items {ks : List L2.Key} {vs : List Value} (h : ItemsAre (mixKind P w) ks vs) : ∀ v ∈ vs, Flat v := by
  induction h with
  | nil => exact fun v hv => nomatch hv
  | cons h1 _ ih =>
    intro v hv
    rcases List.mem_cons.mp hv with rfl | hv
    · rcases keyIs_shape h1 with ⟨i, t, _, e⟩ | ⟨x, t, _, e⟩
      · exact .inl ⟨i, t, e⟩
      · exact .inr ⟨x, t, e⟩
    · exact ih v hv
theorem hash_flat {k : List L2.Key} {b : Addr} (hk : IsK P w s.heap k b) {Q : Bool → Shared → Prop} (h : ∀ r, Q r s) : wpAny (model P w) A (hashByValue 8 (.ref b)) Q E s := by
  obtain ⟨o, items, n, ho, hc, hd, hi⟩ := hk
  exact hashBy_flats ⟨o, ho, hc, n, hd⟩ (flat_items hi) h
theorem class_flat (n : Nat) {v : Value} (h : Flat v) : ofAClassStatement n v = pure false := by
  rcases h with ⟨i, t, rfl⟩ | ⟨x, t, rfl⟩ <;> cases n <;> rfl
theorem class_key {k : List L2.Key} {b : Addr} {Q : Bool → Shared → Prop} (hk : IsK P w s.heap k b) (h : Q false s) : wpAny (model P w) A (ofAClassStatement 8 (.ref b)) Q E s := by
  have hT := hk.typeIs
  obtain ⟨o, items, n, ho, _, hd, hi⟩ := hk
  unfold ofAClassStatement
  refine wpAny_bind (wpAny_typeOf hT ?_)
  dsimp only
  have e : (("tuple" : String) == "tuple") = true := by decide
  simp only [e, if_true, Bool.not_true, Bool.false_eq_true, if_false]
  try refine wpAny_bind (wpAny_pure ?_)
  try simp only [Bool.not_true, Bool.false_eq_true, if_false]
  show wpAny _ _ (seqItems? (.ref b) >>= _) _ _ s
  refine wpAny_bind (wpAny_seqItems ho hd ?_)
  dsimp only
  refine wpAny_bind ?_
  show wpAny _ _ (forIn items _ _) _ _ s
  rw [← Array.forIn_toList]
  refine wpAny_forIn_list _ (fun rest r s' => r.1 = none ∧ s' = s ∧ ∀ v ∈ rest, Flat v) _ ?_ ?_ _ _ ⟨rfl, rfl, flat_items hi⟩
  · rintro v rest r s' ⟨hr, rfl, hall⟩
    rw [class_flat _ (hall v List.mem_cons_self)]
    refine wpAny_bind (wpAny_pure ?_)
    simp only [Bool.false_eq_true, if_false]
    exact wpAny_pure ⟨rfl, rfl, fun u hu => hall u (List.mem_cons_of_mem _ hu)⟩
  · rintro ⟨r1, r2⟩ s' ⟨hr, rfl, _⟩
    simp only at hr
    subst hr
    exact wpAny_pure h
/-- a search among such tuples shows nothing -/
theorem seen_key {k : List L2.Key} {b : Addr} {Q : Bool → Shared → Prop} (hk : IsK P w s.heap k b) {ys : List Value} (hy : ∀ y ∈ ys, ∃ k' c, y = Value.ref c ∧ IsK P w s.heap k' c) (h : Q false s) :
    wpAny (model P w) A (searchCouldBeSeen (.ref b) ys) Q E s := by
  unfold searchCouldBeSeen
  refine wpAny_bind ?_
  refine wpAny_forIn_list _ (fun rest r s' => r.1 = none ∧ s' = s ∧ ∀ y ∈ rest, ∃ k' c, y = Value.ref c ∧ IsK P w s.heap k' c) _ ?_ ?_ _ _ ⟨rfl, rfl, hy⟩
  · rintro v rest r s' ⟨hr, rfl, hall⟩
    obtain ⟨k', c, rfl, hc⟩ := hall v List.mem_cons_self
    have hrest : ∀ y ∈ rest, ∃ k' c, y = Value.ref c ∧ IsK P w s'.heap k' c := fun u hu => hall u (List.mem_cons_of_mem _ hu)
    dsimp only
    by_cases hv : (b == c || (carriedByValue (.ref b) && carriedByValue (.ref c))) = true
    · exact wp_if_pos hv (wpAny_pure ⟨rfl, rfl, hrest⟩)
    · refine wp_if_neg hv (wpAny_bind (wpAny_eqIsQuiet_tuple hk ?_))
      simp only [Bool.not_true, Bool.false_eq_true, if_false]
      refine wpAny_bind (wpAny_eqIsQuiet_tuple hc ?_)
      simp only [Bool.not_true, Bool.false_eq_true, if_false]
      refine wpAny_bind (class_key hk ?_)
      simp only [Bool.false_eq_true, if_false]
      refine wpAny_bind (class_key hc ?_)
      simp only [Bool.false_eq_true, if_false]
      exact wpAny_pure ⟨rfl, rfl, hrest⟩
  · rintro ⟨r1, r2⟩ s' ⟨hr, rfl, _⟩
    simp only at hr
    subst hr
    exact wpAny_pure h
/-! ### the set -/
def rowsKN (P : Program) (w : World) (L : KL) : List (Int × Value) := L.map fun p => (khash P w p.2, Value.ref p.1)
structure SetN (P : Program) (w : World) (h : Heap) (a : Addr) (L : KL) (es : Array (Int × Value)) (ep : Nat) (t : SetTable) : Prop where
  ob : ∃ o, h.get? a = some o ∧ o.ExactSet ∧ o.data = .set es ep t
  rows : es.toList = rowsKN P w L
  tab : TabN t (L.map fun p => khash P w p.2)
  nd : (L.map (·.2)).Nodup
  tup : ∀ p ∈ L, IsK P w h p.2 p.1
  led : w.params.followText "set-order" = true ∨ t.led = true
  room : L.length * 5 < t.mask * 3
variable {a : Addr} {L : KL} {es : Array (Int × Value)} {ep : Nat} {t : SetTable}
theorem rows_len (h : es.toList = rowsKN P w L) : es.size = L.length := by
  have e := congrArg List.length h
  rwa [Array.length_toList, rowsKN, List.length_map] at e
theorem SetN.psz (R : SetN P w s.heap a L es ep t) : t.place.size = L.length := by
  rw [R.tab.sz, List.length_map]
theorem fits_of {n : Nat} (h1 : t.place.size = n) (h2 : t.dummies = #[]) (h3 : n ≤ t.mask) : t.fits n = true := by
  unfold SetTable.fits SetTable.fill
  rw [h2, Bool.and_eq_true, beq_iff_eq, decide_eq_true_eq]
  refine ⟨h1, ?_⟩
  show t.place.size + 0 ≤ t.mask
  omega
theorem SetN.fits (R : SetN P w s.heap a L es ep t) : t.fits es.size = true := by
  have := R.room
  rw [rows_len R.rows]
  exact fits_of R.psz R.tab.dm (by omega)
theorem SetN.entry (R : SetN P w s.heap a L es ep t) {i : Nat} {p : Addr × List L2.Key} (h : L[i]? = some p) : es[i]? = some (khash P w p.2, Value.ref p.1) := by
  rw [← Array.getElem?_toList, R.rows, rowsKN, List.getElem?_map, h]
  rfl
theorem SetN.gw (R : SetN P w s.heap a L es ep t) : ¬ t.gaveWay = true := by
  unfold SetTable.gaveWay
  rw [R.tab.mok.odd]
  decide
theorem nth_dummy (m : Nat) : ∀ (n : Nat) (p : SetTable.Probe), p.dummy = none → (L2.nth m p n).dummy = none
  | 0, _, h => h
  | n + 1, p, h => nth_dummy m n (adv m p) (by
    unfold adv
    split <;> exact h)
/-- the search from the c-th step of the way on -/
theorem searchN (R : SetN P w s.heap a L es ep t) {x : Addr} {k : List L2.Key} (hx : IsK P w s.heap k x) (hu : A.units < cLine) {hh : Int} (ehh : khash P w k = hh) {K : Nat} (hKf : K < 10 * SetTable.turns t.mask)
    (hK : way t.mask hh K ∉ t.place.toList) (hKb : ∀ c, c < K → way t.mask hh c ∈ t.place.toList) {Q : SetFound → Shared → Prop}
    (hin : k ∈ L.map (·.2) → Q (.there none) s) (hout : k ∉ L.map (·.2) → Q (.free (way t.mask hh K) false) s) :
    ∀ (f c : Nat) (stand : Option SetTable.Probe), stand.getD (t.probeStart hh) = L2.nth t.mask (runAt t.mask (SetTable.bits hh % (t.mask + 1)) (SetTable.bits hh)) c → c ≤ K → K - c < f →
      (∀ (i : Nat) p, L[i]? = some p → p.2 = k → ∃ c', c ≤ c' ∧ c' < K ∧ t.place.toList[i]? = some (way t.mask hh c')) →
      wpAny (model P w) A (setSearchFrom a (.ref x) hh true f stand) Q E s
  | 0, c, _, _, _, hf, _ => absurd hf (Nat.not_lt_zero _)
  | f + 1, c, stand, hst, hc, hf, hre => by
    obtain ⟨o, ho, hex, hd⟩ := R.ob
    rw [setSearchFrom_succ]
    refine wpAny_bind (wpAny_setState_of ho hd R.fits ?_)
    dsimp only
    refine wp_if_neg R.gw ?_
    try refine wpAny_bind (wpAny_pure ?_)
    generalize hs0 : runAt t.mask (SetTable.bits hh % (t.mask + 1)) (SetTable.bits hh) = p0 at hst
    have wy : ∀ q, (L2.nth t.mask (L2.nth t.mask p0 c) q).j = way t.mask hh (c + q) := fun q => by rw [← nth_add, ← hs0]
    have hdm : (L2.nth t.mask p0 c).dummy = none := nth_dummy _ _ _ (by rw [← hs0]; rfl)
    have spec := go_spec t R.tab.ris R.tab.dm (fun i => (es[i]?.map (·.1)).getD 0) hh (10 * SetTable.turns t.mask) (K - c) _ hdm (by omega)
      (fun q hq => by rw [wy]; exact hKb (c + q) (by omega)) (by rw [wy, show c + (K - c) = K from by omega]; exact hK)
    have hashAt : ∀ (i : Nat) p, L[i]? = some p → (fun i => (es[i]?.map (·.1)).getD 0) i = khash P w p.2 := fun i p hp => by
      show (es[i]?.map (·.1)).getD 0 = _
      rw [R.entry hp]
      rfl
    -- what has the key is not passed
    have notPassed : ∀ (n : Nat), (∀ k' i', k' < n → t.place.toList[i']? = some (L2.nth t.mask (L2.nth t.mask p0 c) k').j → (fun i : Nat => (es[i]?.map (fun e : Int × Value => e.1)).getD 0) i' ≠ hh) → ∀ (i0 : Nat) q0, L[i0]? = some q0 → q0.2 = k → ∀ c', c ≤ c' → c' < c + n → t.place.toList[i0]? ≠ some (way t.mask hh c') := fun n hno i0 q0 h0 hk0 c' h1 h2 h3 => by
      refine hno (c' - c) i0 (by omega) (by rw [wy, show c + (c' - c) = c' from by omega]; exact h3) ?_
      rw [hashAt i0 q0 h0, hk0, ehh]
    rcases spec with ⟨q, i, hq, hi, _, hno, hpr⟩ | ⟨hno, hpr⟩
    · have hpr' : t.probe (fun i => (es[i]?.map (·.1)).getD 0) hh (stand.getD (t.probeStart hh)) = some (.candidate (way t.mask hh (c + q)) i (L2.nth t.mask p0 (c + (q + 1)))) := by
        rw [hst, ← wy, nth_add]
        exact hpr
      rw [hpr']
      dsimp only
      rw [wy] at hi
      have hil : i < L.length := by
        have h1 : i < t.place.toList.length := (List.getElem?_eq_some_iff.mp hi).1
        rw [Array.length_toList, R.psz] at h1
        exact h1
      obtain ⟨p, hp⟩ : ∃ p, L[i]? = some p := ⟨_, List.getElem?_eq_getElem hil⟩
      have hmem : p ∈ L := List.mem_of_getElem? hp
      have rest : wpAny (model P w) A (searchRest a (.ref x) hh true f es t (way t.mask hh (c + q)) i (L2.nth t.mask p0 (c + (q + 1)))) Q E s := by
        unfold searchRest
        rw [R.entry hp]
        dsimp only
        refine wpAny_bind (wpAny_holding (wpAny_eqBool_tuple hu (R.tup p hmem) hx ?_))
        refine wpAny_bind (wpAny_setState_of ho hd R.fits ?_)
        dsimp only
        by_cases hkk : p.2 = k
        · exact wp_if_pos (by simp [hkk]) (wpAny_pure (hin (List.mem_map.mpr ⟨p, hmem, hkk⟩)))
        · refine wp_if_neg (by simp [hkk]) ?_
          try refine wpAny_bind (wpAny_pure ?_)
          rw [sameMem]
          dsimp only
          have hsl : t.slot (way t.mask hh (c + q)) = .live i := slot_live R.tab.ris hi
          simp only [if_true, hsl, R.entry hp]
          refine wpAny_bind (wpAny_isSame_ref_self (wpAny_bind (wpAny_pure ?_)))
          simp only [if_true]
          refine wp_if_neg (by simp [hkk]) ?_
          refine searchN R hx hu ehh hKf hK hKb hin hout f (c + (q + 1)) _ (by rw [hs0]; rfl) (by omega) (by omega) fun i0 q0 h0 hk0 => ?_
          obtain ⟨c', a1, a2, a3⟩ := hre i0 q0 h0 hk0
          refine ⟨c', ?_, a2, a3⟩
          have z1 : ¬ c' < c + q := fun z => notPassed q hno i0 q0 h0 hk0 c' a1 z a3
          have z2 : c' ≠ c + q := fun z => by
            rw [z] at a3
            have s0 := slot_live R.tab.ris a3
            rw [hsl] at s0
            injection s0 with s0
            rw [← s0, hp] at h0
            exact hkk ((congrArg Prod.snd (Option.some.inj h0)).trans hk0)
          omega
      by_cases hl : t.led = true
      · refine wp_if_neg (by simp [hl]) ?_
        try refine wpAny_bind (wpAny_pure ?_)
        exact rest
      · refine wp_if_pos (by simp [hl]) ?_
        refine wpAny_bind (seen_key hx (fun y hy => ?_) ?_)
        · obtain ⟨e, he, ee⟩ := List.mem_map.mp hy
          have he1 : e ∈ es ∧ e.1 = hh := by simpa using he
          have he2 : e ∈ es.toList := by simpa using he1.1
          rw [R.rows] at he2
          obtain ⟨p2, hp2, e2⟩ := List.mem_map.mp he2
          exact ⟨p2.2, p2.1, by rw [← ee, ← e2], R.tup p2 hp2⟩
        · refine wp_if_neg (by decide) ?_
          try refine wpAny_bind (wpAny_pure ?_)
          exact rest
    · have hpr' : t.probe (fun i => (es[i]?.map (·.1)).getD 0) hh (stand.getD (t.probeStart hh)) = some (.empty (way t.mask hh K) none) := by
        have e2 : way t.mask hh K = (L2.nth t.mask (L2.nth t.mask p0 c) (K - c)).j := by
          rw [wy, show c + (K - c) = K from by omega]
        rw [hst, e2]
        exact hpr
      rw [hpr']
      dsimp only
      refine wpAny_pure (hout fun hm => ?_)
      obtain ⟨q0, h0, hk0⟩ := List.mem_map.mp hm
      obtain ⟨i0, hi0, e0⟩ := List.getElem_of_mem h0
      have h00 : L[i0]? = some q0 := by rw [List.getElem?_eq_getElem hi0, e0]
      obtain ⟨c', a1, a2, a3⟩ := hre i0 q0 h00 hk0
      exact notPassed (K - c) hno i0 q0 h00 hk0 c' a1 (by omega) a3
theorem searchN_at (R : SetN P w s.heap a L es ep t) {x : Addr} {k : List L2.Key} (hx : IsK P w s.heap k x) (hu : A.units < cLine) {Q : SetFound → Shared → Prop}
    (hin : k ∈ L.map (·.2) → Q (.there none) s)
    (hout : ∀ K, k ∉ L.map (·.2) → way t.mask (khash P w k) K ∉ t.place.toList → (∀ c, c < K → way t.mask (khash P w k) c ∈ t.place.toList) → Q (.free (way t.mask (khash P w k) K) false) s) :
    wpAny (model P w) A (setSearch a (.ref x) (khash P w k) true) Q E s := by
  have hroom := R.room
  obtain ⟨K, hKf, hK, hKb⟩ := R.tab.first (by rw [List.length_map]; omega) (khash P w k)
  have hbig : K < 100000 := by
    have h1 : 10 * SetTable.turns t.mask ≤ 10000 := by
      have := R.tab.mok.le
      unfold SetTable.turns
      omega
    omega
  unfold setSearch
  refine searchN R hx hu rfl hKf hK hKb hin (fun hn => hout K hn hK hKb) 100000 0 none rfl (Nat.zero_le _) (by omega) fun i p hp hk => ?_
  have hi : (L.map fun p => khash P w p.2)[i]? = some (khash P w k) := by rw [List.getElem?_map, hp, ← hk]; rfl
  have hil : i < t.place.toList.length := by
    rw [Array.length_toList, R.psz]
    exact (List.getElem?_eq_some_iff.mp hp).1
  have hj := List.getElem?_eq_getElem hil
  obtain ⟨c, hc, e⟩ := R.tab.before hK hi hj
  exact ⟨c, Nat.zero_le _, hc, by rw [hj, e]⟩
/-! ### adding -/
theorem isK_same {h h' : Heap} {k : List L2.Key} {a b : Addr} {o : Obj} {es : Array (Int × Value)} {ep : Nat} {t : SetTable} (hb : IsK P w h k b) (ho : h.get? a = some o) (hd : o.data = .set es ep t) (hs : Heap.SameBut a h h') : IsK P w h' k b := by
  obtain ⟨o', items, n, ho', hc, hd', hi⟩ := hb
  have hne : b ≠ a := fun z => by
    rw [z, ho] at ho'
    cases ho'
    rw [hd] at hd'
    cases hd'
  exact ⟨o', items, n, (hs.2 b hne).trans ho', hc, hd', hi⟩
theorem isK_keep {h h' : Heap} {k : List L2.Key} {b : Addr} (x : IsK P w h k b) (hk : ∀ c o, h.get? c = some o → h'.get? c = some o) : IsK P w h' k b := by
  obtain ⟨o, items, n, ho, r⟩ := x
  exact ⟨o, items, n, hk b o ho, r⟩
theorem range_get {α : Type} (L : List α) : (List.range L.length).filterMap (fun i => L[i]?) = L := by
  have key : ∀ n, n ≤ L.length → (List.range n).filterMap (fun i => L[i]?) = L.take n := fun n => by
    induction n with
    | zero => intro _; rfl
    | succ n ih =>
      intro hn
      have hlt : n < L.length := hn
      rw [List.range_succ, List.filterMap_append, ih (Nat.le_of_lt hlt), List.take_succ, List.getElem?_eq_getElem hlt, List.filterMap_cons_some (List.getElem?_eq_getElem hlt)]
      rfl
  rw [key L.length (Nat.le_refl _), List.take_length]
theorem rows_order (order : Array Nat) (hr : es.toList = rowsKN P w L) (hp : order.toList.Perm (List.range L.length)) :
    ∃ L2, (order.filterMap (es[·]?)).toList = rowsKN P w L2 ∧ L2.Perm L ∧ (L2.map fun p => khash P w p.2) = order.toList.map fun i => (es.map (·.1)).getD i 0 := by
  have ent : ∀ i (h : i < L.length), es[i]? = some (khash P w (L[i]).2, Value.ref (L[i]).1) := fun i h => by
    rw [← Array.getElem?_toList, hr, rowsKN, List.getElem?_map, List.getElem?_eq_getElem h]
    rfl
  have key : ∀ l : List Nat, (∀ i ∈ l, i < L.length) → l.filterMap (fun i => es[i]?) = rowsKN P w (l.filterMap fun i => L[i]?) ∧ ((l.filterMap fun i => L[i]?).map fun p => khash P w p.2) = l.map fun i => (es.map (·.1)).getD i 0 := fun l => by
    induction l with
    | nil => intro _; exact ⟨rfl, rfl⟩
    | cons i l ih =>
      intro hl
      have hi := hl i List.mem_cons_self
      obtain ⟨e1, e2⟩ := ih fun j hj => hl j (List.mem_cons_of_mem _ hj)
      rw [List.filterMap_cons_some (ent i hi), List.filterMap_cons_some (List.getElem?_eq_getElem hi), e1, List.map_cons, List.map_cons, e2]
      refine ⟨rfl, ?_⟩
      have e5 : (es.map (·.1))[i]? = some (khash P w (L[i]).2) := by rw [Array.getElem?_map, ent i hi]; rfl
      rw [show (es.map (·.1)).getD i 0 = khash P w (L[i]).2 from by simp [Array.getD_eq_getD_getElem?, e5]]
  obtain ⟨e1, e2⟩ := key order.toList fun i hi => List.mem_range.mp (hp.mem_iff.mp hi)
  refine ⟨_, by first | (rw [Array.toList_filterMap]; exact e1) | simpa using e1, ?_, e2⟩
  have h1 := hp.filterMap (fun i => L[i]?)
  rwa [range_get] at h1
theorem relayN {o : Obj} (ho : s.heap.get? a = some o) (hex : o.ExactSet) (hd : o.data = .set es ep t) (hrows : es.toList = rowsKN P w L) (hsz : t.place.size = es.size) (hdm : t.dummies = #[]) (hfl : es.size ≤ t.mask)
    (nd : (L.map (·.2)).Nodup) (tup : ∀ p ∈ L, IsK P w s.heap p.2 p.1) (ld : w.params.followText "set-order" = true ∨ t.led = true) {wanted M : Nat}
    (hw : SetTable.sizeAbove wanted - 1 = M) (hM : Msk M) (hw2 : SetTable.sizeAbove wanted ≤ 512) (hn : L.length * 5 < M * 3) {Q : Unit → Shared → Prop}
    (hQ : ∀ h' L' es' ep' t', Heap.SameBut a s.heap h' → SetN P w h' a L' es' ep' t' → L'.Perm L → Q () { s with heap := h' }) : wpAny (model P w) A (setRelay a wanted) Q E s := by
  have hsl := rows_len hrows
  have hM5 := hM.le
  obtain ⟨t', order, e, hp, T, em, el, ed⟩ := relaidN t (hs := es.map (·.1)) (wanted := wanted) hw hM (by rw [Array.size_map, hsl]; omega)
  rw [Array.size_map, hsl] at hp
  obtain ⟨L2, r1, r2, r3⟩ := rows_order order hrows hp
  rw [← r3] at T
  have hs2 : (order.filterMap (es[·]?)).size = es.size := by rw [rows_len r1, r2.length_eq, hsl]
  rw [setRelay_eq]
  refine wpAny_bind (wpAny_setState_of ho hd (fits_of hsz hdm hfl) ?_)
  dsimp only
  refine wp_if_neg (by rw [sizeLine_eq]; omega) ?_
  try refine wpAny_bind (wpAny_pure ?_)
  rw [e]
  dsimp only
  refine wpAny_bind ?_
  refine wp_if_neg (by rw [hs2]; simp) ?_
  try refine wpAny_bind (wpAny_pure ?_)
  refine wpAny_pure ?_
  dsimp only
  refine wpAny_storeSet_of ho hd ?_ (by rw [hs2, hsl, sizeLine_eq]; omega)
  have sb : Heap.SameBut a s.heap (s.heap.update a (Obj.putSet (order.filterMap (es[·]?)) t')) := Heap.SameBut.update ..
  exact hQ _ L2 (order.filterMap (es[·]?)) (ep + 1) t' sb ⟨⟨_, store_at ho hd, ⟨hex.1, hex.2.1, hex.2.2⟩, rfl⟩, r1, T, (r2.map (·.2)).nodup_iff.mpr nd, fun p hpm => isK_same (tup p (r2.mem_iff.mp hpm)) ho hd sb, by rw [el]; exact ld, by rw [r2.length_eq, em]; exact hn⟩ r2
theorem byValue_or {α : Type} {k : List L2.Key} {x : Addr} {c : Bool} {κ : Bool → Sem α} {Q : α → Shared → Prop} (hx : IsK P w s.heap k x) (h : ∀ r, wpAny (model P w) A (κ r) Q E s) : wpAny (model P w) A (if c = true then hashByValue 8 (.ref x) >>= κ else pure true >>= κ) Q E s := by
  by_cases hc : c = true
  · exact wp_if_pos hc (wpAny_bind (hash_flat hx h))
  · exact wp_if_neg hc (wpAny_bind (wpAny_pure (h true)))
/-- adding -/
theorem addN (R : SetN P w s.heap a L es ep t) {x : Addr} {k : List L2.Key} (hx : IsK P w s.heap k x) (hu : A.units < cLine) (hfew : L.length < 300) {Q : Bool → Shared → Prop}
    (hQ : ∀ b h' L' es' ep' t', Heap.SameBut a s.heap h' → SetN P w h' a L' es' ep' t' → (k ∈ L.map (·.2) → L' = L) → (k ∉ L.map (·.2) → L'.Perm ((x, k) :: L)) → Q b { s with heap := h' }) :
    wpAny (model P w) A (setAddHashed a (.ref x) (khash P w k)) Q E s := by
  obtain ⟨o, ho, hex, hd⟩ := R.ob
  have hsl := rows_len R.rows
  have hroom := R.room
  unfold setAddHashed
  refine wpAny_holding ?_
  rw [show (100000 : Nat) = 99999 + 1 from rfl, setAddHashedIn_succ]
  refine wpAny_bind (wpAny_setState_of ho hd R.fits ?_)
  dsimp only
  refine wp_if_neg (by simp [byScan, Value.scannable]) ?_
  try refine wpAny_bind (wpAny_pure ?_)
  refine wpAny_bind (searchN_at R hx hu (fun hm => ?_) fun K hm hK hb => ?_)
  · dsimp only
    exact wpAny_pure (hQ false s.heap L es ep t (Heap.SameBut.refl a s.heap) R (fun _ => rfl) fun z => absurd hm z)
  · dsimp only
    refine wpAny_bind (wpAny_setState_of ho hd R.fits ?_)
    dsimp only
    obtain ⟨p, q1, q2, q3, q4, q5, q9⟩ := R.tab.put hK hb
    rw [List.length_map] at q2 q9
    rw [q1]
    generalize (t.put (way t.mask (khash P w k) K)).1 = t1 at q3 q4 q5 q9
    dsimp only
    refine byValue_or hx fun r => ?_
    obtain ⟨t2, e2, T2, m2, l2, f2⟩ : ∃ t2, (if r = true then t1 else { t1 with plain := false }) = t2 ∧ TabN t2 ((L.map fun p => khash P w p.2).take p ++ khash P w k :: (L.map fun p => khash P w p.2).drop p) ∧ t2.mask = t.mask ∧ t2.led = t.led ∧ t2.fill = L.length + 1 := by
      cases r
      · exact ⟨_, rfl, q3.plain false, q4, q5, q9⟩
      · exact ⟨_, rfl, q3, q4, q5, q9⟩
    rw [e2]
    have hin : (SetTable.insertAt es p (khash P w k, Value.ref x)).toList = rowsKN P w (L.take p ++ (x, k) :: L.drop p) := by
      rw [SetTable.toList_insertAt, R.rows]
      unfold rowsKN
      rw [List.map_append, List.map_cons, List.map_take, List.map_drop]
    have pm := put_perm L p (x, k)
    have hhs : (L.take p ++ (x, k) :: L.drop p).map (fun p => khash P w p.2) = (L.map fun p => khash P w p.2).take p ++ khash P w k :: (L.map fun p => khash P w p.2).drop p := by
      rw [List.map_append, List.map_cons, List.map_take, List.map_drop]
    rw [← hhs] at T2
    have nd1 : ((L.take p ++ (x, k) :: L.drop p).map (·.2)).Nodup := by
      refine (pm.map (·.2)).nodup_iff.mpr ?_
      rw [List.map_cons]
      exact List.nodup_cons.mpr ⟨hm, R.nd⟩
    have hlen : (L.take p ++ (x, k) :: L.drop p).length = L.length + 1 := pm.length_eq
    generalize SetTable.insertAt es p (khash P w k, Value.ref x) = es1 at hin ⊢
    generalize L.take p ++ (x, k) :: L.drop p = L1 at pm hlen T2 nd1 hin
    have hes : es1.size = L.length + 1 := by rw [rows_len hin, hlen]
    refine wpAny_bind (wpAny_storeSet_of ho hd ?_ (by rw [hes, sizeLine_eq]; omega))
    have sb : Heap.SameBut a s.heap (s.heap.update a (Obj.putSet es1 t2)) := Heap.SameBut.update ..
    have ho1 := store_at (es' := es1) (t' := t2) ho hd
    generalize s.heap.update a (Obj.putSet es1 t2) = h1 at sb ho1 ⊢
    have tup1 : ∀ p ∈ L1, IsK P w h1 p.2 p.1 := fun p hp => by
      rcases List.mem_cons.mp (pm.mem_iff.mp hp) with e | hp
      · rw [e]; exact isK_same hx ho hd sb
      · exact isK_same (R.tup p hp) ho hd sb
    have ld1 : w.params.followText "set-order" = true ∨ t2.led = true := by rw [l2]; exact R.led
    have full : t2.tooFull = decide ((L.length + 1) * 5 ≥ t.mask * 3) := by unfold SetTable.tooFull; rw [f2, m2]
    by_cases hf : (L.length + 1) * 5 ≥ t.mask * 3
    · rw [decide_eq_true hf] at full
      first
        | (refine wpAny_bind ?_; refine wp_if_pos (by simp [full]) ?_)
        | (refine wp_if_pos (by simp [full]) ?_; refine wpAny_bind ?_)
      rw [hsl]
      have hsz1 : t2.place.size = es1.size := by rw [T2.sz, List.length_map, hlen, hes]
      have go : ∀ M, SetTable.sizeAbove (SetTable.grown (L.length + 1)) = M + 1 → Msk M → M ≤ 511 → (L.length + 1) * 5 < M * 3 →
          wpAny (model P w) A (setRelay a (SetTable.grown (L.length + 1))) (fun _ s' => wpAny (model P w) A (pure true) Q E s') E { s with heap := h1 } := fun M h1' h2' h3' h4' => by
        refine relayN (s := { s with heap := h1 }) ho1 ⟨hex.1, hex.2.1, hex.2.2⟩ rfl hin hsz1 T2.dm (by rw [hes, m2]; omega) nd1 tup1 ld1 (by rw [h1']; rfl) h2' (by rw [h1']; omega) (by rw [hlen]; exact h4') fun h2 L2 es2 ep2 t3 sb2 R2 pm2 => ?_
        exact wpAny_pure (hQ true h2 L2 es2 ep2 t3 (sb.trans sb2) R2 (fun z => absurd z hm) fun _ => pm2.trans pm)
      rcases R.tab.mok with (e | e | e) | e
      · rw [e] at hf hroom
        have e4 : L.length = 4 := by omega
        exact go 31 (by rw [e4, size_20]) (.inl (.inr (.inl rfl))) (by decide) (by omega)
      · rw [e] at hf hroom
        have e4 : L.length = 18 := by omega
        exact go 127 (by rw [e4, size_76]) (.inl (.inr (.inr rfl))) (by decide) (by omega)
      · rw [e] at hf hroom
        have e4 : L.length = 76 := by omega
        exact go 511 (by rw [e4, size_308]) (.inr rfl) (by decide) (by omega)
      · rw [e] at hf
        omega
    · rw [decide_eq_false hf] at full
      first
        | refine wp_if_neg (by simp [full]) ?_
        | (refine wpAny_bind ?_; refine wp_if_neg (by simp [full]) ?_; refine wpAny_pure ?_)
      exact wpAny_pure (hQ true h1 L1 es1 (ep + 1) t2 sb ⟨⟨_, ho1, ⟨hex.1, hex.2.1, hex.2.2⟩, rfl⟩, hin, T2, nd1, tup1, ld1, by rw [hlen, m2]; omega⟩ (fun z => absurd z hm) fun _ => pm)
end
end Fb

/-! len(set(xs)), xs a list of tuples of texts. -/
namespace Fb
open PySem PySem.Spec PyProof.Rows L2
/-- what the set has got from the first i items -/
structure GotN (ks : KL) (i : Nat) (L : KL) : Prop where
  sub : ∀ p ∈ L, p ∈ ks.take i
  all : ∀ p ∈ ks.take i, p.2 ∈ L.map (·.2)
  len : L.length ≤ i
theorem GotN.zero (ks : KL) : GotN ks 0 [] := ⟨(fun p h => nomatch h), (fun p h => by simp at h), Nat.le_refl _⟩
theorem GotN.same {ks L : KL} {i : Nat} {x : Addr × List L2.Key} (g : GotN ks i L) (h : ks[i]? = some x) (hm : x.2 ∈ L.map (·.2)) : GotN ks (i + 1) L := by
  have e := take_next h
  refine ⟨fun p hp => by rw [e]; exact List.mem_append_left _ (g.sub p hp), fun p hp => ?_, Nat.le_succ_of_le g.len⟩
  rw [e] at hp
  rcases List.mem_append.mp hp with z | z
  · exact g.all p z
  · rw [List.mem_singleton.mp z]; exact hm
theorem GotN.more {ks L L' : KL} {i : Nat} {x : Addr × List L2.Key} (g : GotN ks i L) (h : ks[i]? = some x) (pm : L'.Perm (x :: L)) : GotN ks (i + 1) L' := by
  have e := take_next h
  refine ⟨fun p hp => ?_, fun p hp => ?_, by rw [pm.length_eq, List.length_cons]; exact Nat.succ_le_succ g.len⟩
  · rw [e]
    rcases List.mem_cons.mp (pm.mem_iff.mp hp) with z | z
    · rw [z]; exact List.mem_append_right _ (List.mem_singleton.mpr rfl)
    · exact List.mem_append_left _ (g.sub p z)
  · rw [(pm.map (·.2)).mem_iff, List.map_cons]
    rw [e] at hp
    rcases List.mem_append.mp hp with z | z
    · exact List.mem_cons_of_mem _ (g.all p z)
    · rw [List.mem_singleton.mp z]; exact List.mem_cons_self
section
variable {P : Program} {w : World} {A : Around} {E : Value → Shared → Prop} {s : Shared}
theorem SetN.keep {h h' : Heap} {a : Addr} {L : KL} {es : Array (Int × Value)} {ep : Nat} {t : SetTable} (R : SetN P w h a L es ep t) (ha : ∀ o, h.get? a = some o → h'.get? a = some o) (ht : ∀ p ∈ L, IsK P w h' p.2 p.1) : SetN P w h' a L es ep t := by
  obtain ⟨o, ho, r⟩ := R.ob
  exact ⟨⟨o, ha o ho, r⟩, R.rows, R.tab, R.nd, ht, R.led, R.room⟩
theorem setN_fresh {h : Heap} {a : Addr} (ho : h.get? a = some (emptyO w)) : SetN P w h a [] #[] 0 (.fresh 0 0 (!w.params.followText "set-order")) where
  ob := ⟨_, ho, ⟨rfl, rfl, rfl⟩, rfl⟩
  rows := rfl
  tab := ⟨List.Pairwise.nil, rfl, rfl, .inl (.inl rfl), (fun x hx => nomatch hx), fun i h j hi => by simp at hi⟩
  nd := List.nodup_nil
  tup := fun p hp => nomatch hp
  led := by
    show _ ∨ (!w.params.followText "set-order") = true
    cases w.params.followText "set-order"
    · exact .inr rfl
    · exact .inl rfl
  room := by
    show 0 * 5 < 7 * 3
    decide
/-- the items of a walk go into the set -/
theorem fillN {I : Addr} {fp wr : List Addr} {G : Array GenState → Array GenState → Prop} {n : Nat} {Pv : Nat → Value → Prop} {St : Nat → Shared → Prop} {R : Result → Shared → Prop}
    (W : WalksS P w A.in1 I fp wr G n Pv St) (a : Addr) (haf : a ∉ fp) (ks : KL) (hn : n = ks.length) (few : ks.length ≤ 300) (hval : ∀ i v, Pv i v → ∃ p, ks[i]? = some p ∧ v = .ref p.1)
    (h0 : Heap) (hk : ∀ p ∈ ks, IsK P w h0 p.2 p.1) (ha0 : h0.get? a = none) (hw0 : ∀ b ∈ wr, h0.get? b = none) (hu : A.in1.units < cLine) (k : Nat) :
    ∀ (i : Nat) (s : Shared), i + k = n → St i s → (∀ b o, h0.get? b = some o → s.heap.get? b = some o) → (∃ L es ep t, SetN P w s.heap a L es ep t ∧ GotN ks i L) →
      (∀ s' L es ep t, Moved (a :: wr) G s s' → SetN P w s'.heap a L es ep t → GotN ks n L → (∀ b o, h0.get? b = some o → s'.heap.get? b = some o) → R (.ok (.ret .none)) s') →
      codeAny (model P w) A (.builtin "set.update.loop" ⟨[.ref a, .ref I], []⟩) R s := by
  have haw : a ∉ wr := fun h => haf (W.sub _ h)
  have up : ∀ {s s' : Shared}, Moved wr G s s' → (∀ b o, h0.get? b = some o → s.heap.get? b = some o) → ∀ b o, h0.get? b = some o → s'.heap.get? b = some o := fun hm hkp b o e =>
    hm.heap b o (fun hb => by rw [hw0 b hb] at e; cases e) (hkp b o e)
  have ofL : ∀ {i : Nat} {L : KL}, GotN ks i L → ∀ p ∈ L, p ∈ ks := fun g p hp => List.mem_of_mem_take (g.sub p hp)
  induction k with
  | zero =>
    rintro i s rfl hst hkp ⟨L, es, ep, t, hS, g⟩ hR
    refine codeAny_builtin F.entry_set_update_loop ?_
    rw [Around.under_plainId F.plain_set_update_loop _]
    show wpAny _ A.in1 (pyNext (.ref I) >>= _) _ _ s
    refine wpAny_bind (W.done s _ _ hst fun s' hm => ?_)
    show wpAny _ A.in1 (ret Value.none) _ _ s'
    exact wpAny_pure (hR s' L es ep t (hm.mono fun b hb => List.mem_cons_of_mem _ hb) (hS.keep (fun o e => hm.heap a o haw e) fun p hp => isK_keep (hk p (ofL g p hp)) (up hm hkp)) g (up hm hkp))
  | succ k ih =>
    rintro i s hik hst hkp ⟨L, es, ep, t, hS, g⟩ hR
    refine codeAny_builtin F.entry_set_update_loop ?_
    rw [Around.under_plainId F.plain_set_update_loop _]
    show wpAny _ A.in1 (pyNext (.ref I) >>= _) _ _ s
    refine wpAny_bind (W.item i s _ _ (by omega) hst fun v s1 hP hst1 hm => ?_)
    obtain ⟨p, hp, rfl⟩ := hval i v hP
    have kp1 := up hm hkp
    have hS1 : SetN P w s1.heap a L es ep t := hS.keep (fun o e => hm.heap a o haw e) fun q hq => isK_keep (hk q (ofL g q hq)) kp1
    have hx : IsK P w s1.heap p.2 p.1 := isK_keep (hk p (List.mem_of_getElem? hp)) kp1
    show wpAny _ A.in1 (holding [Value.ref p.1] (setAdd a (.ref p.1)) >>= _) _ _ s1
    refine wpAny_bind (wpAny_holding ?_)
    unfold setAdd
    refine wpAny_holding (wpAny_bind (wpAny_pyHash_tuple hu hx ?_))
    refine addN (s := { s1 with toks := s1.toks + (p.2.length + 1) }) hS1 hx hu (by have := g.len; omega) fun b h2 L2 es2 ep2 t2 sb hS2 c1 c2 => ?_
    have other : ∀ c, c ≠ a → h2.get? c = s1.heap.get? c := fun c hc => sb.2 c hc
    have kp2 : ∀ b o, h0.get? b = some o → h2.get? b = some o := fun b o e => (other b fun z => by rw [z, ha0] at e; cases e).trans (kp1 b o e)
    refine wpAny_pure ⟨plainId_quiet F.plain_set_update_loop _, ih (i + 1) _ (by omega) (W.frame _ s1 _ _ hst1 (Nat.le_add_right _ _) fun b hb o e => (other b fun z => haf (by rw [← z]; exact hb)).trans e) kp2 ⟨L2, es2, ep2, t2, hS2, ?_⟩
      fun s3 L3 es3 ep3 t3 hm3 hS3 g3 kp3 => hR s3 L3 es3 ep3 t3 (Moved.trans W.gtrans ((hm.mono fun b hb => List.mem_cons_of_mem _ hb).then_heap (Nat.le_add_right _ _) fun b o hb e => (other b fun z => hb (by rw [z]; exact List.mem_cons_self)).trans e) hm3) hS3 g3 kp3⟩
    rcases Classical.em (p.2 ∈ L.map (·.2)) with c | c
    · rw [c1 c]; exact g.same hp c
    · exact g.more hp (c2 c)
/-- set(xs) of a list -/
theorem call_setN {l : Addr} {items : Array Value} (ks : KL) {Q : Value → Shared → Prop} (hh : A.handled = none) (hl : s.heap.IsList l items) (hit : items.toList = ks.map fun p => Value.ref p.1)
    (hk : ∀ p ∈ ks, IsK P w s.heap p.2 p.1) (few : ks.length ≤ 300) (hu : A.units + 3 < cLine)
    (h : ∀ (h' : Heap) (tk : Nat) L es ep t, SetN P w h' s.heap.objs.size L es ep t → GotN ks ks.length L → (∀ b o, s.heap.get? b = some o → h'.get? b = some o) → Q (.ref s.heap.objs.size) { s with heap := h', toks := tk }) :
    wpAny (model P w) A (call (.type "set") [.ref l]) Q E s := by
  have hz : items.size = ks.length := by
    have q := congrArg List.length hit
    rw [Array.length_toList, List.length_map] at q
    exact q
  have hval : ∀ (i : Nat) (v : Value), items[i]? = some v → ∃ p, ks[i]? = some p ∧ v = .ref p.1 := fun i v hv => by
    rw [← Array.getElem?_toList, hit, List.getElem?_map] at hv
    cases hq : ks[i]? with
    | none => rw [hq] at hv; cases hv
    | some p =>
      rw [hq] at hv
      exact ⟨p, rfl, (Option.some.inj hv).symm⟩
  have gone : ∀ b, s.heap.objs.size ≤ b → s.heap.get? b = none := fun b hb => by
    cases q : s.heap.get? b with
    | none => rfl
    | some o => exact absurd (Heap.lt_size q) (Nat.not_lt_of_le hb)
  have hlS : l < s.heap.objs.size := by
    obtain ⟨_, ho, _⟩ := hl
    exact Heap.lt_size ho
  obtain ⟨c, tl, hmro⟩ := F.called_set.mro
  have hmade := F.called_set.made
  have hsub := F.called_set.sub
  refine wpAny_call (codeAny_of_tree ?_)
  show wpAny _ _ (callAny (.type "set") _) _ _ _
  refine wpAny_pure ⟨Code.quiet_builtin _ (by decide +kernel), codeAny_builtin F.entry_type_call ?_⟩
  rw [Around.under_plain (weight_type_call_type "set" [.ref l] []) rfl]
  have h1 := F.called_set.notType
  have h2 := F.called_set.canCreate
  have hct := F.typeCall_set_1 (.ref l)
  repeat (any_goals (first | assumption | wp_step))
  refine codeAny_mono (code_set_led1 (.ref l) (E := E) (Q₁ := fun obj s₁ => obj = .ref s.heap.objs.size ∧ s₁ = { s with heap := s.heap.push (emptyO w) }) ⟨rfl, rfl⟩) fun r s₁ hr => ?_
  match r, hr with
  | .error _, hr => exact hr
  | .ok (.ret obj), hr =>
    obtain ⟨rfl, rfl⟩ := hr
    have hS : (s.heap.push (emptyO w)).get? s.heap.objs.size = some (emptyO w) := Heap.get?_push_size _ rfl
    have hT : Shared.TypeIs { s with heap := s.heap.push (emptyO w) } (.ref s.heap.objs.size) "set" := ⟨_, hS, rfl⟩
    have hli := F.called_set.init.lookup
    have hbi := F.called_set.init.bind (.ref s.heap.objs.size)
    have hz1 : (s.heap.push (emptyO w)).objs.size = s.heap.objs.size + 1 := Heap.size_push ..
    repeat (any_goals (first | assumption | wp_step))
    refine codeAny_mono (codeAny_call_builtin (R := wants (fun r s₂ => r = .none ∧ ∃ h' tk L es ep t, s₂ = { s with heap := h', toks := tk } ∧ SetN P w h' s.heap.objs.size L es ep t ∧ GotN ks ks.length L ∧
        (∀ b o, s.heap.get? b = some o → h'.get? b = some o)) E) F.called_set.init.plain F.entry_set_init (check_set_init_1 hT ?_)) fun r₂ s₂ hr₂ => ?_
    · have hh3 : A.in1.in1.in1.handled = none := by simp [hh]
      have hl1 : (s.heap.push (emptyO w)).IsList l items := hl.push _
      obtain ⟨⟨ocls, odict, odata, oslots⟩, hol, hcl, nl, hdl⟩ := hl
      simp only at hcl hdl
      subst hcl; subst hdl
      have hol' : (s.heap.push (emptyO w)).get? l = some { cls := .type "list", dict := odict, data := .seq items nl, slots := oslots } := Heap.get?_push_of_some _ hol
      have hsls := F.sub_list_set
      have hslf := F.sub_list_frozenset
      have hne : (Value.type "list" == Value.type "dict") = false := by decide
      unfold Builtin.«set.__init__» noKeywords Builtin.Frozenset.updateFrom
      generalize hPI : pyIter = PI
      wp_walk
      subst hPI
      refine wpAny_pyIter_list hl1 ?_
      refine wpAny_bind (wpAny_runValue ?_)
      have hneI : l ≠ (s.heap.push (emptyO w)).objs.size := by rw [hz1]; exact Nat.ne_of_lt (Nat.lt_succ_of_lt hlS)
      refine fillN (Walks.list hh3 (s.heap.push (emptyO w)).objs.size l hneI items (prog := P) (w := w)).toS s.heap.objs.size (by
          rw [hz1]
          simp only [List.mem_cons, List.not_mem_nil, or_false, not_or]; exact ⟨Nat.ne_of_lt (Nat.lt_succ_self _), Nat.ne_of_gt hlS⟩) ks hz few hval s.heap hk (gone _ (Nat.le_refl _)) (fun b hb => gone b (by
          have : b = (s.heap.push (emptyO w)).objs.size := List.mem_singleton.mp hb
          rw [this, hz1]; exact Nat.le_succ _)) hu items.size 0 _ (Nat.zero_add _) ⟨⟨_, Heap.get?_push_size _ rfl, rfl, rfl⟩, hl1.push _⟩ (fun b o e => Heap.get?_push_of_some _ (Heap.get?_push_of_some _ e))
        ⟨[], #[], 0, _, setN_fresh (Heap.get?_push_of_some _ hS), GotN.zero ks⟩ fun s' L es ep t hm hS' g' hkp => ?_
      obtain ⟨h', g2, d', tk', os'⟩ := s'
      have eg : g2 = s.gens := hm.gens
      have ed : d' = s.drawn := hm.drawn
      have eo : os' = s.os := hm.os
      subst eg; subst ed; subst eo
      show wpAny _ _ _ _ _ _
      refine wpAny_pure ?_
      show wpAny _ _ (ret Value.none) _ _ _
      rw [hz] at g'
      exact wpAny_pure ⟨rfl, h', tk', L, es, ep, t, rfl, hS', g', hkp⟩
    · match r₂, hr₂ with
      | .error _, hr₂ => exact hr₂
      | .ok (.ret r), hr₂ =>
        obtain ⟨rfl, h', tk, L, es, ep, t, rfl, hS', g', hk'⟩ := hr₂
        repeat (any_goals (first | assumption | wp_step))
        exact h _ _ _ _ _ _ hS' g' hk'
end
/-! ### as the texts read it -/
def tLenSetN (K : PySem.W.Frag) (ta : TA) : TE := fun σ H Q => ta σ H fun vs H1 => ∃ (l : Addr) (ks : KL), vs = [V.ref l] ∧ SqL K H1 l (ks.map fun p => V.ref p.1) ∧ (∀ p ∈ ks, H1 p.1 = some (.tup (p.2.map kV))) ∧ ks.length ≤ 300 ∧
  ∀ L : List (List L2.Key), L.Nodup → (∀ k, k ∈ L ↔ k ∈ ks.map (·.2)) → Q (.int (L.length : Nat)) H1
theorem vals_refs : ∀ {ks : KL} {us : List Value}, Vals (ks.map fun p => V.ref p.1) us → us = ks.map fun p => Value.ref p.1
  | [], _, .nil => rfl
  | p :: ks, _, .cons r t => by
    rw [vals_refs t, List.map_cons, show _ = Value.ref p.1 from r]
section
variable {X : Cx}
theorem pe_lenSetN {a : Expr} {ta : TA} {p p2 q pos : Pos} (hc : X.calm = true) (hu : X.A.units + 64 < cLine) (hg : Gl X "len") (hm : X.mg "len" = none) (hg2 : Gl X "set") (hm2 : X.mg "set" = none) (ha : PA X [a] ta)
    (na : starEach [a] X.env = (false, eval a X.env) :: starEach [] X.env := by rfl) (nb : starEach [.Call (.Name "set" p2) [a] [] q] X.env = (false, eval (.Call (.Name "set" p2) [a] [] q) X.env) :: starEach [] X.env := by rfl) :
    PE X (.Call (.Name "len" p) [.Call (.Name "set" p2) [a] [] q] [] pos) (tLenSetN X.K ta) := by
  have v1 : bootBuiltins "len" = some (.builtin "len") := by decide +kernel
  have v2 : bootBuiltins "set" = some (.type "set") := by decide +kernel
  refine ⟨fun pins s σ H Q I h => ?_⟩
  refine wpAny_Call_Name_kw (ld_blt I hg hm v1 ?_)
  refine PyProof.Rows.callWith_builtin1 (PyProof.Rows.args_cons ?_ nb) nb rfl
  refine wpAny_Call_Name_kw (ld_blt I hg2 hm2 v2 ?_)
  refine PyProof.Rows.callWith_type1 (thn (ha.run q pins s σ H _ I h) fun us s1 ⟨vs, H1, I1, r1, l, ks, ev, hl, hx, few, q1⟩ => ?_) na rfl
  subst ev
  rw [Vals.ref1 r1]
  obtain ⟨its, rv, pl, _⟩ := I1.list hl
  refine call_setN (P := X.prog) (w := X.w) ks (I1.ok.hd hc) pl.isList (by rw [vals_refs rv]) (fun p hp => key_of I1.hok (hx p hp)) few (by omega) fun h' tk L es ep t R g k => ?_
  refine PyProof.Rows.args_nil ?_
  obtain ⟨o, ho, hex, hd⟩ := R.ob
  have hz := rows_len R.rows
  have hle := g.len
  have I2 : Inv X pins σ H1 { s1 with heap := h', toks := tk } := I1.kept fun b o e => k b o e
  have hmem : ∀ k, k ∈ L.map (·.2) ↔ k ∈ ks.map (·.2) := fun k => by
    constructor
    · intro hk
      obtain ⟨p, hp, e⟩ := List.mem_map.mp hk
      exact List.mem_map.mpr ⟨p, List.mem_of_mem_take (g.sub p hp), e⟩
    · intro hk
      obtain ⟨p, hp, e⟩ := List.mem_map.mp hk
      rw [← e]
      exact g.all p (by rw [List.take_length]; exact hp)
  have q2 := q1 (L.map (·.2)) R.nd hmem
  rw [List.length_map] at q2
  refine call_len_set ho hex hd (SetN.fits (s := { s1 with heap := h', toks := tk }) R) (by rw [hz]; omega) ⟨.int (L.length : Nat), H1, I2.tok _, ⟨_, by rw [hz]⟩, q2⟩
end
/-! ### by data -/
theorem mapOk {α β : Type} {f : α → β} {l m : List α} (hf : ∀ a b, f a = f b → a = b) (hm : l.Nodup) : (l.map f).Nodup := by
  refine List.pairwise_map.mpr (List.Pairwise.imp (fun hne e => hne (hf _ _ e)) hm)
def keyB (b : Bd) : List L2.Key := b.map fun r => Sum.inr (tx r)
theorem keyB_inj : ∀ {b c : Bd}, keyB b = keyB c → b = c
  | [], [], _ => rfl
  | [], _ :: _, h => by cases h
  | _ :: _, [], h => by cases h
  | r :: b, u :: c, h => by
    have h' : (Sum.inr (tx r) : L2.Key) :: keyB b = Sum.inr (tx u) :: keyB c := h
    obtain ⟨h1, h2⟩ := List.cons.inj h'
    rw [tx_inj (Sum.inr.inj h1), keyB_inj h2]
theorem isB_key {G : Hp} {v : V} {b : Bd} (h : Is G v (dB b)) : ∃ a, v = .ref a ∧ G a = some (.tup ((keyB b).map kV)) := by
  have rows : ∀ {vs : List V} {b : Bd}, IsAll G vs (b.map dR) → vs = (keyB b).map kV := fun {vs b} => by
    induction b generalizing vs with
    | nil => intro h; cases h; rfl
    | cons r b ih =>
      intro h
      cases h with
      | cons h1 h2 =>
        cases h1
        rw [ih h2]
        rfl
  unfold dB at h
  cases h with
  | tup e is => exact ⟨_, rfl, by rw [e, rows is]⟩
theorem isBs_keys {G : Hp} : ∀ {vs : List V} {l : List Bd}, IsAll G vs (l.map dB) → ∃ ks : KL, vs = ks.map (fun p => V.ref p.1) ∧ (∀ p ∈ ks, G p.1 = some (.tup (p.2.map kV))) ∧ ks.map (·.2) = l.map keyB
  | _, [], h => by cases h; exact ⟨[], rfl, (fun p hp => nomatch hp), rfl⟩
  | _, b :: l, h => by
    cases h with
    | cons h1 h2 =>
      obtain ⟨a, rfl, ea⟩ := isB_key h1
      obtain ⟨ks, e1, e2, e3⟩ := isBs_keys h2
      refine ⟨(a, keyB b) :: ks, by rw [e1]; rfl, fun p hp => ?_, by rw [List.map_cons, e3]; rfl⟩
      rcases List.mem_cons.mp hp with z | z
      · rw [z]; exact ea
      · exact e2 p z
/-- how many differ -/
def distinct (l : List Bd) : Nat := l.eraseDups.length
theorem len_unique {α : Type} [DecidableEq α] {L M : List α} (h1 : L.Nodup) (h2 : M.Nodup) (h : ∀ a, a ∈ L ↔ a ∈ M) : L.length = M.length :=
  ((List.perm_ext_iff_of_nodup h1 h2).mpr h).length_eq
section
variable {c : Cfg} {ρ ρ1 : Env} {te : TE}
theorem ev_lenSetN {l M : List Bd} (h : EvX c te ρ ρ1 (.list (l.map dB))) (hl : l.length ≤ 300) (hM : M.Nodup) (hm : ∀ b, b ∈ M ↔ b ∈ l) : EvX c (tLenSetN c.K (tCons te tNil)) ρ ρ1 (.int (M.length : Nat)) := fun σ G H s Q q =>
  h σ G H s _ fun v G1 H1 g1 s1 i1 => by
    cases i1 with
    | lst e is =>
      obtain ⟨ks, e1, e2, e3⟩ := isBs_keys is
      refine ⟨_, ks, rfl, .of (by rw [← e1]; exact s1.gh _ _ e), fun p hp => s1.gh _ _ (e2 p hp), ?_, fun L hL hLm => ?_⟩
      · have e4 := congrArg List.length e3
        rw [List.length_map, List.length_map] at e4
        omega
      · have e5 : L.length = (M.map keyB).length := len_unique hL (mapOk (m := M) (fun _ _ => keyB_inj) hM) fun k => by
          rw [hLm, e3, List.mem_map, List.mem_map]
          exact ⟨fun ⟨b, hb, e⟩ => ⟨b, (hm b).mpr hb, e⟩, fun ⟨b, hb, e⟩ => ⟨b, (hm b).mp hb, e⟩⟩
        rw [e5, List.length_map]
        exact q _ G1 H1 g1 s1 (.int _)
end
end Fb

/-! Law k08: orphans. -/
namespace Fb
open PySem PySem.Spec PyProof.Rows L2
/-! ### how many have no forerunner -/
def madeB (b : Bd) : List Bd := (allB b).map tick
def orph (b : Bd) : List Bd := (allB b).filter fun o => !decide (o ∈ madeB b)
def kids (b : Bd) : List Bd := (allB b).filter fun o => decide (o ∈ madeB b)
/-- without the sorting -/
def rawB (b : Bd) : List Bd := (subs (free b)).map (drawn b)
def orphR (b : Bd) : Nat := ((rawB b).filter fun o => !decide (o ∈ (rawB b).map tick)).length
theorem part_len {α : Type} (p : α → Bool) : ∀ l : List α, (l.filter p).length + (l.filter fun a => !p a).length = l.length
  | [] => rfl
  | a :: l => by
    have h := part_len p l
    rw [List.filter_cons, List.filter_cons, List.length_cons]
    cases p a <;> simp <;> omega
section
variable {b : Bd}
theorem orph_len (b : Bd) : (kids b).length + (orph b).length = (allB b).length := part_len (fun o => decide (o ∈ madeB b)) (allB b)
theorem kids_mem (W : Wf b) {o : Bd} : o ∈ kids b ↔ o ∈ madeB b := by
  unfold kids
  rw [List.mem_filter, decide_eq_true_eq]
  refine ⟨fun h => h.2, fun h => ⟨?_, h⟩⟩
  obtain ⟨u, hu, rfl⟩ := List.mem_map.mp h
  obtain ⟨Wu, e⟩ := (mem_allB W).mp hu
  exact (mem_allB W).mpr ⟨Wu.tick, (bare_tick Wu).trans e⟩
theorem kids_nodup (W : Wf b) : (kids b).Nodup := (nodup_allB W).sublist List.filter_sublist
theorem orph_mem (W : Wf b) {o : Bd} : o ∈ orph b ↔ (Wf o ∧ bareB o = bareB b) ∧ ∀ u, Wf u → bareB u = bareB b → tick u ≠ o := by
  unfold orph
  rw [List.mem_filter, mem_allB W, Bool.not_eq_true', decide_eq_false_iff_not]
  refine ⟨fun ⟨h1, h2⟩ => ⟨h1, fun u Wu e z => h2 (List.mem_map.mpr ⟨u, (mem_allB W).mpr ⟨Wu, e⟩, z⟩)⟩, fun ⟨h1, h2⟩ => ⟨h1, fun h => ?_⟩⟩
  obtain ⟨u, hu, z⟩ := List.mem_map.mp h
  obtain ⟨Wu, e⟩ := (mem_allB W).mp hu
  exact h2 u Wu e z
theorem orph_raw (b : Bd) : (orph b).length = orphR b := by
  unfold orph orphR
  have p := allB_perm b
  have e : ∀ o, (!decide (o ∈ madeB b)) = (!decide (o ∈ (rawB b).map tick)) := fun o => by
    congr 1
    exact decide_eq_decide.mpr (p.map tick).mem_iff
  rw [(List.filter_congr fun o _ => e o), (p.filter _).length_eq]
  rfl
theorem allB_256 (h : (free b).length ≤ 8) : (allB b).length ≤ 256 := by
  have hs := subs_len (free b).length (free b) (Nat.le_refl _)
  rw [List.take_length] at hs
  rw [(allB_perm b).length_eq, List.length_map, hs]
  exact Nat.pow_le_pow_right (n := 2) (by decide) h
/-- orphans of boards moved -/
theorem orph_move {f : Bd → Bd} (hw : ∀ o, Wf o → Wf (f o)) (hf : ∀ o, Wf o → f (f o) = o) (ht : ∀ o, Wf o → tick (f o) = f (tick o)) (hs : ∀ o u, Wf o → Wf u → bareB o = bareB u → bareB (f o) = bareB (f u)) (W : Wf b) : (orph (f b)).length = (orph b).length := by
  have Wf' := hw b W
  have back : ∀ {c : Bd}, Wf c → ∀ o, o ∈ orph c → f o ∈ orph (f c) := fun {c} Wc o ho => by
    obtain ⟨⟨Wo, e⟩, h⟩ := (orph_mem Wc).mp ho
    refine (orph_mem (hw c Wc)).mpr ⟨⟨hw o Wo, hs o c Wo Wc e⟩, fun u Wu eu z => ?_⟩
    refine h (f u) (hw u Wu) ?_ ?_
    · have := hs u (f c) Wu (hw c Wc) eu
      rwa [hf c Wc] at this
    · rw [ht u Wu, z, hf o Wo]
  have nd : ((orph b).map f).Nodup := by
    refine List.pairwise_map.mpr (List.Pairwise.imp_of_mem (fun {o u} ho hu hne e => hne ?_) ((nodup_allB W).sublist List.filter_sublist))
    have Wo := ((orph_mem W).mp ho).1.1
    have Wu := ((orph_mem W).mp hu).1.1
    rw [← hf o Wo, e, hf u Wu]
  have e := len_unique (L := (orph b).map f) (M := orph (f b)) nd ((nodup_allB Wf').sublist List.filter_sublist) fun o => by
    rw [List.mem_map]
    constructor
    · rintro ⟨u, hu, rfl⟩
      exact back W u hu
    · intro ho
      have Wo := ((orph_mem Wf').mp ho).1.1
      have h2 := back Wf' o ho
      rw [hf b W] at h2
      exact ⟨f o, h2, hf o Wo⟩
  rw [← e, List.length_map]
theorem bare_turnd (W : Wf b) : bareB (turnd b) = turnd (bareB b) := by
  unfold turnd
  rw [W.wid_bare]
  unfold bareB
  rw [List.map_map]
  refine List.map_congr_left fun c hc => ?_
  rw [List.mem_range] at hc
  show bareR (b.map fun r => r.getD c 0) = (b.map bareR).map fun r => r.getD c 0
  unfold bareR
  rw [List.map_map, List.map_map]
  refine List.map_congr_left fun r hr => ?_
  have hl := (W.rows r hr).1
  show (if r.getD c 0 = 35 then 46 else r.getD c 0) = (r.map fun k => if k = 35 then 46 else k).getD c 0
  rw [List.getD_eq_getElem?_getD, List.getD_eq_getElem?_getD, List.getElem?_map, List.getElem?_eq_getElem (by omega)]
  rfl
theorem orph_exch (W : Wf b) : (orph (exch b)).length = (orph b).length := orph_move (fun _ W => W.exch) (fun _ W => exch_exch W) (fun _ W => tick_exch W) (fun _ _ W W' e => bare_exch W W' e) W
theorem orph_turnd (W : Wf b) : (orph (turnd b)).length = (orph b).length := orph_move (fun _ W => W.turnd) (fun _ W => turnd_turnd W) (fun _ W => tick_turnd W) (fun _ _ W W' e => by rw [bare_turnd W, bare_turnd W', e]) W
theorem orph_shape {o : Bd} (W : Wf b) (h : o ∈ allB b) : (orph o).length = (orph b).length ∧ allB o = allB b := by
  obtain ⟨Wo, e⟩ := (mem_allB W).mp h
  have e1 := allB_shape Wo W e
  refine ⟨?_, e1⟩
  unfold orph madeB
  rw [e1]
theorem forer_nil {o : Bd} (W : Wf b) (h : o ∈ allB b) : forer o = [] ↔ o ∉ madeB b := by
  have e1 := (orph_shape W h).2
  unfold forer madeB
  rw [e1, List.filter_eq_nil_iff, List.mem_map]
  constructor
  · rintro h ⟨u, hu, z⟩
    exact h u hu (decide_eq_true z)
  · intro h u hu z
    exact h ⟨u, hu, of_decide_eq_true z⟩
theorem self_mem (W : Wf b) : b ∈ allB b := (mem_allB W).mpr ⟨W, rfl⟩
end
def P_count_orphans (K : PySem.W.Frag) (ds : List D) (r : Rz) : Prop := AsksF K ds r fun b d => (free b).length ≤ 8 ∧ d = .int ((orph b).length : Nat)
abbrev N_count_orphans : List Str := ["board", "some", "one"]
def t_count_orphans (K : PySem.W.Frag) (w : World) (E : XK) : TS := (tSeq (tDrop (tCall (spF (P_need_few K)) [] E (tCons (tVar 0) tNil)))
 (tSeq (tAsg (tCall (spF (P_all_boards K)) [] E (tCons (tVar 0) tNil)) (gName 1))
 (tRet (tOp (rI0 fun i j => .int (i - j)) (tCB (rLen K) (tCons (tVar 1) tNil)) (tLenSetN K (tCons (tLc (iAny K (tVar 1)) (gName 2) tYes (tCall (spF (P_ticked K)) [] E0 (tCons (tVar 2) tNil)) [2]) tNil))))))

abbrev N_law08 : List Str := ["_law_script", "_law_dice", "_law_board", "_law_some", "_law_made", "_law_many", "_law_one"]
def t_law08 (K : PySem.W.Frag) (w : World) (T : List (Addr × Str)) (E : XK) : TS := (tSeq (tFor (iAny K (tCall (spRounds K) [] E (tCons (tVar 0) (tCons (tC (.int 2)) tNil)))) (gName 1) (tSeq (tAsg (tCall (spDice P_any) [] E (tCons (tVar 1) (tCons (tC (.int 8)) tNil))) (gName 2))
 (tSeq (tAsg (tCall (spF (P__law_all K)) [] E (tCons (tVar 2) tNil)) (gName 3))
 (tSeq (tAsg (tLc (iAny K (tVar 3)) (gName 6) tYes (tCall (spF (P__law_ticked K)) [] E0 (tCons (tVar 6) tNil)) [6]) (gName 4))
 (tSeq (tAsg (tCB (rLen K) (tCons (tLc (iAny K (tVar 3)) (gName 6) (tTest (tOp (rNinU K) (tVar 6) (tVar 4))) (tVar 6) [6]) tNil)) (gName 5))
 (tSeq (tIfS (tOr (tTest (tOp (rNeD K) (tCall (spF (P_count_orphans K)) [] E (tCons (tVar 2) tNil)) (tVar 5))) (tTest (tOp (rNeD K) (tCall (spF (P_count_orphans K)) [] E (tCons (tCall (spF (P_exchanged K)) [] E (tCons (tVar 2) tNil)) tNil)) (tVar 5)))) (tRet (tC (.bl false))) tNext)
 (tSeq (tIfS (tTest (tOp (rNeD K) (tCall (spF (P_count_orphans K)) [] E (tCons (tCall (spF (P_turned K)) [] E (tCons (tVar 2) tNil)) tNil)) (tVar 5))) (tRet (tC (.bl false))) tNext)
 (tSeq (tAsg (tOp (rIx K) (tVar 3) (tCall (spDice P_roll) [] E (tCons (tVar 1) (tCons (tCB (rLen K) (tCons (tVar 3) tNil)) tNil)))) (gName 6))
 (tSeq (tIfS (tOr (tTest (tOp (rNeD K) (tCall (spF (P_count_orphans K)) [] E (tCons (tVar 6) tNil)) (tVar 5))) (tTest (tOp (rNeD K) (tOp (rEqD K) (tCall (spF (P_forerunners K)) [] E (tCons (tVar 6) tNil)) (tTup tNil)) (tOp (rNinU K) (tVar 6) (tVar 4))))) (tRet (tC (.bl false))) tNext)
 (tSeq (tIfS (tTest (tOp (rNeD K) (tOp (rEqD K) (tVar 5) (tC (.int 0))) (tOp (rEqD K) (tLenSetN K (tCons (tVar 4) tNil)) (tCB (rLen K) (tCons (tVar 3) tNil))))) (tRet (tC (.bl false))) tNext)
 (tSeq (tIfS (tOr (tTest (tOp (rNeD K) (tCall (spF (P_count_orphans K)) [] E (tCons (tTup (tCons (tC (.str "#")) tNil)) tNil)) (tC (.int 0)))) (tTest (tOp (rNeD K) (tCall (spF (P_count_orphans K)) [] E (tCons (tTup (tCons (tC (.str "#.#")) tNil)) tNil)) (tC (.int 4))))) (tRet (tC (.bl false))) tNext)
 (tIfS (tTest (tOp (rNeD K) (tTold K T fun E => (tCall (spF (P_count_orphans K)) [] E (tCons (tOp (rMulU K) (tTup (tCons (tC (.str "....")) tNil)) (tC (.int 3))) tNil))) (tTup (tCons (tC (.str "error")) (tCons (tC (.str "TooLarge")) tNil))))) (tRet (tC (.bl false))) tNext))))))))))))
 (tRet (tC (.bl true))))

section
variable {K : PySem.W.Frag} {w : World} {vs : List V} {H : Hp} {Q : VK} {E : XK} {T : List (Addr × Str)} {c : Cfg} {ρ ρ1 : Env} {te tr : TE} {b : Bd}
theorem len_count_orphans (h : spF (P_count_orphans K) vs H Q E) : vs.length = 1 := spF_len (fun ds r p => by obtain ⟨_, e, _⟩ := p; rw [e]; rfl) h
theorem ok_bds (W : Wf b) : Ev (Ev okR) (allB b) := fun o ho => (allB_wf W ho).2.2.ok
theorem ok_made (W : Wf b) : Ev (Ev okR) (madeB b) := fun o ho => by
  obtain ⟨u, hu, rfl⟩ := List.mem_map.mp ho
  exact (allB_wf W hu).2.2.tick.ok
theorem ev_lenSetM (W : Wf b) (h8 : (free b).length ≤ 8) (h : EvX c te ρ ρ1 (.list ((madeB b).map dB))) : EvX c (tLenSetN c.K (tCons te tNil)) ρ ρ1 (.int ((kids b).length : Nat)) :=
  ev_lenSetN h (by unfold madeB; rw [List.length_map]; have := allB_256 h8; omega) (kids_nodup W) (fun o => kids_mem W)
theorem body_count_orphans (h : spF (P_count_orphans K) vs H Q E) : t_count_orphans K w E { nx := fun _ H' => Q .non H', rt := Q } (L2.start N_count_orphans vs) H :=
  pure_of (t := t_count_orphans K w) (P := P_count_orphans K) (asksF_of (N := N_count_orphans) (u := fun E => _) fun E b d W h9 hz => by
    obtain ⟨h8, rfl⟩ := hz
    have hl := allB_256 h8
    refine ⟨_, exs_seq (exs_set (c := ⟨K, [], [], E⟩) (ρ := env0 N_count_orphans [dB b]) (ev_allB W (ev_var rfl)) (OwnSub.refl _)) (exs_ret (ev_is (ev_op (cl_len (ev_var rfl) (n := (allB b).length) (by show some (List.length _) = _; rw [List.length_map]) (by omega))
      (ev_lenSetM (c := ⟨K, [], [], E⟩) W h8 (ev_is (ev_lcA (c := ⟨K, [], [], E⟩) (allB b) dB (fun o => dB (tick o)) (fun o ρ => ρ.set 2 (.dat (dB o))) [2] (ui_list (ev_var rfl)) (by omega) rfl (fun _ _ => tg_name) (fun _ h => h) (fun o ho => ev_call (P := P_ticked K) (ea_cons (ev_var rfl) ea_nil) ⟨o, rfl, (allB_wf W ho).2.2, rfl⟩)) (by unfold madeB; rw [List.map_map]; rfl))) ux_sub) ?_) (OwnSub.refl _))⟩
    have := orph_len b
    exact congrArg PyData.int (by omega)) h
theorem ev_orph (W : Wf b) (h8 : (free b).length ≤ 8) {E' : XK} (hb : EvX c te ρ ρ1 (dB b)) : EvX c (tCall (spF (P_count_orphans K)) [] E' (tCons te tNil)) ρ ρ1 (.int ((orph b).length : Nat)) := ev_askF (fun _ _ h => h) W (by omega) ⟨h8, rfl⟩ hb
theorem body_law08 (kB : TermOk K (He.ga K "InvalidBoard") "InvalidBoard") (kL : TermOk K (He.ga K "TooLarge") "TooLarge") (h : spLaw K T vs H Q E) : t_law08 K w T E { nx := fun _ H' => Q .non H', rt := Q } (L2.start N_law08 vs) H := by
  refine law_run (K := K) (T := T) (N := N_law08) (m := 2) (E := E) (by decide) (by decide) (fun s p a => ?_) h
  obtain ⟨b, d, W, h8, A⟩ := drop_anyB K T E (ρ := envL N_law08 s p a) (p := p) (s := (a, 0)) 8 2 (by decide) (by decide) rfl
  have f8 : (free b).length ≤ 8 := by have := free_len_le W; omega
  have hl := allB_256 f8
  have hpos : 0 < (allB b).length := List.length_pos_of_mem (self_mem W)
  have wf : ∀ {o : Bd}, o ∈ allB b → Wf o := fun h => ((mem_allB W).mp h).1
  have Wx := W.exch
  have Wt := W.turnd
  have fx : (free (exch b)).length ≤ 8 := by
    have := free_len_le Wx
    rw [hgt_exch, W.wid_exch] at this
    omega
  have ft : (free (turnd b)).length ≤ 8 := by
    have := free_len_le Wt
    rw [hgt_turnd, W.wid_turnd, Nat.mul_comm] at this
    omega
  have ol := orph_len b
  have rk := rollK_lt (m := ((allB b).length : Nat)) (by omega) d
  generalize hk : rollK ((allB b).length : Nat) d = k at rk
  have hkl : k < (allB b).length := by omega
  generalize ho : (allB b)[k] = o
  have hom : o ∈ allB b := by rw [← ho]; exact List.getElem_mem hkl
  have Wo := wf hom
  obtain ⟨so, ao⟩ := orph_shape W hom
  have fo : (free o).length ≤ 8 := by rw [bare_free Wo W ((mem_allB W).mp hom).2]; exact f8
  have W1 : Wf [[35]] := by decide
  have W2 : Wf [[35, 46, 35]] := by decide
  have W3 : Wf [[46, 46, 46, 46], [46, 46, 46, 46], [46, 46, 46, 46]] := by decide
  have o1 : (orph [[35]]).length = 0 := by rw [orph_raw]; decide +kernel
  have o2 : (orph [[35, 46, 35]]).length = 4 := by rw [orph_raw]; decide +kernel
  apply Exists.intro
  apply And.intro
  · refine exs_seq A ?_
    refine exs_seq (exs_set (c := ⟨K, T, [p], E⟩) (ev_lAll W (ev_var rfl)) (OwnSub.refl _)) ?_
    refine exs_seq (exs_set (c := ⟨K, T, [p], E⟩) (d := .list ((madeB b).map dB)) (ev_nB (ev_is (ev_lcA (c := ⟨K, T, [], E⟩) (allB b) dB (fun o => dB (tick o)) (fun o ρ => ρ.set 6 (.dat (dB o))) [6] (ui_list (ev_var rfl)) (by omega) rfl (fun _ _ => tg_name) (fun _ h => h) (fun o ho => ev_lTick (wf ho) (ev_var rfl))) (by unfold madeB; rw [List.map_map]; rfl))) (OwnSub.refl _)) ?_
    refine exs_seq (exs_set (c := ⟨K, T, [p], E⟩) (d := .int ((orph b).length : Nat)) (cl_len (ev_nB (ev_lcM (c := ⟨K, T, [], E⟩) (allB b) dB (fun o => !decide (o ∈ madeB b)) dB (fun o ρ => ρ.set 6 (.dat (dB o))) [6] (ui_list (ev_var rfl)) (by omega) rfl (fun _ _ => tg_name) (fun _ h => h)
      (fun o ho => et_test (ev_is (ev_op (ev_var rfl) (ev_var rfl) (gx_ninL good_bd (by decide) (wf ho).ok (ok_made W))) (congrArg PyData.bool (congrArg (! ·) (decide_eq_decide.mpr Iff.rfl))))) (fun o _ _ => ev_var rfl))) (by show some (List.length _) = _; rw [List.length_map]; rfl) (by omega)) (OwnSub.refl _)) ?_
    refine exs_seq (exs_skip (et_or2 (c := ⟨K, T, [p], E⟩) (et_neSame (n := (orph b).length) (m := (orph b).length) (ev_orph W f8 (ev_var rfl)) (ev_var rfl) rfl) (et_neSame (n := (orph (exch b)).length) (m := (orph b).length) (ev_orph Wx fx (ev_exch W (ev_var rfl))) (ev_var rfl) (orph_exch W))) (OwnSub.refl _)) ?_
    refine exs_seq (exs_skip (et_neSame (c := ⟨K, T, [p], E⟩) (n := (orph (turnd b)).length) (m := (orph b).length) (ev_orph Wt ft (ev_turned W (ev_var rfl))) (ev_var rfl) (orph_turnd W)) (OwnSub.refl _)) ?_
    refine exs_seq (exs_set (c := ⟨K, T, [p], E⟩) (d := dB o) (ev_op (ev_var rfl) (ev_rollD (c := ⟨K, T, [p], E⟩) (i := 1) (s := d) (m := ((allB b).length : Nat)) rfl rfl (cl_len (ev_var rfl) (n := (allB b).length) (by show some (List.length _) = _; rw [List.length_map]) (by omega)) (by omega) (by omega)) (ux_ixL (atI_nat (by
      rw [hk, List.getElem?_map, List.getElem?_eq_getElem hkl, ho]; rfl)))) osO) ?_
    refine exs_seq (exs_skip (et_or2 (c := ⟨K, T, [p], E⟩) (et_neSame (n := (orph o).length) (m := (orph b).length) (ev_orph Wo fo (ev_var rfl)) (ev_var rfl) so)
      (et_neBool (s := decide (forer o = [])) (u := !decide (o ∈ madeB b)) (ev_op (ev_forer Wo (by omega) (ev_var rfl)) (ev_tp ea_nil) (gx_eq good_bds (by decide) (a := forer o) (b := []) (ok_all Wo) (fun _ h => nomatch h)))
        (ev_is (ev_op (ev_var rfl) (ev_var rfl) (gx_ninL good_bd (by decide) Wo.ok (ok_made W))) (congrArg PyData.bool (congrArg (! ·) (decide_eq_decide.mpr Iff.rfl)))) (by
          rw [← decide_not]
          exact decide_eq_decide.mpr (forer_nil W hom)))) (OwnSub.refl _)) ?_
    refine exs_seq (exs_skip (et_neBool (c := ⟨K, T, [p], E⟩) (s := decide (((orph b).length : Int) = (0 : Int))) (u := decide (((kids b).length : Int) = ((allB b).length : Int))) (ev_op (ev_var rfl) ev_int gx_eqI) (ev_op (ev_lenSetM W f8 (ev_var rfl)) (cl_len (ev_var rfl) (n := (allB b).length) (by show some (List.length _) = _; rw [List.length_map]) (by omega)) gx_eqI)
      (decide_eq_decide.mpr (by omega))) (OwnSub.refl _)) ?_
    refine exs_seq (exs_skip (et_or2 (c := ⟨K, T, [p], E⟩) (et_neSame (n := (orph [[35]]).length) (m := 0) (ev_orph W1 (by decide) (ev_tup1 (by decide +kernel))) (ev_is ev_int rfl) o1) (et_neSame (n := (orph [[35, 46, 35]]).length) (m := 4) (ev_orph W2 (by decide) (ev_tup1 (by decide +kernel))) (ev_is ev_int rfl) o2)) (OwnSub.refl _)) ?_
    exact exs_toldE (c := ⟨K, T, [p], E⟩) kL (by decide +kernel) (fun E' => ee_large (c := ⟨K, T, [], E'⟩) (P := P_count_orphans K) (fun _ _ h => h) W3 (by decide) (ev_is (ev_op (ev_tup1 (l := [46, 46, 46, 46]) (by decide +kernel)) ev_int (ux_mulT (by decide) (by decide) (by simp))) rfl))
  · rfl
end
end Fb

namespace Fb
open PySem PySem.Spec PyProof.Rows L2
abbrev N_law : List Str := N_law08
abbrev t_law := t_law08
theorem body_law {K : PySem.W.Frag} {w : World} {vs : List V} {H : Hp} {Q : VK} {E : XK} {T : List (Addr × Str)} (k0 : TermOk K (He.ga K "InvalidBoard") "InvalidBoard") (k1 : TermOk K (He.ga K "TooLarge") "TooLarge") (h : spLaw K T vs H Q E) : t_law K w T E { nx := fun _ H' => Q .non H', rt := Q } (L2.start N_law vs) H := body_law08 k0 k1 h
theorem unR {k : Nat} {A : Around} (h : Room k A) : A.units + 65 < cLine := by have := h.un; omega
theorem unS {k : Nat} {A : Around} (h : Room k A) : A.units + 64 < cLine := by have := h.un; omega
theorem unD {k : Nat} {A : Around} (h : Room k A) : A.units + 1 < cLine := by have := h.un; omega
theorem unH {k : Nat} {A : Around} (h : L2H.RoomH k A) : A.units + 64 < cLine := by have := h.un; omega
namespace Lw
def top (i : Nat) : Stmt := PySem.Challenge.pw_frostboard_k08_whole_orphans.main.body.getD i (.Pass ⟨0, 0, 0, 0⟩)
structure Txt (K : PySem.W.Frag) (w : World) (mg : Str → Option Value) : Prop where
  b_ValueError : mg "ValueError" = none
  b_abs : mg "abs" = none
  b_all : mg "all" = none
  b_enumerate : mg "enumerate" = none
  b_int : mg "int" = none
  b_isinstance : mg "isinstance" = none
  b_len : mg "len" = none
  b_max : mg "max" = none
  b_min : mg "min" = none
  b_range : mg "range" = none
  b_set : mg "set" = none
  b_sorted : mg "sorted" = none
  b_str : mg "str" = none
  b_sum : mg "sum" = none
  b_tuple : mg "tuple" = none
  g_OTHER : mg "OTHER" = some (.ref (He.ga K "OTHER"))
  oth : OtherOk K w
  x_InvalidBoard : mg "InvalidBoard" = some (.ref (He.ga K "InvalidBoard")) ∧ PySem.W.excIn K (He.ga K "InvalidBoard") He.veBase "ValueError.__new__" = true ∧ PySem.W.keepIn K (.ref (He.ga K "InvalidBoard")) = true ∧ PySem.W.subIn K (.ref (He.ga K "InvalidBoard")) (.type "BaseException") = some true ∧ PySem.W.typeIn K (.ref (He.ga K "InvalidBoard")) = some (.type "type")
  x_TooLarge : mg "TooLarge" = some (.ref (He.ga K "TooLarge")) ∧ PySem.W.excIn K (He.ga K "TooLarge") He.veBase "ValueError.__new__" = true ∧ PySem.W.keepIn K (.ref (He.ga K "TooLarge")) = true ∧ PySem.W.subIn K (.ref (He.ga K "TooLarge")) (.type "BaseException") = some true ∧ PySem.W.typeIn K (.ref (He.ga K "TooLarge")) = some (.type "type")
  c_FrostError : mg "FrostError" = some (.ref (He.ga K "FrostError"))
  c_InvalidBoard : mg "InvalidBoard" = some (.ref (He.ga K "InvalidBoard"))
  c_InvalidCell : mg "InvalidCell" = some (.ref (He.ga K "InvalidCell"))
  c_InvalidCells : mg "InvalidCells" = some (.ref (He.ga K "InvalidCells"))
  c_InvalidText : mg "InvalidText" = some (.ref (He.ga K "InvalidText"))
  c_InvalidTicks : mg "InvalidTicks" = some (.ref (He.ga K "InvalidTicks"))
  c_NothingToUndo : mg "NothingToUndo" = some (.ref (He.ga K "NothingToUndo"))
  c_TooLarge : mg "TooLarge" = some (.ref (He.ga K "TooLarge"))
  c_Unlike : mg "Unlike" = some (.ref (He.ga K "Unlike"))
  k_InvalidBoard : TermOk K (He.ga K "InvalidBoard") "InvalidBoard"
  k_TooLarge : TermOk K (He.ga K "TooLarge") "TooLarge"
section
variable {P : Program} {w : World} {K : PySem.W.Frag} {mg : Str → Option Value} {base : Heap}
abbrev NN__law_cell : List Str := ["_law_script", "_law_k"]
theorem sc__law_cell : FnScope NN__law_cell ["_law_script", "_law_k"] (defScope (top 31)) := ⟨rfl, rfl, rfl, by decide +kernel, rfl, by decide +kernel, by decide +kernel⟩
theorem ok__law_cell {f : Addr} {fd : FuncData} (F : FnP K "_law_cell" (top 31) f fd) (T : Txt K w mg)  : FnOk P w K mg base (L2N.CX P w) 1 f fd ["_law_script", "_law_k"] (spCellS K) := by
  refine F.ok sc__law_cell (fun vs H Q E h => len__law_cell h) (fun cdv A outer s H vs Q E hr h => ⟨t__law_cell K w E, ?_, body__law_cell h⟩)
  have nd := sc__law_cell.nd
  exact (pss_cons (ps_if (pt_cmpR (op_eqU hr) (pv 0) (pe_lst pa_nil) (nomark _)) (pss_one (ps_ret (pe_op op_mulU (pv 1) pe_int))) pss_nil)
 (pss_one (ps_ret (pe_op op_addU (pe_ix ix_seq (pv 0) (pe_op op_mod (pv 1) (pe_callB call_len (by rfl) T.b_len (by decide +kernel) (pa_cons (pv 0) pa_nil))) (fun _ _ => rfl)) (pe_op op_mulU (pe_op op_fdivW (pv 1) (pe_callB call_len (by rfl) T.b_len (by decide +kernel) (pa_cons (pv 0) pa_nil))) pe_int)))))
abbrev NN__law_rounds : List Str := ["_law_script", "_law_most", "_law_k"]
theorem sc__law_rounds : FnScope NN__law_rounds ["_law_script", "_law_most"] (defScope (top 34)) := ⟨rfl, rfl, rfl, by decide +kernel, rfl, by decide +kernel, by decide +kernel⟩
theorem ok__law_rounds {f : Addr} {fd : FuncData} (F : FnP K "_law_rounds" (top 34) f fd) (T : Txt K w mg) (H__law_cell : Has P w K mg base "_law_cell" ["_law_script", "_law_k"] 1 (spCellS K)) : FnOk P w K mg base (L2N.CX P w) 2 f fd ["_law_script", "_law_most"] (spRounds K) := by
  refine F.ok sc__law_rounds (fun vs H Q E h => len__law_rounds h) (fun cdv A outer s H vs Q E hr h => ⟨t__law_rounds K w E, ?_, body__law_rounds h⟩)
  have nd := sc__law_rounds.nd
  exact (pss_one (ps_ret (pe_lc (own := [("_law_k", 2)]) (g := (gName 2)) (tt := tYes) rfl nd (pi_range1 rfl T.b_range (pa_cons (pe_callB (call_max2 rfl) (by rfl) T.b_max (by decide +kernel) (pa_cons pe_int (pa_cons (pe_callB (call_min2 rfl) (by rfl) T.b_min (by decide +kernel) (pa_cons (pv 1) (pa_cons (pe_callB call_len (by rfl) T.b_len (by decide +kernel) (pa_cons (pv 0) pa_nil)) pa_nil))) pa_nil))) pa_nil)) (blkOk_by (own := [("_law_k", 2)]) (N := NN__law_rounds) (by kernel_rfl)) (fun _ _ _ _ _ => (pg_name (i := 2) nd rfl (by first | exact Or.inl rfl | exact Or.inr rfl))) (fun _ _ _ _ _ => pts_nil) (fun _ _ _ _ _ => (pe_lst (pa_cons (pe_callH H__law_cell (hr.mono (by omega)) passN (pa_cons (pv 0) (pa_cons (pv 2) pa_nil))) (pa_cons pe_int pa_nil)))))))
abbrev NN__law_drawn : List Str := ["_law_cell_here", "_law_k", "_law_more"]
theorem sc__law_drawn : FnScope NN__law_drawn ["_law_cell_here", "_law_k"] (defScope (top 32)) := ⟨rfl, rfl, rfl, by decide +kernel, rfl, by decide +kernel, by decide +kernel⟩
theorem ok__law_drawn {f : Addr} {fd : FuncData} (F : FnP K "_law_drawn" (top 32) f fd) (T : Txt K w mg)  : FnOk P w K mg base (L2N.CX P w) 1 f fd ["_law_cell_here", "_law_k"] (spF (P__law_drawn K)) := by
  refine F.ok sc__law_drawn (fun vs H Q E h => len__law_drawn h) (fun cdv A outer s H vs Q E hr h => ⟨t__law_drawn K w E, ?_, body__law_drawn h⟩)
  have nd := sc__law_drawn.nd
  exact (pss_cons (ps_set (i := 2) nd rfl (by first | exact Or.inl rfl | exact Or.inr rfl) (pe_op op_mod (pe_op op_addU (pe_op op_mulU (pv 0) pe_int) (pe_op op_mulU (pe_op op_addU (pv 1) pe_int) pe_int)) pe_int))
 (pss_cons (ps_set (i := 2) nd rfl (by first | exact Or.inl rfl | exact Or.inr rfl) (pe_op op_mod (pe_op op_mulU (pv 2) (pv 2)) pe_int))
 (pss_cons (ps_set (i := 2) nd rfl (by first | exact Or.inl rfl | exact Or.inr rfl) (pe_op op_mulU (pe_op op_mulU (pe_op op_addU (pe_op op_mod (pv 2) pe_int) pe_int) (pe_op op_addU (pe_op op_fdivW (pv 2) pe_int) pe_int)) (pv 2)))
 (pss_one (ps_ret (pe_op op_mod (pv 2) pe_int))))))
abbrev NN__law_roll : List Str := ["_law_dice", "_law_many", "_law_told_here"]
theorem sc__law_roll : FnScope NN__law_roll ["_law_dice", "_law_many"] (defScope (top 33)) := ⟨rfl, rfl, rfl, by decide +kernel, rfl, by decide +kernel, by decide +kernel⟩
theorem ok__law_roll {f : Addr} {fd : FuncData} (F : FnP K "_law_roll" (top 33) f fd) (T : Txt K w mg) (H__law_drawn : Has P w K mg base "_law_drawn" ["_law_cell_here", "_law_k"] 1 (spF (P__law_drawn K))) : FnOk P w K mg base (L2N.CX P w) 2 f fd ["_law_dice", "_law_many"] (spDice P_roll) := by
  refine F.ok sc__law_roll (fun vs H Q E h => len__law_roll h) (fun cdv A outer s H vs Q E hr h => ⟨t__law_roll K w E, ?_, body__law_roll h⟩)
  have nd := sc__law_roll.nd
  exact (pss_cons (ps_if (pt_cmpR op_ge (pe_ix ix_seq (pv 0) pe_int (fun _ _ => rfl)) (pe_op op_pow pe_int pe_int) (nomark _)) (pss_cons (ps_set (i := 2) nd rfl (by first | exact Or.inl rfl | exact Or.inr rfl) (pe_op op_mod (pe_ix ix_seq (pv 0) pe_int (fun _ _ => rfl)) (pv 1)))
 (pss_cons (ps_asg (pe_op op_fdivW (pe_ix ix_seq (pv 0) pe_int (fun _ _ => rfl)) (pv 1)) (pg_sub (pv 0) pe_int set_list))
 (pss_one (ps_ret (pv 2))))) pss_nil)
 (pss_cons (ps_asg (pe_op op_addU (pe_ix ix_seq (pv 0) pe_int (fun _ _ => rfl)) pe_int) (pg_sub (pv 0) pe_int set_list))
 (pss_one (ps_ret (pe_op op_mod (pe_op op_fdivW (pe_callH H__law_drawn (hr.mono (by omega)) (L2N.passes_call (L2N.takes_of rfl rfl rfl rfl) fun _ _ _ _ z => z) (pa_cons (pe_ix ix_seq (pv 0) pe_int (fun _ _ => rfl)) (pa_cons (pe_ix ix_seq (pv 0) pe_int (fun _ _ => rfl)) pa_nil))) pe_int) (pv 1))))))
abbrev NN__law_any_board : List Str := ["_law_dice", "_law_most", "_law_signs", "_law_found", "_law_number", "_law_rows", "_law_columns", "_law_column"]
theorem sc__law_any_board : FnScope NN__law_any_board ["_law_dice", "_law_most"] (defScope (top 37)) := ⟨rfl, rfl, rfl, by decide +kernel, rfl, by decide +kernel, by decide +kernel⟩
theorem ok__law_any_board {f : Addr} {fd : FuncData} (F : FnP K "_law_any_board" (top 37) f fd) (T : Txt K w mg) (H__law_roll : Has P w K mg base "_law_roll" ["_law_dice", "_law_many"] 2 (spDice P_roll)) : FnOk P w K mg base (L2N.CX P w) 3 f fd ["_law_dice", "_law_most"] (spDice P_any) := by
  refine F.ok sc__law_any_board (fun vs H Q E h => len__law_any_board h) (fun cdv A outer s H vs Q E hr h => ⟨t__law_any_board K w E, ?_, body__law_any_board h⟩)
  have nd := sc__law_any_board.nd
  exact (pss_cons (ps_par (i := 5) (j := 6) rfl nd rfl rfl (by decide) rfl rfl (pa_cons (pe_op op_addU pe_int (pe_callH H__law_roll (hr.mono (by omega)) (L2N.passes_call (L2N.takes_of rfl rfl rfl rfl) fun _ _ _ _ z => z) (pa_cons (pv 0) (pa_cons pe_int pa_nil)))) (pa_cons (pe_op op_addU pe_int (pe_callH H__law_roll (hr.mono (by omega)) (L2N.passes_call (L2N.takes_of rfl rfl rfl rfl) fun _ _ _ _ z => z) (pa_cons (pv 0) (pa_cons pe_int pa_nil)))) pa_nil)) (by rfl))
 (pss_cons (ps_while (passes_of rfl) (pt_cmpR (op_gtU hr) (pe_op op_mulU (pv 5) (pv 6)) (pv 1) (nomark _)) (pss_one (ps_asg (pe_ifExp (pt_cmpR op_ge (pv 5) (pv 6) (nomark _)) (pe_tup (pa_cons (pe_op op_sub (pv 5) pe_int) (pa_cons (pv 6) pa_nil))) (pe_tup (pa_cons (pv 5) (pa_cons (pe_op op_sub (pv 6) pe_int) pa_nil)))) (pg_tup rfl (pgs_cons (pg_name (i := 5) nd rfl (by first | exact Or.inl rfl | exact Or.inr rfl)) (pgs_cons (pg_name (i := 6) nd rfl (by first | exact Or.inl rfl | exact Or.inr rfl)) pgs_nil))))))
 (pss_cons (ps_set (i := 2) nd rfl (by first | exact Or.inl rfl | exact Or.inr rfl) (pe_ix ix_seq (pe_lst (pa_cons pe_str (pa_cons pe_str (pa_cons pe_str (pa_cons pe_str (pa_cons pe_str pa_nil)))))) (pe_callH H__law_roll (hr.mono (by omega)) (L2N.passes_call (L2N.takes_of rfl rfl rfl rfl) fun _ _ _ _ z => z) (pa_cons (pv 0) (pa_cons pe_int pa_nil))) (fun _ _ => rfl)))
 (pss_cons (ps_set (i := 3) nd rfl (by first | exact Or.inl rfl | exact Or.inr rfl) (pe_lst pa_nil))
 (pss_cons (ps_for (passes_of rfl) rfl (pi_range1 rfl T.b_range (pa_cons (pv 5) pa_nil)) (pg_name (i := 4) nd rfl (by first | exact Or.inl rfl | exact Or.inr rfl)) (pss_one (ps_expr (pe_bm PySem.F.plainAttrs_list PySem.F.slot_list_append PySem.F.type_list_append mt_append (pv 3) (pa_cons (pe_join pe_str (pe_lc (own := [("_law_column", 7)]) (g := (gName 7)) (tt := tYes) rfl nd (pi_range1 rfl T.b_range (pa_cons (pv 6) pa_nil)) (blkOk_by (own := [("_law_column", 7)]) (N := NN__law_any_board) (by kernel_rfl)) (fun _ _ _ _ _ => (pg_name (i := 7) nd rfl (by first | exact Or.inl rfl | exact Or.inr rfl))) (fun _ _ _ _ _ => pts_nil) (fun _ _ _ _ _ => (pe_ix ix_seq (pv 2) (pe_callH H__law_roll (hr.mono (by omega)) passN (pa_cons (pv 0) (pa_cons (pe_callB call_len (by rfl) T.b_len (by decide +kernel) (pa_cons (pv 2) pa_nil)) pa_nil))) (fun _ _ => rfl))))) pa_nil)))))
 (pss_one (ps_ret (pe_callTy call_tuple_of (by rfl) T.b_tuple (by decide +kernel) (pa_cons (pv 3) pa_nil)))))))))
abbrev NN__law_free : List Str := ["_law_board", "_law_found", "_law_number", "_law_signs", "_law_column", "_law_sign"]
theorem sc__law_free : FnScope NN__law_free ["_law_board"] (defScope (top 38)) := ⟨rfl, rfl, rfl, by decide +kernel, rfl, by decide +kernel, by decide +kernel⟩
theorem ok__law_free {f : Addr} {fd : FuncData} (F : FnP K "_law_free" (top 38) f fd) (T : Txt K w mg)  : FnOk P w K mg base (L2N.CX P w) 1 f fd ["_law_board"] (spF (P__law_free K)) := by
  refine F.ok sc__law_free (fun vs H Q E h => len__law_free h) (fun cdv A outer s H vs Q E hr h => ⟨t__law_free K w E, ?_, body__law_free h⟩)
  have nd := sc__law_free.nd
  exact (pss_cons (ps_set (i := 1) nd rfl (by first | exact Or.inl rfl | exact Or.inr rfl) (pe_lst pa_nil))
 (pss_cons (ps_for (passes_of rfl) rfl (pi_enumU rfl T.b_enumerate (pa_cons (pv 0) pa_nil)) (pg_tup rfl (pgs_cons (pg_name (i := 2) nd rfl (by first | exact Or.inl rfl | exact Or.inr rfl)) (pgs_cons (pg_name (i := 3) nd rfl (by first | exact Or.inl rfl | exact Or.inr rfl)) pgs_nil))) (pss_one (ps_set (i := 1) nd rfl (by first | exact Or.inl rfl | exact Or.inr rfl) (pe_op op_addU (pv 1) (pe_lc (own := [("_law_column", 4), ("_law_sign", 5)]) (g := (gTup K 2 (gCons (gName 4) (gCons (gName 5) gNil)))) (tt := (tTest (tOp (rInU K) (tVar 5) (tC (.str "#."))))) rfl nd (pi_enumU rfl T.b_enumerate (pa_cons (pv 3) pa_nil)) (blkOk_by (own := [("_law_column", 4), ("_law_sign", 5)]) (N := NN__law_free) (by kernel_rfl)) (fun _ _ _ _ _ => (pg_tup rfl (pgs_cons (pg_name (i := 4) nd rfl (by first | exact Or.inl rfl | exact Or.inr rfl)) (pgs_cons (pg_name (i := 5) nd rfl (by first | exact Or.inl rfl | exact Or.inr rfl)) pgs_nil)))) (fun _ _ _ _ _ => (pts_one (pt_cmpR (op_inU hr) (pv 5) pe_str (by with_unfolding_all rfl)))) (fun _ _ _ _ _ => (pe_tup (pa_cons (pv 2) (pa_cons (pv 4) pa_nil)))))))))
 (pss_one (ps_ret (pv 1)))))
abbrev NN__law_laid : List Str := ["_law_board", "_law_some", "_law_found", "_law_number", "_law_signs", "_law_made", "_law_column", "_law_sign"]
theorem sc__law_laid : FnScope NN__law_laid ["_law_board", "_law_some"] (defScope (top 41)) := ⟨rfl, rfl, rfl, by decide +kernel, rfl, by decide +kernel, by decide +kernel⟩
theorem ok__law_laid {f : Addr} {fd : FuncData} (F : FnP K "_law_laid" (top 41) f fd) (T : Txt K w mg)  : FnOk P w K mg base (L2N.CX P w) 1 f fd ["_law_board", "_law_some"] (spF (P__law_laid K)) := by
  refine F.ok sc__law_laid (fun vs H Q E h => len__law_laid h) (fun cdv A outer s H vs Q E hr h => ⟨t__law_laid K w E, ?_, body__law_laid h⟩)
  have nd := sc__law_laid.nd
  exact (pss_cons (ps_set (i := 2) nd rfl (by first | exact Or.inl rfl | exact Or.inr rfl) (pe_lst pa_nil))
 (pss_cons (ps_for (passes_of rfl) rfl (pi_enumU rfl T.b_enumerate (pa_cons (pv 0) pa_nil)) (pg_tup rfl (pgs_cons (pg_name (i := 3) nd rfl (by first | exact Or.inl rfl | exact Or.inr rfl)) (pgs_cons (pg_name (i := 4) nd rfl (by first | exact Or.inl rfl | exact Or.inr rfl)) pgs_nil))) (pss_cons (ps_set (i := 5) nd rfl (by first | exact Or.inl rfl | exact Or.inr rfl) (pe_lst pa_nil))
 (pss_cons (ps_for (passes_of rfl) rfl (pi_enumU rfl T.b_enumerate (pa_cons (pv 4) pa_nil)) (pg_tup rfl (pgs_cons (pg_name (i := 6) nd rfl (by first | exact Or.inl rfl | exact Or.inr rfl)) (pgs_cons (pg_name (i := 7) nd rfl (by first | exact Or.inl rfl | exact Or.inr rfl)) pgs_nil))) (pss_one (ps_expr (pe_bm PySem.F.plainAttrs_list PySem.F.slot_list_append PySem.F.type_list_append mt_append (pv 5) (pa_cons (pe_ifExp (pt_cmpR (op_inU hr) (pv 7) pe_str (by with_unfolding_all rfl)) (pv 7) (pe_ifExp (pt_cmpR (op_inU hr) (pe_tup (pa_cons (pv 3) (pa_cons (pv 6) pa_nil))) (pv 1) (by with_unfolding_all rfl)) pe_str pe_str)) pa_nil)))))
 (pss_one (ps_expr (pe_bm PySem.F.plainAttrs_list PySem.F.slot_list_append PySem.F.type_list_append mt_append (pv 2) (pa_cons (pe_join pe_str (pv 5)) pa_nil)))))))
 (pss_one (ps_ret (pe_callTy call_tuple_of (by rfl) T.b_tuple (by decide +kernel) (pa_cons (pv 2) pa_nil))))))
abbrev NN__law_all : List Str := ["_law_board", "_law_found", "_law_cell_here", "_law_some"]
theorem sc__law_all : FnScope NN__law_all ["_law_board"] (defScope (top 43)) := ⟨rfl, rfl, rfl, by decide +kernel, rfl, by decide +kernel, by decide +kernel⟩
theorem ok__law_all {f : Addr} {fd : FuncData} (F : FnP K "_law_all" (top 43) f fd) (T : Txt K w mg) (H__law_free : Has P w K mg base "_law_free" ["_law_board"] 1 (spF (P__law_free K))) (H__law_laid : Has P w K mg base "_law_laid" ["_law_board", "_law_some"] 1 (spF (P__law_laid K))) : FnOk P w K mg base (L2N.CX P w) 2 f fd ["_law_board"] (spF (P__law_all K)) := by
  refine F.ok sc__law_all (fun vs H Q E h => len__law_all h) (fun cdv A outer s H vs Q E hr h => ⟨t__law_all K w E, ?_, body__law_all h⟩)
  have nd := sc__law_all.nd
  exact (pss_cons (ps_set (i := 1) nd rfl (by first | exact Or.inl rfl | exact Or.inr rfl) (pe_lst (pa_cons (pe_tup pa_nil) pa_nil)))
 (pss_cons (ps_for (passes_of rfl) rfl (pi_any (pe_callH H__law_free (hr.mono (by omega)) (L2N.passes_call (L2N.takes_of rfl rfl rfl rfl) fun _ _ _ _ z => z) (pa_cons (pv 0) pa_nil))) (pg_name (i := 2) nd rfl (by first | exact Or.inl rfl | exact Or.inr rfl)) (pss_one (ps_set (i := 1) nd rfl (by first | exact Or.inl rfl | exact Or.inr rfl) (pe_op op_addU (pv 1) (pe_lc (own := [("_law_some", 3)]) (g := (gName 3)) (tt := tYes) rfl nd (pi_any (pv 1)) (blkOk_by (own := [("_law_some", 3)]) (N := NN__law_all) (by kernel_rfl)) (fun _ _ _ _ _ => (pg_name (i := 3) nd rfl (by first | exact Or.inl rfl | exact Or.inr rfl))) (fun _ _ _ _ _ => pts_nil) (fun _ _ _ _ _ => (pe_op op_addU (pv 3) (pe_tup (pa_cons (pv 2) pa_nil)))))))))
 (pss_one (ps_ret (pe_callB (cr_sortedD (unS hr)) (by rfl) T.b_sorted (by decide +kernel) (pa_cons (pe_lc (own := [("_law_some", 3)]) (g := (gName 3)) (tt := tYes) rfl nd (pi_any (pv 1)) (blkOk_by (own := [("_law_some", 3)]) (N := NN__law_all) (by kernel_rfl)) (fun _ _ _ _ _ => (pg_name (i := 3) nd rfl (by first | exact Or.inl rfl | exact Or.inr rfl))) (fun _ _ _ _ _ => pts_nil) (fun _ _ _ _ _ => (pe_callH H__law_laid (hr.mono (by omega)) passN (pa_cons (pv 0) (pa_cons (pv 3) pa_nil))))) pa_nil))))))
abbrev NN__law_near : List Str := ["_law_board", "_law_cell_here", "_law_found", "_law_number", "_law_signs", "_law_column"]
theorem sc__law_near : FnScope NN__law_near ["_law_board", "_law_cell_here"] (defScope (top 40)) := ⟨rfl, rfl, rfl, by decide +kernel, rfl, by decide +kernel, by decide +kernel⟩
theorem ok__law_near {f : Addr} {fd : FuncData} (F : FnP K "_law_near" (top 40) f fd) (T : Txt K w mg)  : FnOk P w K mg base (L2N.CX P w) 1 f fd ["_law_board", "_law_cell_here"] (spF (P__law_near K)) := by
  refine F.ok sc__law_near (fun vs H Q E h => len__law_near h) (fun cdv A outer s H vs Q E hr h => ⟨t__law_near K w E, ?_, body__law_near h⟩)
  have nd := sc__law_near.nd
  exact (pss_cons (ps_set (i := 2) nd rfl (by first | exact Or.inl rfl | exact Or.inr rfl) (pe_lst pa_nil))
 (pss_cons (ps_for (passes_of rfl) rfl (pi_enumU rfl T.b_enumerate (pa_cons (pv 0) pa_nil)) (pg_tup rfl (pgs_cons (pg_name (i := 3) nd rfl (by first | exact Or.inl rfl | exact Or.inr rfl)) (pgs_cons (pg_name (i := 4) nd rfl (by first | exact Or.inl rfl | exact Or.inr rfl)) pgs_nil))) (pss_one (ps_for (passes_of rfl) rfl (pi_range1 rfl T.b_range (pa_cons (pe_callB call_len (by rfl) T.b_len (by decide +kernel) (pa_cons (pv 4) pa_nil)) pa_nil)) (pg_name (i := 5) nd rfl (by first | exact Or.inl rfl | exact Or.inr rfl)) (pss_one (ps_if (pt_cmpR (op_eqU hr) (pe_op op_addU (pe_callB call_abs (by rfl) T.b_abs (by decide +kernel) (pa_cons (pe_op op_sub (pv 3) (pe_ix ix_seq (pv 1) pe_int (fun _ _ => rfl))) pa_nil)) (pe_callB call_abs (by rfl) T.b_abs (by decide +kernel) (pa_cons (pe_op op_sub (pv 5) (pe_ix ix_seq (pv 1) pe_int (fun _ _ => rfl))) pa_nil))) pe_int (nomark _)) (pss_one (ps_expr (pe_bm PySem.F.plainAttrs_list PySem.F.slot_list_append PySem.F.type_list_append mt_append (pv 2) (pa_cons (pe_tup (pa_cons (pv 3) (pa_cons (pv 5) pa_nil))) pa_nil)))) pss_nil)))))
 (pss_one (ps_ret (pv 2)))))
abbrev NN__law_ice : List Str := ["_law_board", "_law_cell_here"]
theorem sc__law_ice : FnScope NN__law_ice ["_law_board", "_law_cell_here"] (defScope (top 39)) := ⟨rfl, rfl, rfl, by decide +kernel, rfl, by decide +kernel, by decide +kernel⟩
theorem ok__law_ice {f : Addr} {fd : FuncData} (F : FnP K "_law_ice" (top 39) f fd) (T : Txt K w mg)  : FnOk P w K mg base (L2N.CX P w) 1 f fd ["_law_board", "_law_cell_here"] (spF (P__law_ice K)) := by
  refine F.ok sc__law_ice (fun vs H Q E h => len__law_ice h) (fun cdv A outer s H vs Q E hr h => ⟨t__law_ice K w E, ?_, body__law_ice h⟩)
  have nd := sc__law_ice.nd
  exact (pss_one (ps_ret (pe_cmpR (op_inU hr) (pe_ix ix_seq (pe_ix ix_seq (pv 0) (pe_ix ix_seq (pv 1) pe_int (fun _ _ => rfl)) (fun _ _ => rfl)) (pe_ix ix_seq (pv 1) pe_int (fun _ _ => rfl)) (fun _ _ => rfl)) pe_str (by with_unfolding_all rfl))))
abbrev NN__law_ticked : List Str := ["_law_board", "_law_some", "_law_cell_here", "_law_near_here", "_law_ice_here", "_law_water", "_law_one"]
theorem sc__law_ticked : FnScope NN__law_ticked ["_law_board"] (defScope (top 42)) := ⟨rfl, rfl, rfl, by decide +kernel, rfl, by decide +kernel, by decide +kernel⟩
theorem ok__law_ticked {f : Addr} {fd : FuncData} (F : FnP K "_law_ticked" (top 42) f fd) (T : Txt K w mg) (H__law_free : Has P w K mg base "_law_free" ["_law_board"] 1 (spF (P__law_free K))) (H__law_near : Has P w K mg base "_law_near" ["_law_board", "_law_cell_here"] 1 (spF (P__law_near K))) (H__law_ice : Has P w K mg base "_law_ice" ["_law_board", "_law_cell_here"] 1 (spF (P__law_ice K))) (H__law_laid : Has P w K mg base "_law_laid" ["_law_board", "_law_some"] 1 (spF (P__law_laid K))) : FnOk P w K mg base (L2N.CX P w) 2 f fd ["_law_board"] (spF (P__law_ticked K)) := by
  refine F.ok sc__law_ticked (fun vs H Q E h => len__law_ticked h) (fun cdv A outer s H vs Q E hr h => ⟨t__law_ticked K w E, ?_, body__law_ticked h⟩)
  have nd := sc__law_ticked.nd
  exact (pss_cons (ps_set (i := 1) nd rfl (by first | exact Or.inl rfl | exact Or.inr rfl) (pe_lst pa_nil))
 (pss_cons (ps_for (passes_of rfl) rfl (pi_any (pe_callH H__law_free (hr.mono (by omega)) (L2N.passes_call (L2N.takes_of rfl rfl rfl rfl) fun _ _ _ _ z => z) (pa_cons (pv 0) pa_nil))) (pg_name (i := 2) nd rfl (by first | exact Or.inl rfl | exact Or.inr rfl)) (pss_cons (ps_setLc (i := 3) (own := [("_law_one", 6)]) (g := (gName 6)) (tt := tYes) rfl nd rfl rfl (sw_true rfl rfl rfl (by decide +kernel)) (pi_any (pe_callH H__law_near (hr.mono (by omega)) (L2N.passes_call (L2N.takes_of rfl rfl rfl rfl) fun _ _ _ _ z => z) (pa_cons (pv 0) (pa_cons (pv 2) pa_nil)))) (blkOk_by (own := [("_law_one", 6)]) (N := NN__law_ticked) (by kernel_rfl)) (fun _ _ _ _ _ => (pg_name (i := 6) nd rfl (by first | exact Or.inl rfl | exact Or.inr rfl))) (fun _ _ _ _ _ => pts_nil) (fun _ _ _ _ _ => (pe_callH H__law_ice (hr.mono (by omega)) passN (pa_cons (pv 0) (pa_cons (pv 6) pa_nil)))))
 (pss_cons (ps_set (i := 4) nd rfl (by first | exact Or.inl rfl | exact Or.inr rfl) (pe_bm PySem.F.plainAttrs_list PySem.F.slot_list_count PySem.F.type_list_count (mt_countB (unR hr)) (pv 3) (pa_cons pe_bl pa_nil)))
 (pss_cons (ps_set (i := 5) nd rfl (by first | exact Or.inl rfl | exact Or.inr rfl) (pe_op op_sub (pe_callB call_len (by rfl) T.b_len (by decide +kernel) (pa_cons (pv 3) pa_nil)) (pv 4)))
 (pss_one (ps_if (PW.pt (pw_or (pt_cmpR (op_gtU hr) (pv 4) (pv 5) (nomark _)) (pw_or1 (PW.pt (pw_and (pt_cmpR (op_eqU hr) (pv 4) (pv 5) (nomark _)) (pw_and1 (pt_val (pe_callH H__law_ice (hr.mono (by omega)) (L2N.passes_call (L2N.takes_of rfl rfl rfl rfl) fun _ _ _ _ z => z) (pa_cons (pv 0) (pa_cons (pv 2) pa_nil)))))))))) (pss_one (ps_expr (pe_bm PySem.F.plainAttrs_list PySem.F.slot_list_append PySem.F.type_list_append mt_append (pv 1) (pa_cons (pv 2) pa_nil)))) pss_nil))))))
 (pss_one (ps_ret (pe_callH H__law_laid (hr.mono (by omega)) (L2N.passes_call (L2N.takes_of rfl rfl rfl rfl) fun _ _ _ _ z => z) (pa_cons (pv 0) (pa_cons (pv 1) pa_nil)))))))
abbrev NN_is_row : List Str := ["value", "size", "sign"]
theorem sc_is_row : FnScope NN_is_row ["value", "size"] (defScope (top 12)) := ⟨rfl, rfl, rfl, by decide +kernel, rfl, by decide +kernel, by decide +kernel⟩
theorem ok_is_row {f : Addr} {fd : FuncData} (F : FnP K "is_row" (top 12) f fd) (T : Txt K w mg)  : FnOk P w K mg base (L2N.CX P w) 1 f fd ["value", "size"] (spF (P_is_row K)) := by
  refine F.ok sc_is_row (fun vs H Q E h => len_is_row h) (fun cdv A outer s H vs Q E hr h => ⟨t_is_row K w E, ?_, body_is_row h⟩)
  have nd := sc_is_row.nd
  exact (pss_one (ps_ret (pe_and (pe_callB call_isi (by rfl) T.b_isinstance (by decide +kernel) (pa_cons (pv 0) (pa_cons (pe_bltn (v := .ty "str") (by rfl) T.b_str (by decide +kernel) rfl) pa_nil))) (pe_and (pe_cmpR (op_eqU hr) (pe_callB call_len (by rfl) T.b_len (by decide +kernel) (pa_cons (pv 0) pa_nil)) (pv 1) (nomark _)) (pe_one (pe_callB (cr_all rfl) (by rfl) T.b_all (by decide +kernel) (pa_cons (pe_lc (own := [("sign", 2)]) (g := (gName 2)) (tt := tYes) rfl nd (pi_any (pv 0)) (blkOk_by (own := [("sign", 2)]) (N := NN_is_row) (by kernel_rfl)) (fun _ _ _ _ _ => (pg_name (i := 2) nd rfl (by first | exact Or.inl rfl | exact Or.inr rfl))) (fun _ _ _ _ _ => pts_nil) (fun _ _ _ _ _ => (pe_cmpR (op_inU hr) (pv 2) pe_str (by with_unfolding_all rfl)))) pa_nil)))))))
abbrev NN_is_board : List Str := ["value", "size", "one"]
theorem sc_is_board : FnScope NN_is_board ["value"] (defScope (top 13)) := ⟨rfl, rfl, rfl, by decide +kernel, rfl, by decide +kernel, by decide +kernel⟩
theorem ok_is_board {f : Addr} {fd : FuncData} (F : FnP K "is_board" (top 13) f fd) (T : Txt K w mg) (H_is_row : Has P w K mg base "is_row" ["value", "size"] 1 (spF (P_is_row K))) : FnOk P w K mg base (L2N.CX P w) 2 f fd ["value"] (spF (P_is_board K)) := by
  refine F.ok sc_is_board (fun vs H Q E h => len_is_board h) (fun cdv A outer s H vs Q E hr h => ⟨t_is_board K w E, ?_, body_is_board h⟩)
  have nd := sc_is_board.nd
  exact (pss_cons (ps_if (PW.pt (pw_or (pt_not (pt_val (pe_callB call_isi (by rfl) T.b_isinstance (by decide +kernel) (pa_cons (pv 0) (pa_cons (pe_bltn (v := .ty "tuple") (by rfl) T.b_tuple (by decide +kernel) rfl) pa_nil))))) (pw_or (pt_not (pt_chain op_le op_le pe_int (pe_callB call_len (by rfl) T.b_len (by decide +kernel) (pa_cons (pv 0) pa_nil)) pe_int)) (pw_or1 (pt_not (pt_val (pe_callB call_isi (by rfl) T.b_isinstance (by decide +kernel) (pa_cons (pe_ix ix_seq (pv 0) pe_int (fun _ _ => rfl)) (pa_cons (pe_bltn (v := .ty "str") (by rfl) T.b_str (by decide +kernel) rfl) pa_nil))))))))) (pss_one (ps_ret pe_bl)) pss_nil)
 (pss_cons (ps_set (i := 1) nd rfl (by first | exact Or.inl rfl | exact Or.inr rfl) (pe_callB call_len (by rfl) T.b_len (by decide +kernel) (pa_cons (pe_ix ix_seq (pv 0) pe_int (fun _ _ => rfl)) pa_nil)))
 (pss_cons (ps_if (PW.pt (pw_or (pt_not (pt_chain op_le op_le pe_int (pv 1) pe_int)) (pw_or1 (pt_cmpR (op_gtU hr) (pe_op op_mulU (pv 1) (pe_callB call_len (by rfl) T.b_len (by decide +kernel) (pa_cons (pv 0) pa_nil))) pe_int (nomark _))))) (pss_one (ps_ret pe_bl)) pss_nil)
 (pss_one (ps_ret (pe_callB (cr_all rfl) (by rfl) T.b_all (by decide +kernel) (pa_cons (pe_lc (own := [("one", 2)]) (g := (gName 2)) (tt := tYes) rfl nd (pi_any (pv 0)) (blkOk_by (own := [("one", 2)]) (N := NN_is_board) (by kernel_rfl)) (fun _ _ _ _ _ => (pg_name (i := 2) nd rfl (by first | exact Or.inl rfl | exact Or.inr rfl))) (fun _ _ _ _ _ => pts_nil) (fun _ _ _ _ _ => (pe_callH H_is_row (hr.mono (by omega)) passN (pa_cons (pv 2) (pa_cons (pv 1) pa_nil))))) pa_nil)))))))
abbrev NN_need_board : List Str := ["board"]
theorem sc_need_board : FnScope NN_need_board ["board"] (defScope (top 14)) := ⟨rfl, rfl, rfl, by decide +kernel, rfl, by decide +kernel, by decide +kernel⟩
theorem ok_need_board {f : Addr} {fd : FuncData} (F : FnP K "need_board" (top 14) f fd) (T : Txt K w mg) (H_is_board : Has P w K mg base "is_board" ["value"] 2 (spF (P_is_board K))) : FnOk P w K mg base (L2N.CX P w) 3 f fd ["board"] (spF (P_need_board K)) := by
  refine F.ok sc_need_board (fun vs H Q E h => len_need_board h) (fun cdv A outer s H vs Q E hr h => ⟨t_need_board K w E, ?_, body_need_board h⟩)
  have nd := sc_need_board.nd
  exact (pss_one (ps_if (pt_not (pt_val (pe_callH H_is_board (hr.mono (by omega)) (L2N.passes_call (L2N.takes_of rfl rfl rfl rfl) fun _ _ _ _ z => z) (pa_cons (pv 0) pa_nil)))) (pss_one (L2N.ps_raise rfl (L2N.takes_of rfl rfl rfl rfl) (L2N.pmk_own PySem.F.excBase_ValueError T.x_InvalidBoard.2.1 T.x_InvalidBoard.1 T.x_InvalidBoard.2.2.1 (raises_own T.x_InvalidBoard.2.2.2.1 T.x_InvalidBoard.2.2.2.2) (by exact rfl)))) pss_nil))
abbrev NN_free_cells : List Str := ["board", "found", "number", "signs", "column", "sign"]
theorem sc_free_cells : FnScope NN_free_cells ["board"] (defScope (top 15)) := ⟨rfl, rfl, rfl, by decide +kernel, rfl, by decide +kernel, by decide +kernel⟩
theorem ok_free_cells {f : Addr} {fd : FuncData} (F : FnP K "free_cells" (top 15) f fd) (T : Txt K w mg)  : FnOk P w K mg base (L2N.CX P w) 1 f fd ["board"] (spF (P_free_cells K)) := by
  refine F.ok sc_free_cells (fun vs H Q E h => len_free_cells h) (fun cdv A outer s H vs Q E hr h => ⟨t_free_cells K w E, ?_, body_free_cells h⟩)
  have nd := sc_free_cells.nd
  exact (pss_cons (ps_set (i := 1) nd rfl (by first | exact Or.inl rfl | exact Or.inr rfl) (pe_lst pa_nil))
 (pss_cons (ps_for (passes_of rfl) rfl (pi_enumU rfl T.b_enumerate (pa_cons (pv 0) pa_nil)) (pg_tup rfl (pgs_cons (pg_name (i := 2) nd rfl (by first | exact Or.inl rfl | exact Or.inr rfl)) (pgs_cons (pg_name (i := 3) nd rfl (by first | exact Or.inl rfl | exact Or.inr rfl)) pgs_nil))) (pss_one (ps_set (i := 1) nd rfl (by first | exact Or.inl rfl | exact Or.inr rfl) (pe_op op_addU (pv 1) (pe_lc (own := [("column", 4), ("sign", 5)]) (g := (gTup K 2 (gCons (gName 4) (gCons (gName 5) gNil)))) (tt := (tTest (tOp (rInU K) (tVar 5) (tC (.str "#."))))) rfl nd (pi_enumU rfl T.b_enumerate (pa_cons (pv 3) pa_nil)) (blkOk_by (own := [("column", 4), ("sign", 5)]) (N := NN_free_cells) (by kernel_rfl)) (fun _ _ _ _ _ => (pg_tup rfl (pgs_cons (pg_name (i := 4) nd rfl (by first | exact Or.inl rfl | exact Or.inr rfl)) (pgs_cons (pg_name (i := 5) nd rfl (by first | exact Or.inl rfl | exact Or.inr rfl)) pgs_nil)))) (fun _ _ _ _ _ => (pts_one (pt_cmpR (op_inU hr) (pv 5) pe_str (by with_unfolding_all rfl)))) (fun _ _ _ _ _ => (pe_tup (pa_cons (pv 2) (pa_cons (pv 4) pa_nil)))))))))
 (pss_one (ps_ret (pv 1)))))
abbrev NN_need_small : List Str := ["board"]
theorem sc_need_small : FnScope NN_need_small ["board"] (defScope (top 20)) := ⟨rfl, rfl, rfl, by decide +kernel, rfl, by decide +kernel, by decide +kernel⟩
theorem ok_need_small {f : Addr} {fd : FuncData} (F : FnP K "need_small" (top 20) f fd) (T : Txt K w mg) (H_free_cells : Has P w K mg base "free_cells" ["board"] 1 (spF (P_free_cells K))) : FnOk P w K mg base (L2N.CX P w) 2 f fd ["board"] (spF (P_need_small K)) := by
  refine F.ok sc_need_small (fun vs H Q E h => len_need_small h) (fun cdv A outer s H vs Q E hr h => ⟨t_need_small K w E, ?_, body_need_small h⟩)
  have nd := sc_need_small.nd
  exact (pss_one (ps_if (pt_cmpR (op_gtU hr) (pe_callB call_len (by rfl) T.b_len (by decide +kernel) (pa_cons (pe_callH H_free_cells (hr.mono (by omega)) (L2N.passes_call (L2N.takes_of rfl rfl rfl rfl) fun _ _ _ _ z => z) (pa_cons (pv 0) pa_nil)) pa_nil)) pe_int (nomark _)) (pss_one (L2N.ps_raise rfl (L2N.takes_of rfl rfl rfl rfl) (L2N.pmk_own PySem.F.excBase_ValueError T.x_TooLarge.2.1 T.x_TooLarge.1 T.x_TooLarge.2.2.1 (raises_own T.x_TooLarge.2.2.2.1 T.x_TooLarge.2.2.2.2) (by exact rfl)))) pss_nil))
abbrev NN_need_few : List Str := ["board"]
theorem sc_need_few : FnScope NN_need_few ["board"] (defScope (top 27)) := ⟨rfl, rfl, rfl, by decide +kernel, rfl, by decide +kernel, by decide +kernel⟩
theorem ok_need_few {f : Addr} {fd : FuncData} (F : FnP K "need_few" (top 27) f fd) (T : Txt K w mg) (H_need_board : Has P w K mg base "need_board" ["board"] 3 (spF (P_need_board K))) (H_need_small : Has P w K mg base "need_small" ["board"] 2 (spF (P_need_small K))) : FnOk P w K mg base (L2N.CX P w) 4 f fd ["board"] (spF (P_need_few K)) := by
  refine F.ok sc_need_few (fun vs H Q E h => len_need_few h) (fun cdv A outer s H vs Q E hr h => ⟨t_need_few K w E, ?_, body_need_few h⟩)
  have nd := sc_need_few.nd
  exact (pss_cons (ps_expr (pe_callH H_need_board (hr.mono (by omega)) (L2N.passes_call (L2N.takes_of rfl rfl rfl rfl) fun _ _ _ _ z => z) (pa_cons (pv 0) pa_nil)))
 (pss_one (ps_expr (pe_callH H_need_small (hr.mono (by omega)) (L2N.passes_call (L2N.takes_of rfl rfl rfl rfl) fun _ _ _ _ z => z) (pa_cons (pv 0) pa_nil)))))
abbrev NN_drawn : List Str := ["board", "some", "found", "number", "signs", "line", "column", "sign"]
theorem sc_drawn : FnScope NN_drawn ["board", "some"] (defScope (top 19)) := ⟨rfl, rfl, rfl, by decide +kernel, rfl, by decide +kernel, by decide +kernel⟩
theorem ok_drawn {f : Addr} {fd : FuncData} (F : FnP K "drawn" (top 19) f fd) (T : Txt K w mg)  : FnOk P w K mg base (L2N.CX P w) 1 f fd ["board", "some"] (spF (P_drawn K)) := by
  refine F.ok sc_drawn (fun vs H Q E h => len_drawn h) (fun cdv A outer s H vs Q E hr h => ⟨t_drawn K w E, ?_, body_drawn h⟩)
  have nd := sc_drawn.nd
  exact (pss_cons (ps_set (i := 2) nd rfl (by first | exact Or.inl rfl | exact Or.inr rfl) (pe_lst pa_nil))
 (pss_cons (ps_for (passes_of rfl) rfl (pi_enumU rfl T.b_enumerate (pa_cons (pv 0) pa_nil)) (pg_tup rfl (pgs_cons (pg_name (i := 3) nd rfl (by first | exact Or.inl rfl | exact Or.inr rfl)) (pgs_cons (pg_name (i := 4) nd rfl (by first | exact Or.inl rfl | exact Or.inr rfl)) pgs_nil))) (pss_cons (ps_set (i := 5) nd rfl (by first | exact Or.inl rfl | exact Or.inr rfl) pe_str)
 (pss_cons (ps_for (passes_of rfl) rfl (pi_enumU rfl T.b_enumerate (pa_cons (pv 4) pa_nil)) (pg_tup rfl (pgs_cons (pg_name (i := 6) nd rfl (by first | exact Or.inl rfl | exact Or.inr rfl)) (pgs_cons (pg_name (i := 7) nd rfl (by first | exact Or.inl rfl | exact Or.inr rfl)) pgs_nil))) (pss_one (ps_aug (i := 5) nd rfl (by first | exact Or.inl rfl | exact Or.inr rfl) (pe_ifExp (pt_cmpR (op_inU hr) (pv 7) pe_str (by with_unfolding_all rfl)) (pv 7) (pe_ifExp (pt_cmpR (op_inU hr) (pe_tup (pa_cons (pv 3) (pa_cons (pv 6) pa_nil))) (pv 1) (by with_unfolding_all rfl)) pe_str pe_str)) iop_addU)))
 (pss_one (ps_expr (pe_bm PySem.F.plainAttrs_list PySem.F.slot_list_append PySem.F.type_list_append mt_append (pv 2) (pa_cons (pv 5) pa_nil)))))))
 (pss_one (ps_ret (pe_callTy call_tuple_of (by rfl) T.b_tuple (by decide +kernel) (pa_cons (pv 2) pa_nil))))))
abbrev NN_all_boards : List Str := ["board", "found", "cell", "some"]
theorem sc_all_boards : FnScope NN_all_boards ["board"] (defScope (top 21)) := ⟨rfl, rfl, rfl, by decide +kernel, rfl, by decide +kernel, by decide +kernel⟩
theorem ok_all_boards {f : Addr} {fd : FuncData} (F : FnP K "all_boards" (top 21) f fd) (T : Txt K w mg) (H_free_cells : Has P w K mg base "free_cells" ["board"] 1 (spF (P_free_cells K))) (H_drawn : Has P w K mg base "drawn" ["board", "some"] 1 (spF (P_drawn K))) : FnOk P w K mg base (L2N.CX P w) 2 f fd ["board"] (spF (P_all_boards K)) := by
  refine F.ok sc_all_boards (fun vs H Q E h => len_all_boards h) (fun cdv A outer s H vs Q E hr h => ⟨t_all_boards K w E, ?_, body_all_boards h⟩)
  have nd := sc_all_boards.nd
  exact (pss_cons (ps_set (i := 1) nd rfl (by first | exact Or.inl rfl | exact Or.inr rfl) (pe_lst (pa_cons (pe_tup pa_nil) pa_nil)))
 (pss_cons (ps_for (passes_of rfl) rfl (pi_any (pe_callH H_free_cells (hr.mono (by omega)) (L2N.passes_call (L2N.takes_of rfl rfl rfl rfl) fun _ _ _ _ z => z) (pa_cons (pv 0) pa_nil))) (pg_name (i := 2) nd rfl (by first | exact Or.inl rfl | exact Or.inr rfl)) (pss_one (ps_set (i := 1) nd rfl (by first | exact Or.inl rfl | exact Or.inr rfl) (pe_op op_addU (pv 1) (pe_lc (own := [("some", 3)]) (g := (gName 3)) (tt := tYes) rfl nd (pi_any (pv 1)) (blkOk_by (own := [("some", 3)]) (N := NN_all_boards) (by kernel_rfl)) (fun _ _ _ _ _ => (pg_name (i := 3) nd rfl (by first | exact Or.inl rfl | exact Or.inr rfl))) (fun _ _ _ _ _ => pts_nil) (fun _ _ _ _ _ => (pe_op op_addU (pv 3) (pe_tup (pa_cons (pv 2) pa_nil)))))))))
 (pss_one (ps_ret (pe_callB (cr_sortedD (unS hr)) (by rfl) T.b_sorted (by decide +kernel) (pa_cons (pe_lc (own := [("some", 3)]) (g := (gName 3)) (tt := tYes) rfl nd (pi_any (pv 1)) (blkOk_by (own := [("some", 3)]) (N := NN_all_boards) (by kernel_rfl)) (fun _ _ _ _ _ => (pg_name (i := 3) nd rfl (by first | exact Or.inl rfl | exact Or.inr rfl))) (fun _ _ _ _ _ => pts_nil) (fun _ _ _ _ _ => (pe_callH H_drawn (hr.mono (by omega)) passN (pa_cons (pv 0) (pa_cons (pv 3) pa_nil))))) pa_nil))))))
abbrev NN_neighbours : List Str := ["board", "cell", "some", "row", "column", "one", "other"]
theorem sc_neighbours : FnScope NN_neighbours ["board", "cell"] (defScope (top 23)) := ⟨rfl, rfl, rfl, by decide +kernel, rfl, by decide +kernel, by decide +kernel⟩
theorem ok_neighbours {f : Addr} {fd : FuncData} (F : FnP K "neighbours" (top 23) f fd) (T : Txt K w mg)  : FnOk P w K mg base (L2N.CX P w) 1 f fd ["board", "cell"] (spF (P_neighbours K)) := by
  refine F.ok sc_neighbours (fun vs H Q E h => len_neighbours h) (fun cdv A outer s H vs Q E hr h => ⟨t_neighbours K w E, ?_, body_neighbours h⟩)
  have nd := sc_neighbours.nd
  exact (pss_cons (ps_asg (pv 1) (pg_tup rfl (pgs_cons (pg_name (i := 3) nd rfl (by first | exact Or.inl rfl | exact Or.inr rfl)) (pgs_cons (pg_name (i := 4) nd rfl (by first | exact Or.inl rfl | exact Or.inr rfl)) pgs_nil))))
 (pss_cons (ps_set (i := 2) nd rfl (by first | exact Or.inl rfl | exact Or.inr rfl) (pe_lst (pa_cons (pe_tup (pa_cons (pe_op op_sub (pv 3) pe_int) (pa_cons (pv 4) pa_nil))) (pa_cons (pe_tup (pa_cons (pv 3) (pa_cons (pe_op op_sub (pv 4) pe_int) pa_nil))) (pa_cons (pe_tup (pa_cons (pv 3) (pa_cons (pe_op op_addU (pv 4) pe_int) pa_nil))) (pa_cons (pe_tup (pa_cons (pe_op op_addU (pv 3) pe_int) (pa_cons (pv 4) pa_nil))) pa_nil))))))
 (pss_one (ps_ret (pe_lc (own := [("one", 5), ("other", 6)]) (g := (gTup K 2 (gCons (gName 5) (gCons (gName 6) gNil)))) (tt := (tAnd (tTest (tChain (rI0 fun i j => .bl (decide (i ≤ j))) (rLtU K) (tC (.int 0)) (tVar 5) (tCB (rLen K) (tCons (tVar 0) tNil)))) (tTest (tChain (rI0 fun i j => .bl (decide (i ≤ j))) (rLtU K) (tC (.int 0)) (tVar 6) (tCB (rLen K) (tCons (tOp (rIx K) (tVar 0) (tC (.int 0))) tNil)))))) rfl nd (pi_any (pv 2)) (blkOk_by (own := [("one", 5), ("other", 6)]) (N := NN_neighbours) (by kernel_rfl)) (fun _ _ _ _ _ => (pg_tup rfl (pgs_cons (pg_name (i := 5) nd rfl (by first | exact Or.inl rfl | exact Or.inr rfl)) (pgs_cons (pg_name (i := 6) nd rfl (by first | exact Or.inl rfl | exact Or.inr rfl)) pgs_nil)))) (fun _ _ _ _ _ => (pts_one (PW.pt (pw_and (pt_chain op_le (op_ltU hr) pe_int (pv 5) (pe_callB call_len (by rfl) T.b_len (by decide +kernel) (pa_cons (pv 0) pa_nil))) (pw_and1 (pt_chain op_le (op_ltU hr) pe_int (pv 6) (pe_callB call_len (by rfl) T.b_len (by decide +kernel) (pa_cons (pe_ix ix_seq (pv 0) pe_int (fun _ _ => rfl)) pa_nil)))))))) (fun _ _ _ _ _ => (pe_tup (pa_cons (pv 5) (pa_cons (pv 6) pa_nil)))))))))
abbrev NN_ice_at : List Str := ["board", "cell"]
theorem sc_ice_at : FnScope NN_ice_at ["board", "cell"] (defScope (top 16)) := ⟨rfl, rfl, rfl, by decide +kernel, rfl, by decide +kernel, by decide +kernel⟩
theorem ok_ice_at {f : Addr} {fd : FuncData} (F : FnP K "ice_at" (top 16) f fd) (T : Txt K w mg)  : FnOk P w K mg base (L2N.CX P w) 1 f fd ["board", "cell"] (spF (P_ice_at K)) := by
  refine F.ok sc_ice_at (fun vs H Q E h => len_ice_at h) (fun cdv A outer s H vs Q E hr h => ⟨t_ice_at K w E, ?_, body_ice_at h⟩)
  have nd := sc_ice_at.nd
  exact (pss_one (ps_ret (pe_cmpR (op_inU hr) (pe_ix ix_seq (pe_ix ix_seq (pv 0) (pe_ix ix_seq (pv 1) pe_int (fun _ _ => rfl)) (fun _ _ => rfl)) (pe_ix ix_seq (pv 1) pe_int (fun _ _ => rfl)) (fun _ _ => rfl)) pe_str (by with_unfolding_all rfl))))
abbrev NN_next_sign : List Str := ["board", "row", "column", "sign", "some", "ice", "cell", "one"]
theorem sc_next_sign : FnScope NN_next_sign ["board", "row", "column"] (defScope (top 24)) := ⟨rfl, rfl, rfl, by decide +kernel, rfl, by decide +kernel, by decide +kernel⟩
theorem ok_next_sign {f : Addr} {fd : FuncData} (F : FnP K "next_sign" (top 24) f fd) (T : Txt K w mg) (H_neighbours : Has P w K mg base "neighbours" ["board", "cell"] 1 (spF (P_neighbours K))) (H_ice_at : Has P w K mg base "ice_at" ["board", "cell"] 1 (spF (P_ice_at K))) : FnOk P w K mg base (L2N.CX P w) 2 f fd ["board", "row", "column"] (spF (P_next_sign K)) := by
  refine F.ok sc_next_sign (fun vs H Q E h => len_next_sign h) (fun cdv A outer s H vs Q E hr h => ⟨t_next_sign K w E, ?_, body_next_sign h⟩)
  have nd := sc_next_sign.nd
  exact (pss_cons (ps_set (i := 3) nd rfl (by first | exact Or.inl rfl | exact Or.inr rfl) (pe_ix ix_seq (pe_ix ix_seq (pv 0) (pv 1) (fun _ _ => rfl)) (pv 2) (fun _ _ => rfl)))
 (pss_cons (ps_if (pt_cmpR (op_inU hr) (pv 3) pe_str (by with_unfolding_all rfl)) (pss_one (ps_ret (pv 3))) pss_nil)
 (pss_cons (ps_setLc (i := 4) (own := [("cell", 6)]) (g := (gName 6)) (tt := tYes) rfl nd rfl rfl (sw_true rfl rfl rfl (by decide +kernel)) (pi_any (pe_callH H_neighbours (hr.mono (by omega)) (L2N.passes_call (L2N.takes_of rfl rfl rfl rfl) fun _ _ _ _ z => z) (pa_cons (pv 0) (pa_cons (pe_tup (pa_cons (pv 1) (pa_cons (pv 2) pa_nil))) pa_nil)))) (blkOk_by (own := [("cell", 6)]) (N := NN_next_sign) (by kernel_rfl)) (fun _ _ _ _ _ => (pg_name (i := 6) nd rfl (by first | exact Or.inl rfl | exact Or.inr rfl))) (fun _ _ _ _ _ => pts_nil) (fun _ _ _ _ _ => (pe_callH H_ice_at (hr.mono (by omega)) passN (pa_cons (pv 0) (pa_cons (pv 6) pa_nil)))))
 (pss_cons (ps_set (i := 5) nd rfl (by first | exact Or.inl rfl | exact Or.inr rfl) (pe_callB call_len (by rfl) T.b_len (by decide +kernel) (pa_cons (pe_lc (own := [("one", 7)]) (g := (gName 7)) (tt := (tB (tVar 7))) rfl nd (pi_any (pv 4)) (blkOk_by (own := [("one", 7)]) (N := NN_next_sign) (by kernel_rfl)) (fun _ _ _ _ _ => (pg_name (i := 7) nd rfl (by first | exact Or.inl rfl | exact Or.inr rfl))) (fun _ _ _ _ _ => (pts_one (pt_val (pv 7)))) (fun _ _ _ _ _ => (pv 7))) pa_nil)))
 (pss_one (ps_ret (pe_ifExp (pt_cmpR (op_eqU hr) (pe_op op_mulU pe_int (pv 5)) (pe_callB call_len (by rfl) T.b_len (by decide +kernel) (pa_cons (pv 4) pa_nil)) (nomark _)) (pv 3) (pe_ifExp (pt_cmpR (op_gtU hr) (pe_op op_mulU pe_int (pv 5)) (pe_callB call_len (by rfl) T.b_len (by decide +kernel) (pa_cons (pv 4) pa_nil)) (nomark _)) pe_str pe_str))))))))
abbrev NN_ticked : List Str := ["board", "size", "row", "column"]
theorem sc_ticked : FnScope NN_ticked ["board"] (defScope (top 25)) := ⟨rfl, rfl, rfl, by decide +kernel, rfl, by decide +kernel, by decide +kernel⟩
theorem ok_ticked {f : Addr} {fd : FuncData} (F : FnP K "ticked" (top 25) f fd) (T : Txt K w mg) (H_next_sign : Has P w K mg base "next_sign" ["board", "row", "column"] 2 (spF (P_next_sign K))) : FnOk P w K mg base (L2N.CX P w) 3 f fd ["board"] (spF (P_ticked K)) := by
  refine F.ok sc_ticked (fun vs H Q E h => len_ticked h) (fun cdv A outer s H vs Q E hr h => ⟨t_ticked K w E, ?_, body_ticked h⟩)
  have nd := sc_ticked.nd
  exact (pss_cons (ps_set (i := 1) nd rfl (by first | exact Or.inl rfl | exact Or.inr rfl) (pe_callB call_len (by rfl) T.b_len (by decide +kernel) (pa_cons (pe_ix ix_seq (pv 0) pe_int (fun _ _ => rfl)) pa_nil)))
 (pss_one (ps_ret (pe_callTy call_tuple_of (by rfl) T.b_tuple (by decide +kernel) (pa_cons (pe_lc (own := [("row", 2)]) (g := (gName 2)) (tt := tYes) rfl nd (pi_range1 rfl T.b_range (pa_cons (pe_callB call_len (by rfl) T.b_len (by decide +kernel) (pa_cons (pv 0) pa_nil)) pa_nil)) (blkOk_by (own := [("row", 2)]) (N := NN_ticked) (by kernel_rfl)) (fun _ _ _ _ _ => (pg_name (i := 2) nd rfl (by first | exact Or.inl rfl | exact Or.inr rfl))) (fun _ _ _ _ _ => pts_nil) (fun _ _ _ _ _ => (pe_join pe_str (pe_lc (own := [("column", 3)]) (g := (gName 3)) (tt := tYes) rfl nd (pi_range1 rfl T.b_range (pa_cons (pv 1) pa_nil)) (blkOk_by (own := [("column", 3)]) (N := NN_ticked) (by kernel_rfl)) (fun _ _ _ _ _ => (pg_name (i := 3) nd rfl (by first | exact Or.inl rfl | exact Or.inr rfl))) (fun _ _ _ _ _ => pts_nil) (fun _ _ _ _ _ => (pe_callH H_next_sign (hr.mono (by omega)) passN (pa_cons (pv 0) (pa_cons (pv 2) (pa_cons (pv 3) pa_nil))))))))) pa_nil)))))
abbrev NN_count_orphans : List Str := ["board", "some", "one"]
theorem sc_count_orphans : FnScope NN_count_orphans ["board"] (defScope (top 29)) := ⟨rfl, rfl, rfl, by decide +kernel, rfl, by decide +kernel, by decide +kernel⟩
theorem ok_count_orphans {f : Addr} {fd : FuncData} (F : FnP K "count_orphans" (top 29) f fd) (T : Txt K w mg) (H_need_few : Has P w K mg base "need_few" ["board"] 4 (spF (P_need_few K))) (H_all_boards : Has P w K mg base "all_boards" ["board"] 2 (spF (P_all_boards K))) (H_ticked : Has P w K mg base "ticked" ["board"] 3 (spF (P_ticked K))) : FnOk P w K mg base (L2N.CX P w) 5 f fd ["board"] (spF (P_count_orphans K)) := by
  refine F.ok sc_count_orphans (fun vs H Q E h => len_count_orphans h) (fun cdv A outer s H vs Q E hr h => ⟨t_count_orphans K w E, ?_, body_count_orphans h⟩)
  have nd := sc_count_orphans.nd
  exact (pss_cons (ps_expr (pe_callH H_need_few (hr.mono (by omega)) (L2N.passes_call (L2N.takes_of rfl rfl rfl rfl) fun _ _ _ _ z => z) (pa_cons (pv 0) pa_nil)))
 (pss_cons (ps_set (i := 1) nd rfl (by first | exact Or.inl rfl | exact Or.inr rfl) (pe_callH H_all_boards (hr.mono (by omega)) (L2N.passes_call (L2N.takes_of rfl rfl rfl rfl) fun _ _ _ _ z => z) (pa_cons (pv 0) pa_nil)))
 (pss_one (ps_ret (pe_op op_sub (pe_callB call_len (by rfl) T.b_len (by decide +kernel) (pa_cons (pv 1) pa_nil)) (pe_lenSetN rfl (unS hr) (by rfl) T.b_len (by rfl) T.b_set (pa_cons (pe_lc (own := [("one", 2)]) (g := (gName 2)) (tt := tYes) rfl nd (pi_any (pv 1)) (blkOk_by (own := [("one", 2)]) (N := NN_count_orphans) (by kernel_rfl)) (fun _ _ _ _ _ => (pg_name (i := 2) nd rfl (by first | exact Or.inl rfl | exact Or.inr rfl))) (fun _ _ _ _ _ => pts_nil) (fun _ _ _ _ _ => (pe_callH H_ticked (hr.mono (by omega)) passN (pa_cons (pv 2) pa_nil)))) pa_nil)))))))
abbrev NN_exchanged : List Str := ["board", "signs", "sign"]
theorem sc_exchanged : FnScope NN_exchanged ["board"] (defScope (top 17)) := ⟨rfl, rfl, rfl, by decide +kernel, rfl, by decide +kernel, by decide +kernel⟩
theorem ok_exchanged {f : Addr} {fd : FuncData} (F : FnP K "exchanged" (top 17) f fd) (T : Txt K w mg) (H_need_board : Has P w K mg base "need_board" ["board"] 3 (spF (P_need_board K))) : FnOk P w K mg base (L2N.CX P w) 4 f fd ["board"] (spF (P_exchanged K)) := by
  refine F.ok sc_exchanged (fun vs H Q E h => len_exchanged h) (fun cdv A outer s H vs Q E hr h => ⟨t_exchanged K w E, ?_, body_exchanged T.oth h⟩)
  have nd := sc_exchanged.nd
  exact (pss_cons (ps_expr (pe_callH H_need_board (hr.mono (by omega)) (L2N.passes_call (L2N.takes_of rfl rfl rfl rfl) fun _ _ _ _ z => z) (pa_cons (pv 0) pa_nil)))
 (pss_one (ps_ret (pe_callTy call_tuple_of (by rfl) T.b_tuple (by decide +kernel) (pa_cons (pe_lc (own := [("signs", 1)]) (g := (gName 1)) (tt := tYes) rfl nd (pi_any (pv 0)) (blkOk_by (own := [("signs", 1)]) (N := NN_exchanged) (by kernel_rfl)) (fun _ _ _ _ _ => (pg_name (i := 1) nd rfl (by first | exact Or.inl rfl | exact Or.inr rfl))) (fun _ _ _ _ _ => pts_nil) (fun _ _ _ _ _ => (pe_join pe_str (pe_lc (own := [("sign", 2)]) (g := (gName 2)) (tt := tYes) rfl nd (pi_any (pv 1)) (blkOk_by (own := [("sign", 2)]) (N := NN_exchanged) (by kernel_rfl)) (fun _ _ _ _ _ => (pg_name (i := 2) nd rfl (by first | exact Or.inl rfl | exact Or.inr rfl))) (fun _ _ _ _ _ => pts_nil) (fun _ _ _ _ _ => (pe_ix ix_kdict (pe_glob rfl T.g_OTHER rfl) (pv 2) (fun _ _ => rfl))))))) pa_nil)))))
abbrev NN_turned : List Str := ["board", "column", "signs"]
theorem sc_turned : FnScope NN_turned ["board"] (defScope (top 18)) := ⟨rfl, rfl, rfl, by decide +kernel, rfl, by decide +kernel, by decide +kernel⟩
theorem ok_turned {f : Addr} {fd : FuncData} (F : FnP K "turned" (top 18) f fd) (T : Txt K w mg) (H_need_board : Has P w K mg base "need_board" ["board"] 3 (spF (P_need_board K))) : FnOk P w K mg base (L2N.CX P w) 4 f fd ["board"] (spF (P_turned K)) := by
  refine F.ok sc_turned (fun vs H Q E h => len_turned h) (fun cdv A outer s H vs Q E hr h => ⟨t_turned K w E, ?_, body_turned h⟩)
  have nd := sc_turned.nd
  exact (pss_cons (ps_expr (pe_callH H_need_board (hr.mono (by omega)) (L2N.passes_call (L2N.takes_of rfl rfl rfl rfl) fun _ _ _ _ z => z) (pa_cons (pv 0) pa_nil)))
 (pss_one (ps_ret (pe_callTy call_tuple_of (by rfl) T.b_tuple (by decide +kernel) (pa_cons (pe_lc (own := [("column", 1)]) (g := (gName 1)) (tt := tYes) rfl nd (pi_range1 rfl T.b_range (pa_cons (pe_callB call_len (by rfl) T.b_len (by decide +kernel) (pa_cons (pe_ix ix_seq (pv 0) pe_int (fun _ _ => rfl)) pa_nil)) pa_nil)) (blkOk_by (own := [("column", 1)]) (N := NN_turned) (by kernel_rfl)) (fun _ _ _ _ _ => (pg_name (i := 1) nd rfl (by first | exact Or.inl rfl | exact Or.inr rfl))) (fun _ _ _ _ _ => pts_nil) (fun _ _ _ _ _ => (pe_join pe_str (pe_lc (own := [("signs", 2)]) (g := (gName 2)) (tt := tYes) rfl nd (pi_any (pv 0)) (blkOk_by (own := [("signs", 2)]) (N := NN_turned) (by kernel_rfl)) (fun _ _ _ _ _ => (pg_name (i := 2) nd rfl (by first | exact Or.inl rfl | exact Or.inr rfl))) (fun _ _ _ _ _ => pts_nil) (fun _ _ _ _ _ => (pe_ix ix_seq (pv 2) (pv 1) (fun _ _ => rfl))))))) pa_nil)))))
abbrev NN_forerunners : List Str := ["board", "one"]
theorem sc_forerunners : FnScope NN_forerunners ["board"] (defScope (top 28)) := ⟨rfl, rfl, rfl, by decide +kernel, rfl, by decide +kernel, by decide +kernel⟩
theorem ok_forerunners {f : Addr} {fd : FuncData} (F : FnP K "forerunners" (top 28) f fd) (T : Txt K w mg) (H_need_few : Has P w K mg base "need_few" ["board"] 4 (spF (P_need_few K))) (H_all_boards : Has P w K mg base "all_boards" ["board"] 2 (spF (P_all_boards K))) (H_ticked : Has P w K mg base "ticked" ["board"] 3 (spF (P_ticked K))) : FnOk P w K mg base (L2N.CX P w) 5 f fd ["board"] (spF (P_forerunners K)) := by
  refine F.ok sc_forerunners (fun vs H Q E h => len_forerunners h) (fun cdv A outer s H vs Q E hr h => ⟨t_forerunners K w E, ?_, body_forerunners h⟩)
  have nd := sc_forerunners.nd
  exact (pss_cons (ps_expr (pe_callH H_need_few (hr.mono (by omega)) (L2N.passes_call (L2N.takes_of rfl rfl rfl rfl) fun _ _ _ _ z => z) (pa_cons (pv 0) pa_nil)))
 (pss_one (ps_ret (pe_callTy call_tuple_of (by rfl) T.b_tuple (by decide +kernel) (pa_cons (pe_lc (own := [("one", 1)]) (g := (gName 1)) (tt := (tTest (tOp (rEqD K) (tCall (spF (P_ticked K)) [] E0 (tCons (tVar 1) tNil)) (tVar 0)))) rfl nd (pi_any (pe_callH H_all_boards (hr.mono (by omega)) (L2N.passes_call (L2N.takes_of rfl rfl rfl rfl) fun _ _ _ _ z => z) (pa_cons (pv 0) pa_nil))) (blkOk_by (own := [("one", 1)]) (N := NN_forerunners) (by kernel_rfl)) (fun _ _ _ _ _ => (pg_name (i := 1) nd rfl (by first | exact Or.inl rfl | exact Or.inr rfl))) (fun _ _ _ _ _ => (pts_one (pt_cmpR (op_eqU hr) (pe_callH H_ticked (hr.mono (by omega)) passN (pa_cons (pv 1) pa_nil)) (pv 0) (nomark _)))) (fun _ _ _ _ _ => (pv 1))) pa_nil)))))
abbrev NN__law_term : List Str := ["_law_e", "_law_flags", "_law_kinds", "_law_flag"]
theorem sc__law_term : FnScope NN__law_term ["_law_e"] (defScope (top 35)) := ⟨rfl, rfl, rfl, by decide +kernel, rfl, by decide +kernel, by decide +kernel⟩
theorem ok__law_term {f : Addr} {fd : FuncData} (F : FnP K "_law_term" (top 35) f fd) (T : Txt K w mg) : FnT P w K mg base 1 f fd := by
  refine fnT_of (k := 0) F sc__law_term (fun cdv A outer s H Q p D nm G hot hr hz tk gh q => ⟨t__law_term K w D p.1, ?_, body__law_term tk gh q⟩)
  have nd := sc__law_term.nd
  have hq : p ∈ (L2H.cxH C8.CX0 P w K mg base NN__law_term "_law_term" (defScope (top 35)) f cdv A outer s H C8.E0 p).pn := List.mem_singleton.mpr rfl
  obtain ⟨vs1, hd1, _⟩ := hot.2
  have hf : ∃ vs, p.2.data = .fields vs := ⟨vs1, hd1⟩
  exact (pss_cons (ps_set (i := 1) nd rfl (by first | exact Or.inl rfl | exact Or.inr rfl) (pe_lst (pa_cons (pe_callB (call_isP tk.ex hz hf hq) (by rfl) T.b_isinstance (by decide +kernel) (pa_cons (pv 0) (pa_cons (pe_glob rfl T.c_InvalidBoard rfl) pa_nil))) (pa_cons (pe_callB (call_isP tk.ex hz hf hq) (by rfl) T.b_isinstance (by decide +kernel) (pa_cons (pv 0) (pa_cons (pe_glob rfl T.c_InvalidCell rfl) pa_nil))) (pa_cons (pe_callB (call_isP tk.ex hz hf hq) (by rfl) T.b_isinstance (by decide +kernel) (pa_cons (pv 0) (pa_cons (pe_glob rfl T.c_InvalidCells rfl) pa_nil))) pa_nil)))))
 (pss_cons (ps_set (i := 1) nd rfl (by first | exact Or.inl rfl | exact Or.inr rfl) (pe_op op_addU (pv 1) (pe_lst (pa_cons (pe_callB (call_isP tk.ex hz hf hq) (by rfl) T.b_isinstance (by decide +kernel) (pa_cons (pv 0) (pa_cons (pe_glob rfl T.c_InvalidTicks rfl) pa_nil))) (pa_cons (pe_callB (call_isP tk.ex hz hf hq) (by rfl) T.b_isinstance (by decide +kernel) (pa_cons (pv 0) (pa_cons (pe_glob rfl T.c_InvalidText rfl) pa_nil))) (pa_cons (pe_callB (call_isP tk.ex hz hf hq) (by rfl) T.b_isinstance (by decide +kernel) (pa_cons (pv 0) (pa_cons (pe_glob rfl T.c_TooLarge rfl) pa_nil))) pa_nil))))))
 (pss_cons (ps_set (i := 1) nd rfl (by first | exact Or.inl rfl | exact Or.inr rfl) (pe_op op_addU (pv 1) (pe_lst (pa_cons (pe_callB (call_isP tk.ex hz hf hq) (by rfl) T.b_isinstance (by decide +kernel) (pa_cons (pv 0) (pa_cons (pe_glob rfl T.c_Unlike rfl) pa_nil))) (pa_cons (pe_callB (call_isP tk.ex hz hf hq) (by rfl) T.b_isinstance (by decide +kernel) (pa_cons (pv 0) (pa_cons (pe_glob rfl T.c_NothingToUndo rfl) pa_nil))) pa_nil)))))
 (pss_cons (ps_set (i := 2) nd rfl (by first | exact Or.inl rfl | exact Or.inr rfl) (pe_lst (pa_cons pe_str (pa_cons pe_str (pa_cons pe_str (pa_cons pe_str (pa_cons pe_str (pa_cons pe_str pa_nil))))))))
 (pss_cons (ps_set (i := 2) nd rfl (by first | exact Or.inl rfl | exact Or.inr rfl) (pe_op op_addU (pv 2) (pe_lst (pa_cons pe_str (pa_cons pe_str pa_nil)))))
 (pss_cons (ps_if (PW.pt (pw_or (pt_cmpR (op_neD (unH hr)) (pe_callB (cr_sumHot hot hq) (by rfl) T.b_sum (by decide +kernel) (pa_cons (pe_lcHot (own := [("_law_flag", 3)]) (nm := "_law_flag") (i0 := 3) (te := tCB rInt1 (tCons (tVar 3) tNil)) hot hq nd (pv 1) (blkOk_by (own := [("_law_flag", 3)]) (N := NN__law_term) (by kernel_rfl)) rfl (by exact (by decide : (3 : Nat) < 4)) (fun _ _ _ _ _ => (pg_name (i := 3) nd rfl (by first | exact Or.inl rfl | exact Or.inr rfl))) (fun _ _ _ _ _ => (pe_callTy call_int1 (by rfl) T.b_int (by decide +kernel) (pa_cons (pv 3) pa_nil))) (fun _ _ b _ h q => ⟨_, h, .inr ⟨b, rfl, q⟩⟩) (fun _ _ _ _ _ _ _ _ st q => go_lst st q)) pa_nil)) pe_int (nomark _)) (pw_or1 (pt_not (pt_val (pe_callB (call_isP tk.ex hz hf hq) (by rfl) T.b_isinstance (by decide +kernel) (pa_cons (pv 0) (pa_cons (pe_bltn (v := .ty "ValueError") (by rfl) T.b_ValueError (by decide +kernel) rfl) pa_nil)))))))) (pss_one (ps_ret (pe_tup (pa_cons pe_str (pa_cons pe_str pa_nil))))) pss_nil)
 (pss_one (ps_ret (pe_tup (pa_cons pe_str (pa_cons (pe_ix ix_seq (pv 2) (pe_bm PySem.F.plainAttrs_list PySem.F.slot_list_index PySem.F.type_list_index mt_index (pv 1) (pa_cons pe_bl pa_nil)) (fun _ _ => rfl)) pa_nil)))))))))))
abbrev NN__law_told : List Str := ["_law_deed", "_law_e"]
theorem sc__law_told : FnScope NN__law_told ["_law_deed"] (defScope (top 36)) := ⟨rfl, rfl, rfl, by decide +kernel, rfl, by decide +kernel, by decide +kernel⟩
abbrev NN_law : List Str := ["_law_script", "_law_dice", "_law_board", "_law_some", "_law_made", "_law_many", "_law_one"]
theorem sc_law : FnScope NN_law ["_law_script"] (defScope (top 44)) := ⟨rfl, rfl, rfl, by decide +kernel, rfl, by decide +kernel, by decide +kernel⟩
theorem ok_law {fd : FuncData} (F : FnP K "law" (top 44) (He.fAd K ("law", none)) fd) (T : Txt K w mg) (H__law_rounds : Has P w K mg base "_law_rounds" ["_law_script", "_law_most"] 2 (spRounds K)) (H__law_any_board : Has P w K mg base "_law_any_board" ["_law_dice", "_law_most"] 3 (spDice P_any)) (H__law_all : Has P w K mg base "_law_all" ["_law_board"] 2 (spF (P__law_all K))) (H__law_ticked : Has P w K mg base "_law_ticked" ["_law_board"] 2 (spF (P__law_ticked K))) (H_count_orphans : Has P w K mg base "count_orphans" ["board"] 5 (spF (P_count_orphans K))) (H_exchanged : Has P w K mg base "exchanged" ["board"] 4 (spF (P_exchanged K))) (H_turned : Has P w K mg base "turned" ["board"] 4 (spF (P_turned K))) (H__law_roll : Has P w K mg base "_law_roll" ["_law_dice", "_law_many"] 2 (spDice P_roll)) (H_forerunners : Has P w K mg base "forerunners" ["board"] 5 (spF (P_forerunners K))) (H__law_told : Told P w K mg base 1) (TB : LamX.TabB base mg (He.codeOf K ("law", none)) (He.cT K ("law", none)).2) : FnOk P w K mg base (L2N.CX P w) 8 (He.fAd K ("law", none)) fd ["_law_script"] (spLaw K [((He.cT K ("law", none)).2, LQ)]) := by
  refine law_okC F sc_law (fun vs H Q E h => len_law h) (fun A outer s H vs Q E hr h => ⟨t_law K w [((He.cT K ("law", none)).2, LQ)] E, ?_, body_law T.k_InvalidBoard T.k_TooLarge h⟩)
  have nd := sc_law.nd
  have hmT : ((He.cT K ("law", none)).2, LQ) ∈ ([((He.cT K ("law", none)).2, LQ)] : List (Addr × Str)) := List.mem_singleton.mpr rfl
  exact (pss_cons (ps_for (passes_of rfl) rfl (pi_any (pe_callH H__law_rounds (hr.mono (by omega)) (L2N.passes_call (L2N.takes_of rfl rfl rfl rfl) fun _ _ _ _ z => z) (pa_cons (pv 0) (pa_cons pe_int pa_nil)))) (pg_name (i := 1) nd rfl (by first | exact Or.inl rfl | exact Or.inr rfl)) (pss_cons (ps_set (i := 2) nd rfl (by first | exact Or.inl rfl | exact Or.inr rfl) (pe_callH H__law_any_board (hr.mono (by omega)) (L2N.passes_call (L2N.takes_of rfl rfl rfl rfl) fun _ _ _ _ z => z) (pa_cons (pv 1) (pa_cons pe_int pa_nil))))
 (pss_cons (ps_set (i := 3) nd rfl (by first | exact Or.inl rfl | exact Or.inr rfl) (pe_callH H__law_all (hr.mono (by omega)) (L2N.passes_call (L2N.takes_of rfl rfl rfl rfl) fun _ _ _ _ z => z) (pa_cons (pv 2) pa_nil)))
 (pss_cons (ps_set (i := 4) nd rfl (by first | exact Or.inl rfl | exact Or.inr rfl) (pe_lc (own := [("_law_one", 6)]) (g := (gName 6)) (tt := tYes) rfl nd (pi_any (pv 3)) (blkOk_by (own := [("_law_one", 6)]) (N := NN_law) (by kernel_rfl)) (fun _ _ _ _ _ => (pg_name (i := 6) nd rfl (by first | exact Or.inl rfl | exact Or.inr rfl))) (fun _ _ _ _ _ => pts_nil) (fun _ _ _ _ _ => (pe_callH H__law_ticked (hr.mono (by omega)) passN (pa_cons (pv 6) pa_nil)))))
 (pss_cons (ps_set (i := 5) nd rfl (by first | exact Or.inl rfl | exact Or.inr rfl) (pe_callB call_len (by rfl) T.b_len (by decide +kernel) (pa_cons (pe_lc (own := [("_law_one", 6)]) (g := (gName 6)) (tt := (tTest (tOp (rNinU K) (tVar 6) (tVar 4)))) rfl nd (pi_any (pv 3)) (blkOk_by (own := [("_law_one", 6)]) (N := NN_law) (by kernel_rfl)) (fun _ _ _ _ _ => (pg_name (i := 6) nd rfl (by first | exact Or.inl rfl | exact Or.inr rfl))) (fun _ _ _ _ _ => (pts_one (pt_cmpR (op_ninU hr) (pv 6) (pv 4) (by with_unfolding_all rfl)))) (fun _ _ _ _ _ => (pv 6))) pa_nil)))
 (pss_cons (ps_if (PW.pt (pw_or (pt_cmpR (op_neU hr) (pe_callH H_count_orphans (hr.mono (by omega)) (L2N.passes_call (L2N.takes_of rfl rfl rfl rfl) fun _ _ _ _ z => z) (pa_cons (pv 2) pa_nil)) (pv 5) (nomark _)) (pw_or1 (pt_cmpR (op_neU hr) (pe_callH H_count_orphans (hr.mono (by omega)) (L2N.passes_call (L2N.takes_of rfl rfl rfl rfl) fun _ _ _ _ z => z) (pa_cons (pe_callH H_exchanged (hr.mono (by omega)) (L2N.passes_call (L2N.takes_of rfl rfl rfl rfl) fun _ _ _ _ z => z) (pa_cons (pv 2) pa_nil)) pa_nil)) (pv 5) (nomark _))))) (pss_one (ps_ret pe_bl)) pss_nil)
 (pss_cons (ps_if (pt_cmpR (op_neU hr) (pe_callH H_count_orphans (hr.mono (by omega)) (L2N.passes_call (L2N.takes_of rfl rfl rfl rfl) fun _ _ _ _ z => z) (pa_cons (pe_callH H_turned (hr.mono (by omega)) (L2N.passes_call (L2N.takes_of rfl rfl rfl rfl) fun _ _ _ _ z => z) (pa_cons (pv 2) pa_nil)) pa_nil)) (pv 5) (nomark _)) (pss_one (ps_ret pe_bl)) pss_nil)
 (pss_cons (ps_set (i := 6) nd rfl (by first | exact Or.inl rfl | exact Or.inr rfl) (pe_ix ix_seq (pv 3) (pe_callH H__law_roll (hr.mono (by omega)) (L2N.passes_call (L2N.takes_of rfl rfl rfl rfl) fun _ _ _ _ z => z) (pa_cons (pv 1) (pa_cons (pe_callB call_len (by rfl) T.b_len (by decide +kernel) (pa_cons (pv 3) pa_nil)) pa_nil))) (fun _ _ => rfl)))
 (pss_cons (ps_if (PW.pt (pw_or (pt_cmpR (op_neU hr) (pe_callH H_count_orphans (hr.mono (by omega)) (L2N.passes_call (L2N.takes_of rfl rfl rfl rfl) fun _ _ _ _ z => z) (pa_cons (pv 6) pa_nil)) (pv 5) (nomark _)) (pw_or1 (pt_cmpR (op_neU hr) (pe_cmpR (op_eqU hr) (pe_callH H_forerunners (hr.mono (by omega)) (L2N.passes_call (L2N.takes_of rfl rfl rfl rfl) fun _ _ _ _ z => z) (pa_cons (pv 6) pa_nil)) (pe_tup pa_nil) (nomark _)) (pe_cmpR (op_ninU hr) (pv 6) (pv 4) (by with_unfolding_all rfl)) (nomark _))))) (pss_one (ps_ret pe_bl)) pss_nil)
 (pss_cons (ps_if (pt_cmpR (op_neU hr) (pe_cmpR (op_eqU hr) (pv 5) pe_int (nomark _)) (pe_cmpR (op_eqU hr) (pe_lenSetN rfl (unS hr) (by rfl) T.b_len (by rfl) T.b_set (pa_cons (pv 4) pa_nil)) (pe_callB call_len (by rfl) T.b_len (by decide +kernel) (pa_cons (pv 3) pa_nil)) (nomark _)) (nomark _)) (pss_one (ps_ret pe_bl)) pss_nil)
 (pss_cons (ps_if (PW.pt (pw_or (pt_cmpR (op_neU hr) (pe_callH H_count_orphans (hr.mono (by omega)) (L2N.passes_call (L2N.takes_of rfl rfl rfl rfl) fun _ _ _ _ z => z) (pa_cons (pe_tup (pa_cons pe_str pa_nil)) pa_nil)) pe_int (nomark _)) (pw_or1 (pt_cmpR (op_neU hr) (pe_callH H_count_orphans (hr.mono (by omega)) (L2N.passes_call (L2N.takes_of rfl rfl rfl rfl) fun _ _ _ _ z => z) (pa_cons (pe_tup (pa_cons pe_str pa_nil)) pa_nil)) pe_int (nomark _))))) (pss_one (ps_ret pe_bl)) pss_nil)
 (pss_one (ps_if (pt_cmpR (op_neU hr) (pe_told (k := 5) H__law_told (by rfl) TB rfl hmT rfl (hr.mono (by omega)) (by omega) (LamX.lamS_by (by kernel_rfl)) rfl (fun _ _ _ _ _ => rfl) (fun A outer s H E f c' hr => (pe_callH H_count_orphans (hr.mono (by omega)) (L2N.passes_call (L2N.takes_of rfl rfl rfl rfl) fun _ _ _ _ z => z) (pa_cons (pe_op op_mulU (pe_tup (pa_cons pe_str pa_nil)) pe_int) pa_nil)))) (pe_tup (pa_cons pe_str (pa_cons pe_str pa_nil))) (nomark _)) (pss_one (ps_ret pe_bl)) pss_nil)))))))))))))
 (pss_one (ps_ret pe_bl)))
end
def dd (x : Str) (i : Nat) : He.DefD := ⟨(x, none), x, x, defArgs (top i), defBody (top i), defScope (top i), [], []⟩
def fn : List He.DefD := [dd "_law_cell" 31, dd "_law_rounds" 34, dd "_law_drawn" 32, dd "_law_roll" 33, dd "_law_any_board" 37, dd "_law_free" 38, dd "_law_laid" 41, dd "_law_all" 43, dd "_law_near" 40, dd "_law_ice" 39, dd "_law_ticked" 42, dd "is_row" 12, dd "is_board" 13, dd "need_board" 14, dd "free_cells" 15, dd "need_small" 20, dd "need_few" 27, dd "drawn" 19, dd "all_boards" 21, dd "neighbours" 23, dd "ice_at" 16, dd "next_sign" 24, dd "ticked" 25, dd "count_orphans" 29, dd "exchanged" 17, dd "turned" 18, dd "forerunners" 28, dd "_law_term" 35, dd "_law_told" 36, dd "law" 44]
def fa0 : List He.Fa := [.glo "_law_cell", .glo "_law_rounds", .glo "_law_drawn", .glo "_law_roll", .glo "_law_any_board", .glo "_law_free", .glo "_law_laid", .glo "_law_all", .glo "_law_near", .glo "_law_ice", .glo "_law_ticked", .glo "is_row", .glo "is_board", .glo "need_board", .glo "free_cells", .glo "need_small", .glo "need_few", .glo "drawn", .glo "all_boards", .glo "neighbours", .glo "ice_at", .glo "next_sign", .glo "ticked", .glo "count_orphans", .glo "exchanged", .glo "turned", .glo "forerunners", .glo "_law_term", .glo "_law_told", .glo "law"]
def fa1 : List He.Fa := [.free "ValueError", .free "abs", .free "all", .free "enumerate", .free "int", .free "isinstance", .free "len", .free "max", .free "min", .free "range", .free "set", .free "sorted", .free "str", .free "sum", .free "tuple", .glo "OTHER", .glo "FrostError", .glo "InvalidCell", .glo "InvalidCells", .glo "InvalidText", .glo "InvalidTicks", .glo "NothingToUndo", .glo "Unlike", .glo "InvalidBoard", .exc "InvalidBoard", .glo "TooLarge", .exc "TooLarge"]
def fa : List He.Fa := fa0 ++ fa1
def ts : List He.Tab := [(fun K => He.ga K "OTHER", ["#", ".", "*", "o"])]
def ex (K : PySem.W.Frag) : Bool := He.valsB K (He.ga K "OTHER") othV && ((true && termB K "InvalidBoard") && termB K "TooLarge")
def tf : List He.Defn := [("law", none)]
def names0 : List PySem.Str := ["FrostError", "InvalidBoard", "InvalidCell", "InvalidCells", "InvalidTicks", "InvalidText", "TooLarge", "Unlike", "NothingToUndo", "OTHER", "is_row", "is_board", "need_board", "free_cells", "ice_at", "exchanged", "turned", "drawn", "need_small", "all_boards", "neighbours", "next_sign", "ticked", "need_few", "forerunners", "count_orphans", "_law_cell", "_law_drawn", "_law_roll", "_law_rounds"]
def names1 : List PySem.Str := ["_law_term", "_law_told", "_law_any_board", "_law_free", "_law_ice", "_law_near", "_law_laid", "_law_ticked", "_law_all"]
def names : List PySem.Str := names0 ++ names1
theorem facts {l : PySem.W.OpenLaw} {w : World} {K : PySem.W.Frag} {h : Heap} {mg : Str → Option Value} {f : Addr} (X : K.In h) (G : h.Ns mainGlobals mg) (hfa : mg ("law" : Str) = some (.ref f)) (c : He.SaysX fa fn ts tf ex w h K) :
    LamX.LawAtS l w K (L2N.CX l.prog w) 8 63 "_law_script" mg f h := by
  obtain ⟨fd__law_cell, F__law_cell⟩ := c.t.d.def_ 0 (d := dd "_law_cell" 31) rfl
  have g__law_cell := He.glo_ok X G (c.t.d.fact 0 (f := .glo "_law_cell") rfl)
  obtain ⟨fd__law_rounds, F__law_rounds⟩ := c.t.d.def_ 1 (d := dd "_law_rounds" 34) rfl
  have g__law_rounds := He.glo_ok X G (c.t.d.fact 1 (f := .glo "_law_rounds") rfl)
  obtain ⟨fd__law_drawn, F__law_drawn⟩ := c.t.d.def_ 2 (d := dd "_law_drawn" 32) rfl
  have g__law_drawn := He.glo_ok X G (c.t.d.fact 2 (f := .glo "_law_drawn") rfl)
  obtain ⟨fd__law_roll, F__law_roll⟩ := c.t.d.def_ 3 (d := dd "_law_roll" 33) rfl
  have g__law_roll := He.glo_ok X G (c.t.d.fact 3 (f := .glo "_law_roll") rfl)
  obtain ⟨fd__law_any_board, F__law_any_board⟩ := c.t.d.def_ 4 (d := dd "_law_any_board" 37) rfl
  have g__law_any_board := He.glo_ok X G (c.t.d.fact 4 (f := .glo "_law_any_board") rfl)
  obtain ⟨fd__law_free, F__law_free⟩ := c.t.d.def_ 5 (d := dd "_law_free" 38) rfl
  have g__law_free := He.glo_ok X G (c.t.d.fact 5 (f := .glo "_law_free") rfl)
  obtain ⟨fd__law_laid, F__law_laid⟩ := c.t.d.def_ 6 (d := dd "_law_laid" 41) rfl
  have g__law_laid := He.glo_ok X G (c.t.d.fact 6 (f := .glo "_law_laid") rfl)
  obtain ⟨fd__law_all, F__law_all⟩ := c.t.d.def_ 7 (d := dd "_law_all" 43) rfl
  have g__law_all := He.glo_ok X G (c.t.d.fact 7 (f := .glo "_law_all") rfl)
  obtain ⟨fd__law_near, F__law_near⟩ := c.t.d.def_ 8 (d := dd "_law_near" 40) rfl
  have g__law_near := He.glo_ok X G (c.t.d.fact 8 (f := .glo "_law_near") rfl)
  obtain ⟨fd__law_ice, F__law_ice⟩ := c.t.d.def_ 9 (d := dd "_law_ice" 39) rfl
  have g__law_ice := He.glo_ok X G (c.t.d.fact 9 (f := .glo "_law_ice") rfl)
  obtain ⟨fd__law_ticked, F__law_ticked⟩ := c.t.d.def_ 10 (d := dd "_law_ticked" 42) rfl
  have g__law_ticked := He.glo_ok X G (c.t.d.fact 10 (f := .glo "_law_ticked") rfl)
  obtain ⟨fd_is_row, F_is_row⟩ := c.t.d.def_ 11 (d := dd "is_row" 12) rfl
  have g_is_row := He.glo_ok X G (c.t.d.fact 11 (f := .glo "is_row") rfl)
  obtain ⟨fd_is_board, F_is_board⟩ := c.t.d.def_ 12 (d := dd "is_board" 13) rfl
  have g_is_board := He.glo_ok X G (c.t.d.fact 12 (f := .glo "is_board") rfl)
  obtain ⟨fd_need_board, F_need_board⟩ := c.t.d.def_ 13 (d := dd "need_board" 14) rfl
  have g_need_board := He.glo_ok X G (c.t.d.fact 13 (f := .glo "need_board") rfl)
  obtain ⟨fd_free_cells, F_free_cells⟩ := c.t.d.def_ 14 (d := dd "free_cells" 15) rfl
  have g_free_cells := He.glo_ok X G (c.t.d.fact 14 (f := .glo "free_cells") rfl)
  obtain ⟨fd_need_small, F_need_small⟩ := c.t.d.def_ 15 (d := dd "need_small" 20) rfl
  have g_need_small := He.glo_ok X G (c.t.d.fact 15 (f := .glo "need_small") rfl)
  obtain ⟨fd_need_few, F_need_few⟩ := c.t.d.def_ 16 (d := dd "need_few" 27) rfl
  have g_need_few := He.glo_ok X G (c.t.d.fact 16 (f := .glo "need_few") rfl)
  obtain ⟨fd_drawn, F_drawn⟩ := c.t.d.def_ 17 (d := dd "drawn" 19) rfl
  have g_drawn := He.glo_ok X G (c.t.d.fact 17 (f := .glo "drawn") rfl)
  obtain ⟨fd_all_boards, F_all_boards⟩ := c.t.d.def_ 18 (d := dd "all_boards" 21) rfl
  have g_all_boards := He.glo_ok X G (c.t.d.fact 18 (f := .glo "all_boards") rfl)
  obtain ⟨fd_neighbours, F_neighbours⟩ := c.t.d.def_ 19 (d := dd "neighbours" 23) rfl
  have g_neighbours := He.glo_ok X G (c.t.d.fact 19 (f := .glo "neighbours") rfl)
  obtain ⟨fd_ice_at, F_ice_at⟩ := c.t.d.def_ 20 (d := dd "ice_at" 16) rfl
  have g_ice_at := He.glo_ok X G (c.t.d.fact 20 (f := .glo "ice_at") rfl)
  obtain ⟨fd_next_sign, F_next_sign⟩ := c.t.d.def_ 21 (d := dd "next_sign" 24) rfl
  have g_next_sign := He.glo_ok X G (c.t.d.fact 21 (f := .glo "next_sign") rfl)
  obtain ⟨fd_ticked, F_ticked⟩ := c.t.d.def_ 22 (d := dd "ticked" 25) rfl
  have g_ticked := He.glo_ok X G (c.t.d.fact 22 (f := .glo "ticked") rfl)
  obtain ⟨fd_count_orphans, F_count_orphans⟩ := c.t.d.def_ 23 (d := dd "count_orphans" 29) rfl
  have g_count_orphans := He.glo_ok X G (c.t.d.fact 23 (f := .glo "count_orphans") rfl)
  obtain ⟨fd_exchanged, F_exchanged⟩ := c.t.d.def_ 24 (d := dd "exchanged" 17) rfl
  have g_exchanged := He.glo_ok X G (c.t.d.fact 24 (f := .glo "exchanged") rfl)
  obtain ⟨fd_turned, F_turned⟩ := c.t.d.def_ 25 (d := dd "turned" 18) rfl
  have g_turned := He.glo_ok X G (c.t.d.fact 25 (f := .glo "turned") rfl)
  obtain ⟨fd_forerunners, F_forerunners⟩ := c.t.d.def_ 26 (d := dd "forerunners" 28) rfl
  have g_forerunners := He.glo_ok X G (c.t.d.fact 26 (f := .glo "forerunners") rfl)
  obtain ⟨fd__law_term, F__law_term⟩ := c.t.d.def_ 27 (d := dd "_law_term" 35) rfl
  have g__law_term := He.glo_ok X G (c.t.d.fact 27 (f := .glo "_law_term") rfl)
  obtain ⟨fd__law_told, F__law_told⟩ := c.t.d.def_ 28 (d := dd "_law_told" 36) rfl
  have g__law_told := He.glo_ok X G (c.t.d.fact 28 (f := .glo "_law_told") rfl)
  obtain ⟨fd_law, F_law⟩ := c.t.d.def_ 29 (d := dd "law" 44) rfl
  have g_law := He.glo_ok X G (c.t.d.fact 29 (f := .glo "law") rfl)
  have m_oth := (He.ba c.more).1
  have m0 := (He.ba c.more).2
  have m_TooLarge := (He.ba m0).2
  have m1 := (He.ba m0).1
  have m_InvalidBoard := (He.ba m1).2
  have m2 := (He.ba m1).1
  have T : Txt K w mg := ⟨He.free_ok X G (c.t.d.fact 30 (f := .free "ValueError") rfl), He.free_ok X G (c.t.d.fact 31 (f := .free "abs") rfl), He.free_ok X G (c.t.d.fact 32 (f := .free "all") rfl), He.free_ok X G (c.t.d.fact 33 (f := .free "enumerate") rfl), He.free_ok X G (c.t.d.fact 34 (f := .free "int") rfl), He.free_ok X G (c.t.d.fact 35 (f := .free "isinstance") rfl), He.free_ok X G (c.t.d.fact 36 (f := .free "len") rfl), He.free_ok X G (c.t.d.fact 37 (f := .free "max") rfl), He.free_ok X G (c.t.d.fact 38 (f := .free "min") rfl), He.free_ok X G (c.t.d.fact 39 (f := .free "range") rfl), He.free_ok X G (c.t.d.fact 40 (f := .free "set") rfl), He.free_ok X G (c.t.d.fact 41 (f := .free "sorted") rfl), He.free_ok X G (c.t.d.fact 42 (f := .free "str") rfl), He.free_ok X G (c.t.d.fact 43 (f := .free "sum") rfl), He.free_ok X G (c.t.d.fact 44 (f := .free "tuple") rfl), He.glo_ok X G (c.t.d.fact 45 (f := .glo "OTHER") rfl), other_ok (c.t.tab 0 rfl) m_oth, ⟨He.glo_ok X G (c.t.d.fact 53 (f := .glo "InvalidBoard") rfl), He.exc_ok (c.t.d.fact 54 (f := .exc "InvalidBoard") rfl)⟩, ⟨He.glo_ok X G (c.t.d.fact 55 (f := .glo "TooLarge") rfl), He.exc_ok (c.t.d.fact 56 (f := .exc "TooLarge") rfl)⟩, He.glo_ok X G (c.t.d.fact 46 (f := .glo "FrostError") rfl), He.glo_ok X G (c.t.d.fact 53 (f := .glo "InvalidBoard") rfl), He.glo_ok X G (c.t.d.fact 47 (f := .glo "InvalidCell") rfl), He.glo_ok X G (c.t.d.fact 48 (f := .glo "InvalidCells") rfl), He.glo_ok X G (c.t.d.fact 49 (f := .glo "InvalidText") rfl), He.glo_ok X G (c.t.d.fact 50 (f := .glo "InvalidTicks") rfl), He.glo_ok X G (c.t.d.fact 51 (f := .glo "NothingToUndo") rfl), He.glo_ok X G (c.t.d.fact 55 (f := .glo "TooLarge") rfl), He.glo_ok X G (c.t.d.fact 52 (f := .glo "Unlike") rfl), termB_ok m_InvalidBoard, termB_ok m_TooLarge⟩
  have e := hfa.symm.trans g_law
  cases e
  refine ⟨fd_law, [He.cT K ("law", none)], spLaw K [((He.cT K ("law", none)).2, LQ)], (fun p hp => by rw [List.mem_singleton.mp hp]; exact c.empty ("law", none) List.mem_cons_self), (fun p hp => by rw [List.mem_singleton.mp hp]; exact c.out ("law", none) List.mem_cons_self), (fun p hp => by rw [List.mem_singleton.mp hp]; exact PySem.W.codeHd_of_K X (c.hd ("law", none) List.mem_cons_self)), (fun s u => FunD.bindsA (ps := ["_law_script"]) F_law (fun _ _ _ _ _ _ us hl => match us, hl with | [_], _ => rfl) s [u] rfl), (fun H a ns hl _ hT hS => ⟨a, ns, rfl, hS, by omega, tabsQ_one (hT _ (List.mem_singleton.mpr rfl)), fun _ => rfl⟩), fun base _ _ hTB => ?_⟩
  have H__law_cell : Has l.prog w K mg base "_law_cell" ["_law_script", "_law_k"] 1 (spCellS K) := ⟨_, fd__law_cell, g__law_cell, F__law_cell.kp, F__law_cell.bindsN (fun _ _ _ _ _ _ us hl => match us, hl with | [_, _], _ => rfl), ok__law_cell F__law_cell T ⟩
  have H__law_rounds : Has l.prog w K mg base "_law_rounds" ["_law_script", "_law_most"] 2 (spRounds K) := ⟨_, fd__law_rounds, g__law_rounds, F__law_rounds.kp, F__law_rounds.bindsN (fun _ _ _ _ _ _ us hl => match us, hl with | [_, _], _ => rfl), ok__law_rounds F__law_rounds T H__law_cell⟩
  have H__law_drawn : Has l.prog w K mg base "_law_drawn" ["_law_cell_here", "_law_k"] 1 (spF (P__law_drawn K)) := ⟨_, fd__law_drawn, g__law_drawn, F__law_drawn.kp, F__law_drawn.bindsN (fun _ _ _ _ _ _ us hl => match us, hl with | [_, _], _ => rfl), ok__law_drawn F__law_drawn T ⟩
  have H__law_roll : Has l.prog w K mg base "_law_roll" ["_law_dice", "_law_many"] 2 (spDice P_roll) := ⟨_, fd__law_roll, g__law_roll, F__law_roll.kp, F__law_roll.bindsN (fun _ _ _ _ _ _ us hl => match us, hl with | [_, _], _ => rfl), ok__law_roll F__law_roll T H__law_drawn⟩
  have H__law_any_board : Has l.prog w K mg base "_law_any_board" ["_law_dice", "_law_most"] 3 (spDice P_any) := ⟨_, fd__law_any_board, g__law_any_board, F__law_any_board.kp, F__law_any_board.bindsN (fun _ _ _ _ _ _ us hl => match us, hl with | [_, _], _ => rfl), ok__law_any_board F__law_any_board T H__law_roll⟩
  have H__law_free : Has l.prog w K mg base "_law_free" ["_law_board"] 1 (spF (P__law_free K)) := ⟨_, fd__law_free, g__law_free, F__law_free.kp, F__law_free.bindsN (fun _ _ _ _ _ _ us hl => match us, hl with | [_], _ => rfl), ok__law_free F__law_free T ⟩
  have H__law_laid : Has l.prog w K mg base "_law_laid" ["_law_board", "_law_some"] 1 (spF (P__law_laid K)) := ⟨_, fd__law_laid, g__law_laid, F__law_laid.kp, F__law_laid.bindsN (fun _ _ _ _ _ _ us hl => match us, hl with | [_, _], _ => rfl), ok__law_laid F__law_laid T ⟩
  have H__law_all : Has l.prog w K mg base "_law_all" ["_law_board"] 2 (spF (P__law_all K)) := ⟨_, fd__law_all, g__law_all, F__law_all.kp, F__law_all.bindsN (fun _ _ _ _ _ _ us hl => match us, hl with | [_], _ => rfl), ok__law_all F__law_all T H__law_free H__law_laid⟩
  have H__law_near : Has l.prog w K mg base "_law_near" ["_law_board", "_law_cell_here"] 1 (spF (P__law_near K)) := ⟨_, fd__law_near, g__law_near, F__law_near.kp, F__law_near.bindsN (fun _ _ _ _ _ _ us hl => match us, hl with | [_, _], _ => rfl), ok__law_near F__law_near T ⟩
  have H__law_ice : Has l.prog w K mg base "_law_ice" ["_law_board", "_law_cell_here"] 1 (spF (P__law_ice K)) := ⟨_, fd__law_ice, g__law_ice, F__law_ice.kp, F__law_ice.bindsN (fun _ _ _ _ _ _ us hl => match us, hl with | [_, _], _ => rfl), ok__law_ice F__law_ice T ⟩
  have H__law_ticked : Has l.prog w K mg base "_law_ticked" ["_law_board"] 2 (spF (P__law_ticked K)) := ⟨_, fd__law_ticked, g__law_ticked, F__law_ticked.kp, F__law_ticked.bindsN (fun _ _ _ _ _ _ us hl => match us, hl with | [_], _ => rfl), ok__law_ticked F__law_ticked T H__law_free H__law_near H__law_ice H__law_laid⟩
  have H_is_row : Has l.prog w K mg base "is_row" ["value", "size"] 1 (spF (P_is_row K)) := ⟨_, fd_is_row, g_is_row, F_is_row.kp, F_is_row.bindsN (fun _ _ _ _ _ _ us hl => match us, hl with | [_, _], _ => rfl), ok_is_row F_is_row T ⟩
  have H_is_board : Has l.prog w K mg base "is_board" ["value"] 2 (spF (P_is_board K)) := ⟨_, fd_is_board, g_is_board, F_is_board.kp, F_is_board.bindsN (fun _ _ _ _ _ _ us hl => match us, hl with | [_], _ => rfl), ok_is_board F_is_board T H_is_row⟩
  have H_need_board : Has l.prog w K mg base "need_board" ["board"] 3 (spF (P_need_board K)) := ⟨_, fd_need_board, g_need_board, F_need_board.kp, F_need_board.bindsN (fun _ _ _ _ _ _ us hl => match us, hl with | [_], _ => rfl), ok_need_board F_need_board T H_is_board⟩
  have H_free_cells : Has l.prog w K mg base "free_cells" ["board"] 1 (spF (P_free_cells K)) := ⟨_, fd_free_cells, g_free_cells, F_free_cells.kp, F_free_cells.bindsN (fun _ _ _ _ _ _ us hl => match us, hl with | [_], _ => rfl), ok_free_cells F_free_cells T ⟩
  have H_need_small : Has l.prog w K mg base "need_small" ["board"] 2 (spF (P_need_small K)) := ⟨_, fd_need_small, g_need_small, F_need_small.kp, F_need_small.bindsN (fun _ _ _ _ _ _ us hl => match us, hl with | [_], _ => rfl), ok_need_small F_need_small T H_free_cells⟩
  have H_need_few : Has l.prog w K mg base "need_few" ["board"] 4 (spF (P_need_few K)) := ⟨_, fd_need_few, g_need_few, F_need_few.kp, F_need_few.bindsN (fun _ _ _ _ _ _ us hl => match us, hl with | [_], _ => rfl), ok_need_few F_need_few T H_need_board H_need_small⟩
  have H_drawn : Has l.prog w K mg base "drawn" ["board", "some"] 1 (spF (P_drawn K)) := ⟨_, fd_drawn, g_drawn, F_drawn.kp, F_drawn.bindsN (fun _ _ _ _ _ _ us hl => match us, hl with | [_, _], _ => rfl), ok_drawn F_drawn T ⟩
  have H_all_boards : Has l.prog w K mg base "all_boards" ["board"] 2 (spF (P_all_boards K)) := ⟨_, fd_all_boards, g_all_boards, F_all_boards.kp, F_all_boards.bindsN (fun _ _ _ _ _ _ us hl => match us, hl with | [_], _ => rfl), ok_all_boards F_all_boards T H_free_cells H_drawn⟩
  have H_neighbours : Has l.prog w K mg base "neighbours" ["board", "cell"] 1 (spF (P_neighbours K)) := ⟨_, fd_neighbours, g_neighbours, F_neighbours.kp, F_neighbours.bindsN (fun _ _ _ _ _ _ us hl => match us, hl with | [_, _], _ => rfl), ok_neighbours F_neighbours T ⟩
  have H_ice_at : Has l.prog w K mg base "ice_at" ["board", "cell"] 1 (spF (P_ice_at K)) := ⟨_, fd_ice_at, g_ice_at, F_ice_at.kp, F_ice_at.bindsN (fun _ _ _ _ _ _ us hl => match us, hl with | [_, _], _ => rfl), ok_ice_at F_ice_at T ⟩
  have H_next_sign : Has l.prog w K mg base "next_sign" ["board", "row", "column"] 2 (spF (P_next_sign K)) := ⟨_, fd_next_sign, g_next_sign, F_next_sign.kp, F_next_sign.bindsN (fun _ _ _ _ _ _ us hl => match us, hl with | [_, _, _], _ => rfl), ok_next_sign F_next_sign T H_neighbours H_ice_at⟩
  have H_ticked : Has l.prog w K mg base "ticked" ["board"] 3 (spF (P_ticked K)) := ⟨_, fd_ticked, g_ticked, F_ticked.kp, F_ticked.bindsN (fun _ _ _ _ _ _ us hl => match us, hl with | [_], _ => rfl), ok_ticked F_ticked T H_next_sign⟩
  have H_count_orphans : Has l.prog w K mg base "count_orphans" ["board"] 5 (spF (P_count_orphans K)) := ⟨_, fd_count_orphans, g_count_orphans, F_count_orphans.kp, F_count_orphans.bindsN (fun _ _ _ _ _ _ us hl => match us, hl with | [_], _ => rfl), ok_count_orphans F_count_orphans T H_need_few H_all_boards H_ticked⟩
  have H_exchanged : Has l.prog w K mg base "exchanged" ["board"] 4 (spF (P_exchanged K)) := ⟨_, fd_exchanged, g_exchanged, F_exchanged.kp, F_exchanged.bindsN (fun _ _ _ _ _ _ us hl => match us, hl with | [_], _ => rfl), ok_exchanged F_exchanged T H_need_board⟩
  have H_turned : Has l.prog w K mg base "turned" ["board"] 4 (spF (P_turned K)) := ⟨_, fd_turned, g_turned, F_turned.kp, F_turned.bindsN (fun _ _ _ _ _ _ us hl => match us, hl with | [_], _ => rfl), ok_turned F_turned T H_need_board⟩
  have H_forerunners : Has l.prog w K mg base "forerunners" ["board"] 5 (spF (P_forerunners K)) := ⟨_, fd_forerunners, g_forerunners, F_forerunners.kp, F_forerunners.bindsN (fun _ _ _ _ _ _ us hl => match us, hl with | [_], _ => rfl), ok_forerunners F_forerunners T H_need_few H_all_boards H_ticked⟩
  have H__law_told : Told l.prog w K mg base 1 := ⟨_, fd__law_told, top 36, g__law_told, F__law_told, sc__law_told, F__law_told.bindsN (fun _ _ _ _ _ _ us hl => match us, hl with | [_], _ => rfl), ⟨_, _, _, _, _, _, _, _, _, _, rfl⟩, rfl, rfl, rfl, rfl, T.c_FrostError, _, fd__law_term, g__law_term, F__law_term.kp, F__law_term.bindsN (fun _ _ _ _ _ _ us hl => match us, hl with | [_], _ => rfl), ok__law_term F__law_term T⟩
  exact ok_law F_law T H__law_rounds H__law_any_board H__law_all H__law_ticked H_count_orphans H_exchanged H_turned H__law_roll H_forerunners H__law_told (hTB _ (List.mem_singleton.mpr rfl))
end Lw
end Fb
open PySem PySem.W PySem.Calls PyProof.Rows in
set_option maxRecDepth 100000 in
set_option maxHeartbeats 0 in
theorem PySem.Challenge.cw_frostboard_k08_whole_orphans_holds : PySem.Challenge.rw_frostboard_k08_whole_orphans.Holds := by
  w_on; o_law; k_head; (case hw => w_witness2)
  k_fill
  refine LamX.walk_ofTsE (l := PySem.Challenge.rw_frostboard_k08_whole_orphans) (n := 63) (k := 8) (x := "_law_script") (CX := fun w => L2N.CX (PySem.Challenge.rw_frostboard_k08_whole_orphans).prog w) rfl (by decide) rfl ⟨rfl, by decide, by decide⟩ ?F (fun w H s e s' z => by
    obtain ⟨_, _, _, _, _, _, _, _, _, _, _, _, q⟩ := z
    exact q.elim)
  intro w mg fa h Y G hmg
  have KX := PySem.W.km_in_of Y
  exact ⟨_, KX, Fb.Lw.facts KX G hmg ⟨show He.obsT Fb.Lw.fa Fb.Lw.fn Fb.Lw.ts _ = He.valT Fb.Lw.fn Fb.Lw.ts w from by kernel_rfl, by kernel_rfl, (fun p hp => by cases (List.mem_singleton.mp hp); kernel_rfl), (fun p hp => by cases (List.mem_singleton.mp hp); kernel_rfl), (fun p hp => by cases (List.mem_singleton.mp hp); exact PySem.W.km_tabs_of Y _ (List.mem_singleton.mpr (by kernel_rfl)))⟩⟩


