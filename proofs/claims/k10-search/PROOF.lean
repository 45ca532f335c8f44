import PyProof.Rows.All
import Wide.All
import OpenK.AllK
import Wide.FinOn
import HandS.ForMost
import HandS.Exc
import HandS.TryOnly
import HandS.ExcOwn
import HandS.WordsExc
import HandS.Evl
import HandS.IsInst
import HandS.Deep
import HandS.Conv
import HandS.HotCalls
import HandS.ExcIs
import PySem.Challenge.RW_eggfloors_k10_whole_search
set_option Elab.async false
set_option linter.all false
set_option maxRecDepth 100000
set_option maxHeartbeats 4000000
/-! Values as data, and the defs of a program as functions of data. -/
namespace Eg
open PySem PySem.Spec PyProof.Rows L2
open Evl (Ex fresh_back ex_l ex_t ex_rd)

/-! ### data under a growing heap -/
mutual
theorem dpM {K : PySem.W.Frag} {H H' : Hp} (e : Ex H H') : ∀ {v : V} {d : PyData}, Dp K H v d → Dp K H' v d
  | _, _, .non => .non
  | _, _, .bl b => .bl b
  | _, _, .int i => .int i
  | _, _, .str x => .str x
  | _, _, .lst hs ha => .lst (ex_l e hs) (dpsM e ha)
  | _, _, .tup hs ha => .tup (ex_t e hs) (dpsM e ha)
theorem dpsM {K : PySem.W.Frag} {H H' : Hp} (e : Ex H H') : ∀ {vs : List V} {ds : List PyData}, DpAll K H vs ds → DpAll K H' vs ds
  | _, _, .nil => .nil
  | _, _, .cons h t => .cons (dpM e h) (dpsM e t)
end
theorem dps_len {K : PySem.W.Frag} {H : Hp} : ∀ {vs : List V} {ds : List PyData}, DpAll K H vs ds → vs.length = ds.length
  | _, _, .nil => rfl
  | _, _, .cons _ t => congrArg Nat.succ (dps_len t)
theorem dps_get {K : PySem.W.Frag} {H : Hp} : ∀ {vs : List V} {ds : List PyData}, DpAll K H vs ds → ∀ {i : Nat} {d : PyData}, ds[i]? = some d → ∃ v, vs[i]? = some v ∧ Dp K H v d
  | _, _, .nil, i, d, h => by simp at h
  | _, _, .cons h t, 0, d, e => by
    simp at e
    subst e
    exact ⟨_, rfl, h⟩
  | _, _, .cons h t, i + 1, d, e => by
    obtain ⟨v, e1, e2⟩ := dps_get t (i := i) (d := d) (by simpa using e)
    exact ⟨v, by simpa using e1, e2⟩
theorem dps_app {K : PySem.W.Frag} {H : Hp} : ∀ {vs ws : List V} {ds es : List PyData}, DpAll K H vs ds → DpAll K H ws es → DpAll K H (vs ++ ws) (ds ++ es)
  | _, _, _, _, .nil, s => s
  | _, _, _, _, .cons h t, s => .cons h (dps_app t s)
theorem dps_flat {K : PySem.W.Frag} {H : Hp} {vs : List V} {ds : List PyData} (h : DpAll K H vs ds) : ∀ n : Nat, DpAll K H (List.replicate n vs).flatten (List.replicate n ds).flatten
  | 0 => .nil
  | n + 1 => by
    rw [List.replicate_succ, List.replicate_succ, List.flatten_cons, List.flatten_cons]
    exact dps_app h (dps_flat h n)
theorem dps_ints {K : PySem.W.Frag} {H : Hp} : ∀ {vs : List V} {ns : List Int}, DpAll K H vs (ns.map PyData.int) → vs = ns.map V.int
  | _, [], h => by cases h; rfl
  | _, n :: ns, h => by
    cases h with
    | cons h1 h2 =>
      cases h1
      rw [dps_ints h2] <;> rfl
theorem dps_of_ints {K : PySem.W.Frag} {H : Hp} : ∀ (ns : List Int), DpAll K H (ns.map V.int) (ns.map PyData.int)
  | [] => .nil
  | n :: ns => .cons (.int n) (dps_of_ints ns)
theorem dps_at {K : PySem.W.Frag} {H : Hp} {vs : List V} {ds : List PyData} (h : DpAll K H vs ds) {i : Int} {d : PyData} (e : atI ds i = some d) : ∃ v, atI vs i = some v ∧ Dp K H v d := by
  unfold atI at e ⊢
  rw [dps_len h]
  cases q : ixN ds.length i with
  | none => rw [q] at e; cases e
  | some j =>
    rw [q] at e
    exact dps_get h (show ds[j]? = some d from e)

/-! ### what a step of the walk leaves: B the heap of the data, H the whole -/
structure Step (B H B' H' : Hp) : Prop where
  d : Ex B B'
  h : Ex H H'
  dh : Ex B' H'
  fr : ∀ a, H a ≠ none → B a = none → B' a = none
theorem Step.refl {B H : Hp} (e : Ex B H) : Step B H B H := ⟨Ex.refl B, Ex.refl H, e, fun _ _ h => h⟩
theorem ex_some {H H' : Hp} (e : Ex H H') {a : Addr} (h : H a ≠ none) : H' a ≠ none := by
  cases q : H a with
  | none => exact absurd q h
  | some o => rw [e a o q]; exact fun z => nomatch z
theorem Step.trans {B H B1 H1 B2 H2 : Hp} (s : Step B H B1 H1) (t : Step B1 H1 B2 H2) : Step B H B2 H2 :=
  ⟨s.d.trans t.d, s.h.trans t.h, t.dh, fun a h n => t.fr a (ex_some s.h h) (s.fr a h n)⟩
theorem none_of {B H : Hp} (e : Ex B H) {p : Addr} (h : H p = none) : B p = none := fresh_back e h
/-- a new thing of the data -/
theorem Step.dat {B H : Hp} (e : Ex B H) {p : Addr} (h : H p = none) (o : HO) : Step B H (upd B p o) (upd H p o) := by
  refine ⟨Ex.new (none_of e h), Ex.new h, fun a u q => ?_, fun a ha hb => ?_⟩
  · by_cases z : a = p
    · subst z; rw [upd_same] at q ⊢; exact q
    · rw [upd_ne z] at q ⊢; exact e a u q
  · rw [upd_ne (fun z => ha (by rw [z]; exact h))]
    exact hb
/-- a new list of one's own -/
theorem Step.own {B H : Hp} (e : Ex B H) {p : Addr} (h : H p = none) (o : HO) : Step B H B (upd H p o) :=
  ⟨Ex.refl B, Ex.new h, fun a u q => by rw [upd_ne (ne_of_none (e a u q) h)]; exact e a u q, fun _ _ n => n⟩
/-- it becomes data -/
theorem Step.frz {B H B1 H1 : Hp} (s : Step B H B1 H1) {p : Addr} {o : HO} (h0 : H p = none) (hb : B1 p = none) (h1 : H1 p = some o) : Step B H (upd B1 p o) H1 := by
  refine ⟨s.d.trans (Ex.new hb), s.h, fun a u q => ?_, fun a ha hn => ?_⟩
  · by_cases z : a = p
    · subst z; rw [upd_same] at q; rw [h1]; exact q
    · rw [upd_ne z] at q; exact s.dh a u q
  · rw [upd_ne (fun z => ha (by rw [z]; exact h0))]
    exact s.fr a ha hn

/-- what an expression comes to: data; a new list of one's own; a list of one's own that a name holds; an error of the class at C -/
inductive Rs where
  | ok (d : PyData)
  | new (ds : List PyData)
  | ali (ds : List PyData)
  | exc (C : Addr)
/-- v is r, in the heaps B, H1; H the heap at the start -/
def Vok (K : PySem.W.Frag) (H B H1 : Hp) (v : V) : Rs → Prop
  | .ok d => Dp K B v d
  | .new ds => ∃ a xs, v = .ref a ∧ H a = none ∧ B a = none ∧ H1 a = some (.lst xs) ∧ DpAll K B xs ds
  | .ali ds => ∃ a xs, v = .ref a ∧ H1 a = some (.lst xs) ∧ DpAll K B xs ds
  | .exc _ => False
theorem Vok.mono {K : PySem.W.Frag} {H B H1 B' H' : Hp} {v : V} (s : Step B H1 B' H') : ∀ {r : Rs}, Vok K H B H1 v r → Vok K H B' H' v r
  | .ok _, h => dpM s.d h
  | .new _, ⟨a, xs, e, h0, hb, h1, hd⟩ => ⟨a, xs, e, h0, s.fr a (by rw [h1]; exact fun z => nomatch z) hb, s.h a _ h1, dpsM s.d hd⟩
  | .ali _, ⟨a, xs, e, h1, hd⟩ => ⟨a, xs, e, s.h a _ h1, dpsM s.d hd⟩
theorem Vok.back {K : PySem.W.Frag} {H0 H B H1 : Hp} {v : V} (e : Ex H0 H) : ∀ {r : Rs}, Vok K H B H1 v r → Vok K H0 B H1 v r
  | .ok _, h => h
  | .new _, ⟨a, xs, e1, h0, r⟩ => ⟨a, xs, e1, fresh_back e h0, r⟩
  | .ali _, h => h

/-! ### the names of a frame -/
/-- things of one's own that change: where they lie, what is so of them -/
structure Iv where
  fp : List Addr
  ro : Bool
  I : Hp → Hp → Prop
  stab : ∀ B H B' H' : Hp, Ex B B' → (∀ a ∈ fp, H' a = H a) → I B H → I B' H'
inductive Cl where
  | dat (d : PyData)
  | own (ds : List PyData)
  | fix (v : V)
  | inv (v : V) (iv : Iv)
abbrev Rho := List (Option Cl)
structure Sl (K : PySem.W.Frag) (H0 B H : Hp) (σ : L2.St) (ρ : Rho) : Prop where
  len : σ.length = ρ.length
  dat : ∀ (i : Nat) (d : PyData), ρ[i]? = some (some (.dat d)) → ∃ v, σ[i]? = some (some v) ∧ Dp K B v d
  own : ∀ (i : Nat) (ds : List PyData), ρ[i]? = some (some (.own ds)) → ∃ a xs, σ[i]? = some (some (.ref a)) ∧ H0 a = none ∧ B a = none ∧ H a = some (.lst xs) ∧ DpAll K B xs ds
  sep : ∀ (i j : Nat) (di dj : List PyData), i ≠ j → ρ[i]? = some (some (.own di)) → ρ[j]? = some (some (.own dj)) → σ[i]? ≠ σ[j]?
  fix : ∀ (i : Nat) (v : V), ρ[i]? = some (some (.fix v)) → σ[i]? = some (some v)
  inv : ∀ (i : Nat) (v : V) (iv : Iv), ρ[i]? = some (some (.inv v iv)) → σ[i]? = some (some v) ∧ iv.I B H ∧ ∀ a ∈ iv.fp, (iv.ro = false → H0 a = none) ∧ B a = none ∧ H a ≠ none
  isep : ∀ (i j : Nat) (v : V) (iv : Iv) (ds : List PyData) (b : Addr), ρ[i]? = some (some (.inv v iv)) → ρ[j]? = some (some (.own ds)) → σ[j]? = some (some (.ref b)) → b ∉ iv.fp
  iisep : ∀ (i j : Nat) (v v' : V) (iv iv' : Iv), i ≠ j → ρ[i]? = some (some (.inv v iv)) → ρ[j]? = some (some (.inv v' iv')) → ∀ a ∈ iv.fp, a ∉ iv'.fp
theorem Sl.mono {K : PySem.W.Frag} {H0 B H B' H' : Hp} {σ : L2.St} {ρ : Rho} (s : Sl K H0 B H σ ρ) (t : Step B H B' H') : Sl K H0 B' H' σ ρ where
  len := s.len
  dat := fun i d h => by
    obtain ⟨v, e, q⟩ := s.dat i d h
    exact ⟨v, e, dpM t.d q⟩
  own := fun i ds h => by
    obtain ⟨a, xs, e, h0, hb, h1, q⟩ := s.own i ds h
    exact ⟨a, xs, e, h0, t.fr a (by rw [h1]; exact fun z => nomatch z) hb, t.h a _ h1, dpsM t.d q⟩
  sep := s.sep
  fix := s.fix
  inv := fun i v iv h => by
    obtain ⟨e, f, g⟩ := s.inv i v iv h
    have same : ∀ a ∈ iv.fp, H' a = H a := fun a ha => by
      cases q : H a with
      | none => exact absurd q (g a ha).2.2
      | some o => exact t.h a o q
    exact ⟨e, iv.stab _ _ _ _ t.d same f, fun a ha => ⟨(g a ha).1, t.fr a (g a ha).2.2 (g a ha).2.1, by rw [same a ha]; exact (g a ha).2.2⟩⟩
  isep := s.isep
  iisep := s.iisep
theorem set_get {α : Type} {l : List (Option α)} {i j : Nat} {x : Option α} {y : α} (h : (l.set i x)[j]? = some (some y)) : (i = j ∧ x = some y) ∨ (i ≠ j ∧ l[j]? = some (some y)) := by
  by_cases e : i = j
  · subst e
    by_cases hi : i < l.length
    · rw [List.getElem?_set_self hi] at h
      exact .inl ⟨rfl, Option.some.inj h⟩
    · rw [List.getElem?_eq_none (by simpa using hi)] at h
      cases h
  · rw [List.getElem?_set_ne e] at h
    exact .inr ⟨e, h⟩
theorem lt_of_get {α : Type} {l : List (Option α)} {j : Nat} {y : Option α} (h : l[j]? = some y) : j < l.length := by
  obtain ⟨q, _⟩ := List.getElem?_eq_some_iff.mp h
  exact q
theorem set_lt {α : Type} {l : List (Option α)} {i j : Nat} {x : Option α} {y : α} (h : (l.set i x)[j]? = some (some y)) : j < l.length := by
  have q := lt_of_get h
  simpa using q
/-- a name is given data -/
theorem Sl.setD {K : PySem.W.Frag} {H0 B H : Hp} {σ : L2.St} {ρ : Rho} (s : Sl K H0 B H σ ρ) (i : Nat) {v : V} {d : PyData} (hv : Dp K B v d) : Sl K H0 B H (σ.set i (some v)) (ρ.set i (some (.dat d))) where
  len := by rw [List.length_set, List.length_set, s.len]
  dat := fun j e h => by
    rcases set_get h with ⟨rfl, q⟩ | ⟨n, q⟩
    · cases q
      have hl := set_lt h
      rw [← s.len] at hl
      exact ⟨v, List.getElem?_set_self hl, hv⟩
    · rw [List.getElem?_set_ne n]
      exact s.dat j e q
  own := fun j ds h => by
    rcases set_get h with ⟨rfl, q⟩ | ⟨n, q⟩
    · cases q
    · rw [List.getElem?_set_ne n]
      exact s.own j ds q
  sep := fun j k dj dk hjk hj hk => by
    rcases set_get hj with ⟨rfl, q⟩ | ⟨n, q⟩
    · cases q
    · rcases set_get hk with ⟨rfl, q'⟩ | ⟨n', q'⟩
      · cases q'
      · rw [List.getElem?_set_ne n, List.getElem?_set_ne n']
        exact s.sep j k dj dk hjk q q'
  fix := fun j u h => by
    rcases set_get h with ⟨rfl, q⟩ | ⟨n, q⟩
    · cases q
    · rw [List.getElem?_set_ne n]
      exact s.fix j u q
  inv := fun j u iv h => by
    rcases set_get h with ⟨rfl, q⟩ | ⟨n, q⟩
    · cases q
    · rw [List.getElem?_set_ne n]
      exact s.inv j u iv q
  isep := fun j k u iv es b hj hk hb => by
    rcases set_get hj with ⟨rfl, q⟩ | ⟨n, q⟩
    · cases q
    · rcases set_get hk with ⟨rfl, q'⟩ | ⟨n', q'⟩
      · cases q'
      · rw [List.getElem?_set_ne n'] at hb
        exact s.isep j k u iv es b q q' hb
  iisep := fun j k u u' iv iv' hjk hj hk => by
    rcases set_get hj with ⟨rfl, q⟩ | ⟨n, q⟩
    · cases q
    · rcases set_get hk with ⟨rfl, q'⟩ | ⟨n', q'⟩
      · cases q'
      · exact s.iisep j k u u' iv iv' hjk q q'
/-- a name is given a list of its own -/
theorem Sl.setN {K : PySem.W.Frag} {H0 B H : Hp} {σ : L2.St} {ρ : Rho} (s : Sl K H0 B H σ ρ) (i : Nat) {a : Addr} {xs : List V} {ds : List PyData} (h0 : H0 a = none) (hb : B a = none) (h1 : H a = some (.lst xs)) (hd : DpAll K B xs ds)
    (nw : ∀ (j : Nat) (dj : List PyData), ρ[j]? = some (some (.own dj)) → σ[j]? ≠ some (some (.ref a))) (nwI : ∀ (j : Nat) (u : V) (iv : Iv), ρ[j]? = some (some (.inv u iv)) → a ∉ iv.fp) : Sl K H0 B H (σ.set i (some (.ref a))) (ρ.set i (some (.own ds))) where
  len := by rw [List.length_set, List.length_set, s.len]
  dat := fun j e h => by
    rcases set_get h with ⟨rfl, q⟩ | ⟨n, q⟩
    · cases q
    · rw [List.getElem?_set_ne n]
      exact s.dat j e q
  own := fun j es h => by
    rcases set_get h with ⟨rfl, q⟩ | ⟨n, q⟩
    · cases q
      have hl := set_lt h
      rw [← s.len] at hl
      exact ⟨a, xs, List.getElem?_set_self hl, h0, hb, h1, hd⟩
    · rw [List.getElem?_set_ne n]
      exact s.own j es q
  sep := fun j k dj dk hjk hj hk => by
    rcases set_get hj with ⟨rfl, q⟩ | ⟨n, q⟩
    · rcases set_get hk with ⟨rfl, q'⟩ | ⟨n', q'⟩
      · exact absurd rfl hjk
      · have hl := set_lt hj
        rw [← s.len] at hl
        rw [List.getElem?_set_self hl, List.getElem?_set_ne n']
        exact fun z => nw k dk q' z.symm
    · rcases set_get hk with ⟨rfl, q'⟩ | ⟨n', q'⟩
      · have hl := set_lt hk
        rw [← s.len] at hl
        rw [List.getElem?_set_self hl, List.getElem?_set_ne n]
        exact nw j dj q
      · rw [List.getElem?_set_ne n, List.getElem?_set_ne n']
        exact s.sep j k dj dk hjk q q'
  fix := fun j u h => by
    rcases set_get h with ⟨rfl, q⟩ | ⟨n, q⟩
    · cases q
    · rw [List.getElem?_set_ne n]
      exact s.fix j u q
  inv := fun j u iv h => by
    rcases set_get h with ⟨rfl, q⟩ | ⟨n, q⟩
    · cases q
    · rw [List.getElem?_set_ne n]
      exact s.inv j u iv q
  isep := fun j k u iv es b hj hk hb => by
    rcases set_get hj with ⟨rfl, q⟩ | ⟨n, q⟩
    · cases q
    · rcases set_get hk with ⟨rfl, q'⟩ | ⟨n', q'⟩
      · have hl := set_lt hk
        rw [← s.len] at hl
        rw [List.getElem?_set_self hl] at hb
        cases hb
        exact nwI j u iv q
      · rw [List.getElem?_set_ne n'] at hb
        exact s.isep j k u iv es b q q' hb
  iisep := fun j k u u' iv iv' hjk hj hk => by
    rcases set_get hj with ⟨rfl, q⟩ | ⟨n, q⟩
    · cases q
    · rcases set_get hk with ⟨rfl, q'⟩ | ⟨n', q'⟩
      · cases q'
      · exact s.iisep j k u u' iv iv' hjk q q'
/-- a name is forgotten -/
theorem Sl.forget {K : PySem.W.Frag} {H0 B H : Hp} {σ : L2.St} {ρ : Rho} (s : Sl K H0 B H σ ρ) (i : Nat) {x : Option V} : Sl K H0 B H (σ.set i x) (ρ.set i none) where
  len := by rw [List.length_set, List.length_set, s.len]
  dat := fun j e h => by
    rcases set_get h with ⟨rfl, q⟩ | ⟨n, q⟩
    · cases q
    · rw [List.getElem?_set_ne n]
      exact s.dat j e q
  own := fun j ds h => by
    rcases set_get h with ⟨rfl, q⟩ | ⟨n, q⟩
    · cases q
    · rw [List.getElem?_set_ne n]
      exact s.own j ds q
  sep := fun j k dj dk hjk hj hk => by
    rcases set_get hj with ⟨rfl, q⟩ | ⟨n, q⟩
    · cases q
    · rcases set_get hk with ⟨rfl, q'⟩ | ⟨n', q'⟩
      · cases q'
      · rw [List.getElem?_set_ne n, List.getElem?_set_ne n']
        exact s.sep j k dj dk hjk q q'
  fix := fun j u h => by
    rcases set_get h with ⟨rfl, q⟩ | ⟨n, q⟩
    · cases q
    · rw [List.getElem?_set_ne n]
      exact s.fix j u q
  inv := fun j u iv h => by
    rcases set_get h with ⟨rfl, q⟩ | ⟨n, q⟩
    · cases q
    · rw [List.getElem?_set_ne n]
      exact s.inv j u iv q
  isep := fun j k u iv es b hj hk hb => by
    rcases set_get hj with ⟨rfl, q⟩ | ⟨n, q⟩
    · cases q
    · rcases set_get hk with ⟨rfl, q'⟩ | ⟨n', q'⟩
      · cases q'
      · rw [List.getElem?_set_ne n'] at hb
        exact s.isep j k u iv es b q q' hb
  iisep := fun j k u u' iv iv' hjk hj hk => by
    rcases set_get hj with ⟨rfl, q⟩ | ⟨n, q⟩
    · cases q
    · rcases set_get hk with ⟨rfl, q'⟩ | ⟨n', q'⟩
      · cases q'
      · exact s.iisep j k u u' iv iv' hjk q q'
def wipeR (ρ : Rho) : List Nat → Rho
  | [] => ρ
  | v :: vs => (wipeR ρ vs).set v none
theorem Sl.wipe {K : PySem.W.Frag} {H0 B H : Hp} {σ : L2.St} {ρ : Rho} (s : Sl K H0 B H σ ρ) : ∀ vs : List Nat, Sl K H0 B H (L2.wipe σ vs) (wipeR ρ vs)
  | [] => s
  | v :: vs => (Sl.wipe s vs).forget v
/-- the own list in slot i becomes data -/
theorem Sl.freeze {K : PySem.W.Frag} {H0 B H : Hp} {σ : L2.St} {ρ : Rho} (s : Sl K H0 B H σ ρ) {i : Nat} {ds : List PyData} (hi : ρ[i]? = some (some (.own ds))) {a : Addr} {xs : List V} (ha : σ[i]? = some (some (.ref a))) (hb : B a = none) (h1 : H a = some (.lst xs)) (hd : DpAll K B xs ds) :
    Sl K H0 (upd B a (.lst xs)) H σ (ρ.set i (some (.dat (.list ds)))) where
  len := by rw [List.length_set, s.len]
  dat := fun j e h => by
    have ex : Ex B (upd B a (.lst xs)) := Ex.new hb
    rcases set_get h with ⟨rfl, q⟩ | ⟨n, q⟩
    · cases q
      exact ⟨.ref a, ha, .lst (.inl (.inl upd_same)) (dpsM ex hd)⟩
    · obtain ⟨v, e1, e2⟩ := s.dat j e q
      exact ⟨v, e1, dpM ex e2⟩
  own := fun j es h => by
    have ex : Ex B (upd B a (.lst xs)) := Ex.new hb
    rcases set_get h with ⟨rfl, q⟩ | ⟨n, q⟩
    · cases q
    · obtain ⟨b, ys, e1, e2, e3, e4, e5⟩ := s.own j es q
      refine ⟨b, ys, e1, e2, ?_, e4, dpsM ex e5⟩
      rw [upd_ne (fun z => ?_)]
      · exact e3
      · subst z
        exact s.sep i j ds es n hi q (by rw [ha, e1])
  sep := fun j k dj dk hjk hj hk => by
    rcases set_get hj with ⟨rfl, q⟩ | ⟨n, q⟩
    · cases q
    · rcases set_get hk with ⟨rfl, q'⟩ | ⟨n', q'⟩
      · cases q'
      · exact s.sep j k dj dk hjk q q'
  fix := fun j u h => by
    rcases set_get h with ⟨rfl, q⟩ | ⟨n, q⟩
    · cases q
    · exact s.fix j u q
  inv := fun j u iv h => by
    rcases set_get h with ⟨rfl, q⟩ | ⟨n, q⟩
    · cases q
    · obtain ⟨e1, e2, e3⟩ := s.inv j u iv q
      have na := s.isep j i u iv ds a q hi ha
      refine ⟨e1, iv.stab _ _ _ _ (Ex.new hb) (fun _ _ => rfl) e2, fun b hb' => ⟨(e3 b hb').1, ?_, (e3 b hb').2.2⟩⟩
      rw [upd_ne (fun z : b = a => na (z ▸ hb'))]
      exact (e3 b hb').2.1
  isep := fun j k u iv es b hj hk hb => by
    rcases set_get hj with ⟨rfl, q⟩ | ⟨n, q⟩
    · cases q
    · rcases set_get hk with ⟨rfl, q'⟩ | ⟨n', q'⟩
      · cases q'
      · exact s.isep j k u iv es b q q' hb
  iisep := fun j k u u' iv iv' hjk hj hk => by
    rcases set_get hj with ⟨rfl, q⟩ | ⟨n, q⟩
    · cases q
    · rcases set_get hk with ⟨rfl, q'⟩ | ⟨n', q'⟩
      · cases q'
      · exact s.iisep j k u u' iv iv' hjk q q'
/-- an item is put behind the own list in slot i -/
theorem Sl.push {K : PySem.W.Frag} {H0 B H : Hp} {σ : L2.St} {ρ : Rho} (s : Sl K H0 B H σ ρ) {i : Nat} {ds : List PyData} (hi : ρ[i]? = some (some (.own ds))) {a : Addr} {xs : List V} {v : V} {d : PyData} (ha : σ[i]? = some (some (.ref a))) (h0 : H0 a = Option.none) (hb : B a = Option.none) (hd : DpAll K B xs ds) (hv : Dp K B v d) :
    Sl K H0 B (upd H a (.lst (xs ++ [v]))) σ (ρ.set i (some (.own (ds ++ [d])))) where
  len := by rw [List.length_set, s.len]
  dat := fun j e h => by
    rcases set_get h with ⟨rfl, q⟩ | ⟨n, q⟩
    · cases q
    · exact s.dat j e q
  own := fun j es h => by
    rcases set_get h with ⟨rfl, q⟩ | ⟨n, q⟩
    · cases q
      exact ⟨a, _, ha, h0, hb, upd_same, dps_app hd (.cons hv .nil)⟩
    · obtain ⟨b, ys, e1, e2, e3, e4, e5⟩ := s.own j es q
      refine ⟨b, ys, e1, e2, e3, ?_, e5⟩
      rw [upd_ne (fun z => ?_)]
      · exact e4
      · subst z
        exact s.sep i j ds es n hi q (by rw [ha, e1])
  sep := fun j k dj dk hjk hj hk => by
    have inv : ∀ {m : Nat} {dm : List PyData}, (ρ.set i (some (Cl.own (ds ++ [d]))))[m]? = some (some (.own dm)) → ∃ dm', ρ[m]? = some (some (.own dm')) := fun {m dm} h => by
      rcases set_get h with ⟨rfl, _⟩ | ⟨_, q⟩
      · exact ⟨ds, hi⟩
      · exact ⟨dm, q⟩
    obtain ⟨dj', qj⟩ := inv hj
    obtain ⟨dk', qk⟩ := inv hk
    exact s.sep j k dj' dk' hjk qj qk
  fix := fun j u h => by
    rcases set_get h with ⟨rfl, q⟩ | ⟨n, q⟩
    · cases q
    · exact s.fix j u q
  inv := fun j u iv h => by
    rcases set_get h with ⟨rfl, q⟩ | ⟨n, q⟩
    · cases q
    · obtain ⟨e1, e2, e3⟩ := s.inv j u iv q
      have na := s.isep j i u iv ds a q hi ha
      have same : ∀ b ∈ iv.fp, (upd H a (.lst (xs ++ [v]))) b = H b := fun b hb' => upd_ne (fun z : b = a => na (z ▸ hb'))
      exact ⟨e1, iv.stab _ _ _ _ (Ex.refl B) same e2, fun b hb' => ⟨(e3 b hb').1, (e3 b hb').2.1, by rw [same b hb']; exact (e3 b hb').2.2⟩⟩
  isep := fun j k u iv es b hj hk hb => by
    rcases set_get hj with ⟨rfl, q⟩ | ⟨n, q⟩
    · cases q
    · rcases set_get hk with ⟨rfl, q'⟩ | ⟨n', q'⟩
      · exact s.isep j i u iv ds b q hi hb
      · exact s.isep j k u iv es b q q' hb
  iisep := fun j k u u' iv iv' hjk hj hk => by
    rcases set_get hj with ⟨rfl, q⟩ | ⟨n, q⟩
    · cases q
    · rcases set_get hk with ⟨rfl, q'⟩ | ⟨n', q'⟩
      · cases q'
      · exact s.iisep j k u u' iv iv' hjk q q'
/-- less known -/
theorem Sl.weak {K : PySem.W.Frag} {H0 B H : Hp} {σ : L2.St} {ρ ρ' : Rho} (s : Sl K H0 B H σ ρ) (hl : ρ'.length = ρ.length) (hw : ∀ (i : Nat) c, ρ'[i]? = some (some c) → ρ[i]? = some (some c)) : Sl K H0 B H σ ρ' where
  len := by rw [hl, s.len]
  dat := fun i d h => s.dat i d (hw i _ h)
  own := fun i ds h => s.own i ds (hw i _ h)
  sep := fun i j di dj hij h1 h2 => s.sep i j di dj hij (hw i _ h1) (hw j _ h2)
  fix := fun i v h => s.fix i v (hw i _ h)
  inv := fun i v iv h => s.inv i v iv (hw i _ h)
  isep := fun i j v iv ds b h1 h2 => s.isep i j v iv ds b (hw i _ h1) (hw j _ h2)
  iisep := fun i j v v' iv iv' h h1 h2 => s.iisep i j v v' iv iv' h (hw i _ h1) (hw j _ h2)

/-! ### expressions -/
structure Fin (K : PySem.W.Frag) (E : XK) (B H : Hp) (r : Rs) (Q : VK) : Prop where
  go : ∀ v B' H', Step B H B' H' → Vok K H B' H' v r → Q v H'
  up : ∀ C, r = .exc C → ∀ B' H', Step B H B' H' → ∀ d, d = none → E (.ref C) d H'
def GE (K : PySem.W.Frag) (E : XK) (te : TE) (ρ : Rho) (r : Rs) : Prop := ∀ H0 B H σ, Ex B H → Sl K H0 B H σ ρ → ∀ Q, Fin K E B H r Q → te σ H Q
def GA (K : PySem.W.Frag) (E : XK) (ta : TA) (ρ : Rho) (ds : List PyData) : Prop := ∀ H0 B H σ, Ex B H → Sl K H0 B H σ ρ → ∀ Q : List V → Hp → Prop, (∀ vs B' H', Step B H B' H' → DpAll K B' vs ds → Q vs H') → ta σ H Q
/-- an argument raises -/
def GAx (K : PySem.W.Frag) (E : XK) (ta : TA) (ρ : Rho) (C : Addr) : Prop := ∀ H0 B H σ, Ex B H → Sl K H0 B H σ ρ → ∀ Q : List V → Hp → Prop, (∀ B' H', Step B H B' H' → ∀ d, d = none → E (.ref C) d H') → ta σ H Q
def GT (K : PySem.W.Frag) (E : XK) (tc : TT) (ρ : Rho) (b : Bool) : Prop := ∀ H0 B H σ, Ex B H → Sl K H0 B H σ ρ → ∀ Q : Bool → Hp → Prop, (∀ B' H', Step B H B' H' → Q b H') → tc σ H Q
section
variable {K : PySem.W.Frag} {E : XK} {B H : Hp} {Q : VK} {ρ : Rho} {ta tb te : TE} {x y z d : PyData} {ds es : List PyData} {r : Rs}
theorem fin_ok (h : ∀ v B' H', Step B H B' H' → Dp K B' v d → Q v H') : Fin K E B H (.ok d) Q := ⟨h, fun _ e => nomatch e⟩
theorem fin_new (h : ∀ v B' H', Step B H B' H' → Vok K H B' H' v (.new ds) → Q v H') : Fin K E B H (.new ds) Q := ⟨h, fun _ e => nomatch e⟩
theorem fin_ali (h : ∀ v B' H', Step B H B' H' → Vok K H B' H' v (.ali ds) → Q v H') : Fin K E B H (.ali ds) Q := ⟨h, fun _ e => nomatch e⟩
theorem fin_exc {C : Addr} (h : ∀ B' H', Step B H B' H' → ∀ d, d = none → E (.ref C) d H') : Fin K E B H (.exc C) Q := ⟨fun _ _ _ _ f => f.elim, fun C' e B' H' s d => by cases e; exact h B' H' s d⟩
theorem Fin.back {B1 H1 : Hp} (s : Step B H B1 H1) (q : Fin K E B H r Q) : Fin K E B1 H1 r Q :=
  ⟨fun v B' H' t f => q.go v B' H' (s.trans t) (f.back s.h), fun C e B' H' t d => q.up C e B' H' (s.trans t) d⟩
theorem GE.var {i : Nat} (h : ρ[i]? = some (some (.dat d))) : GE K E (tVar i) ρ (.ok d) := fun H0 B H σ bh s Q q => by
  obtain ⟨v, e, f⟩ := s.dat i d h
  exact ⟨v, e, q.go v B H (.refl bh) f⟩
theorem GE.own {i : Nat} (h : ρ[i]? = some (some (.own ds))) : GE K E (tVar i) ρ (.ali ds) := fun H0 B H σ bh s Q q => by
  obtain ⟨a, xs, e, h0, hb, h1, f⟩ := s.own i ds h
  exact ⟨.ref a, e, q.go _ B H (.refl bh) ⟨a, xs, rfl, h1, f⟩⟩
theorem GE.c {v : V} (h : ∀ B, Dp K B v d) : GE K E (tC v) ρ (.ok d) := fun H0 B H σ bh s Q q => q.go v B H (.refl bh) (h B)
theorem GE.int {i : Int} : GE K E (tC (.int i)) ρ (.ok (.int i)) := GE.c fun _ => .int i
theorem GE.str {x : Str} : GE K E (tC (.str x)) ρ (.ok (.str x)) := GE.c fun _ => .str x
theorem GE.bool {b : Bool} : GE K E (tC (.bl b)) ρ (.ok (.bool b)) := GE.c fun _ => .bl b
theorem GE.non : GE K E (tC .non) ρ (.ok .none) := GE.c fun _ => .non
/-- a new list becomes data -/
theorem GE.frz (h : GE K E te ρ (.new ds)) : GE K E te ρ (.ok (.list ds)) := fun H0 B H σ bh s Q q => h H0 B H σ bh s Q (fin_new fun v B' H' t f => by
  obtain ⟨a, xs, rfl, h0, hb, h1, hd⟩ := f
  exact q.go _ _ H' (t.frz h0 hb h1) (.lst (.inl (.inl upd_same)) (dpsM (Ex.new hb) hd)))
/-- two values by a rule that makes nothing -/
def RD (K : PySem.W.Frag) (r : R2) (x y z : PyData) : Prop := ∀ B v w, Dp K B v x → Dp K B w y → ∀ H, Ex B H → ∀ Q : VK, (∀ u, Dp K B u z → Q u H) → r v w H Q
theorem GE.op {r : R2} (ha : GE K E ta ρ (.ok x)) (hb : GE K E tb ρ (.ok y)) (hr : RD K r x y z) : GE K E (tOp r ta tb) ρ (.ok z) := fun H0 B H σ bh s Q q =>
  ha H0 B H σ bh s _ (fin_ok fun v B1 H1 s1 d1 => hb H0 B1 H1 σ s1.dh (s.mono s1) _ (fin_ok fun w B2 H2 s2 d2 =>
    hr B2 v w (dpM s2.d d1) d2 H2 s2.dh Q fun u du => q.go u B2 H2 (s1.trans s2) du))
theorem rd_int {g : Int → Int → Int} {i j : Int} : RD K (rI0 fun i j => .int (g i j)) (.int i) (.int j) (.int (g i j)) := fun B v w h1 h2 H bh Q q => by
  cases h1; cases h2
  exact ⟨i, j, rfl, rfl, q _ (.int _)⟩
theorem rd_bl {g : Int → Int → Bool} {i j : Int} : RD K (rI0 fun i j => .bl (g i j)) (.int i) (.int j) (.bool (g i j)) := fun B v w h1 h2 H bh Q q => by
  cases h1; cases h2
  exact ⟨i, j, rfl, rfl, q _ (.bl _)⟩
theorem rd_intC {C : Int → Int → Prop} {g : Int → Int → Int} {i j : Int} (c : C i j) : RD K (rI C fun i j => .int (g i j)) (.int i) (.int j) (.int (g i j)) := fun B v w h1 h2 H bh Q q => by
  cases h1; cases h2
  exact ⟨i, j, rfl, rfl, c, q _ (.int _)⟩
theorem dec_int {i j : Int} : decide ((V.int i) = V.int j) = decide (i = j) := by
  by_cases h : i = j
  · subst h; rw [decide_eq_true rfl, decide_eq_true rfl]
  · rw [decide_eq_false h, decide_eq_false fun z => h (V.int.inj z)]
theorem dec_str {i j : Str} : decide ((V.str i) = V.str j) = decide (i = j) := by
  by_cases h : i = j
  · subst h; rw [decide_eq_true rfl, decide_eq_true rfl]
  · rw [decide_eq_false h, decide_eq_false fun z => h (V.str.inj z)]
theorem rd_eqI {i j : Int} : RD K rEq (.int i) (.int j) (.bool (decide (i = j))) := fun B v w h1 h2 H bh Q q => by
  cases h1; cases h2
  exact ⟨rfl, by rw [dec_int]; exact q _ (.bl _)⟩
theorem rd_neI {i j : Int} : RD K rNe (.int i) (.int j) (.bool (!decide (i = j))) := fun B v w h1 h2 H bh Q q => by
  cases h1; cases h2
  exact ⟨rfl, by rw [dec_int]; exact q _ (.bl _)⟩
theorem rd_eqS {i j : Str} : RD K rEq (.str i) (.str j) (.bool (decide (i = j))) := fun B v w h1 h2 H bh Q q => by
  cases h1; cases h2
  exact ⟨rfl, by rw [dec_str]; exact q _ (.bl _)⟩
theorem rd_neS {i j : Str} : RD K rNe (.str i) (.str j) (.bool (!decide (i = j))) := fun B v w h1 h2 H bh Q q => by
  cases h1; cases h2
  exact ⟨rfl, by rw [dec_str]; exact q _ (.bl _)⟩
theorem rd_neNI {j : Int} : RD K rNe .none (.int j) (.bool true) := fun B v w h1 h2 H bh Q q => by
  cases h1; cases h2
  exact ⟨rfl, q _ (.bl _)⟩
def rIsN : R2 := fun x y H Q => y = .non ∧ Q (.bl (decide (x = .non))) H
def rNoN : R2 := fun x y H Q => y = .non ∧ Q (.bl (!decide (x = .non))) H
theorem op_isN' {X : Cx} : OpR X (compareOp .Is) rIsN := op_isN
theorem op_noN' {X : Cx} : OpR X (compareOp .IsNot) rNoN := op_notN
def isNone : PyData → Bool
  | .none => true
  | _ => false
theorem dp_none {v : V} (h : Dp K B v d) : decide (v = .non) = isNone d := by
  cases h <;> rfl
theorem rd_isN : RD K rIsN x .none (.bool (isNone x)) := fun B v w h1 h2 H bh Q q => by
  cases h2
  exact ⟨rfl, by rw [dp_none h1]; exact q _ (.bl _)⟩
theorem rd_noN : RD K rNoN x .none (.bool (!isNone x)) := fun B v w h1 h2 H bh Q q => by
  cases h2
  exact ⟨rfl, by rw [dp_none h1]; exact q _ (.bl _)⟩
theorem rd_eqD (hx : SeqAt.shaped x = true) (hy : SeqAt.shaped y = true) : RD K (rEqD K) x y (.bool (PyData.eqv x y)) := fun B v w h1 h2 H bh Q q =>
  ⟨x, y, dpM bh h1, dpM bh h2, hx, hy, q _ (.bl _)⟩
theorem rd_neD (hx : SeqAt.shaped x = true) (hy : SeqAt.shaped y = true) : RD K (rNeD K) x y (.bool (!PyData.eqv x y)) := fun B v w h1 h2 H bh Q q =>
  ⟨x, y, dpM bh h1, dpM bh h2, hx, hy, q _ (.bl _)⟩
theorem rd_ixT {i : Int} (h : atI ds i = some d) : RD K (rIxT K) (.tuple ds) (.int i) d := fun B v w h1 h2 H bh Q q => by
  cases h2
  cases h1 with
  | tup hs ha =>
    obtain ⟨u, e, f⟩ := dps_at ha h
    exact ⟨_, _, i, u, rfl, rfl, ex_t bh hs, e, q u f⟩
theorem GE.un {g : Int → Int} {i : Int} (h : GE K E ta ρ (.ok (.int i))) : GE K E (tUn (rU fun i => .int (g i)) ta) ρ (.ok (.int (g i))) := fun H0 B H σ bh s Q q =>
  h H0 B H σ bh s _ (fin_ok fun v B1 H1 s1 d1 => by
    cases d1
    exact ⟨i, rfl, q.go _ B1 H1 s1 (.int _)⟩)

/-! ### lists and tuples read -/
inductive IsLs : Rs → List PyData → Prop
  | ok (ds : List PyData) : IsLs (.ok (.list ds)) ds
  | new (ds : List PyData) : IsLs (.new ds) ds
  | ali (ds : List PyData) : IsLs (.ali ds) ds
inductive IsSq : Rs → List PyData → Prop
  | ls {r : Rs} {ds : List PyData} (h : IsLs r ds) : IsSq r ds
  | tup (ds : List PyData) : IsSq (.ok (.tuple ds)) ds
inductive IsOw : Rs → List PyData → Prop
  | new (ds : List PyData) : IsOw (.new ds) ds
  | ali (ds : List PyData) : IsOw (.ali ds) ds
theorem ls_at {H0 H1 : Hp} {v : V} (i : IsLs r ds) (bh : Ex B H) (f : Vok K H0 B H v r) : ∃ a xs, v = .ref a ∧ SqL K H a xs ∧ DpAll K B xs ds := by
  cases i with
  | ok =>
    cases f with
    | lst hs ha => exact ⟨_, _, rfl, ex_l bh hs, ha⟩
  | new =>
    obtain ⟨a, xs, e, h0, hb, h1, hd⟩ := f
    exact ⟨a, xs, e, .inl (.inl h1), hd⟩
  | ali =>
    obtain ⟨a, xs, e, h1, hd⟩ := f
    exact ⟨a, xs, e, .inl (.inl h1), hd⟩
theorem sq_at {H0 : Hp} {v : V} (i : IsSq r ds) (bh : Ex B H) (f : Vok K H0 B H v r) : ∃ a xs, v = .ref a ∧ (SqL K H a xs ∨ SqT K H a xs) ∧ DpAll K B xs ds := by
  cases i with
  | ls h =>
    obtain ⟨a, xs, e, hs, ha⟩ := ls_at (H1 := H) h bh f
    exact ⟨a, xs, e, .inl hs, ha⟩
  | tup =>
    cases f with
    | tup hs ha => exact ⟨_, _, rfl, .inr (ex_t bh hs), ha⟩
theorem ow_at {H0 : Hp} {v : V} (i : IsOw r ds) (f : Vok K H0 B H v r) : ∃ a xs, v = .ref a ∧ H a = some (.lst xs) ∧ DpAll K B xs ds := by
  cases i with
  | new =>
    obtain ⟨a, xs, e, h0, hb, h1, hd⟩ := f
    exact ⟨a, xs, e, h1, hd⟩
  | ali => exact f
theorem IsLs.fin (i : IsLs r ds) (h : ∀ v B' H', Step B H B' H' → Vok K H B' H' v r → Q v H') : Fin K E B H r Q := ⟨h, fun C e => by cases i <;> cases e⟩
theorem IsSq.fin (i : IsSq r ds) (h : ∀ v B' H', Step B H B' H' → Vok K H B' H' v r → Q v H') : Fin K E B H r Q := ⟨h, fun C e => by
  cases i with
  | ls i => cases i <;> cases e
  | tup => cases e⟩
theorem IsOw.fin (i : IsOw r ds) (h : ∀ v B' H', Step B H B' H' → Vok K H B' H' v r → Q v H') : Fin K E B H r Q := ⟨h, fun C e => by cases i <;> cases e⟩
theorem GE.ixL {i : Int} (ha : GE K E ta ρ r) (hl : IsLs r ds) (hb : GE K E tb ρ (.ok (.int i))) (h : atI ds i = some d) : GE K E (tOp (rIxL K) ta tb) ρ (.ok d) := fun H0 B H σ bh s Q q =>
  ha H0 B H σ bh s _ (hl.fin fun v B1 H1 s1 d1 => hb H0 B1 H1 σ s1.dh (s.mono s1) _ (fin_ok fun w B2 H2 s2 d2 => by
    cases d2
    obtain ⟨a, xs, rfl, hs, hd⟩ := ls_at (H1 := H) hl s2.dh (d1.mono s2)
    obtain ⟨u, e, f⟩ := dps_at hd h
    exact ⟨a, xs, i, u, rfl, rfl, hs, e, q.go u B2 H2 (s1.trans s2) f⟩))
theorem GE.ixT {i : Int} (ha : GE K E ta ρ (.ok (.tuple ds))) (hb : GE K E tb ρ (.ok (.int i))) (h : atI ds i = some d) : GE K E (tOp (rIxT K) ta tb) ρ (.ok d) := GE.op ha hb (rd_ixT h)
theorem GE.cat {r1 r2 : Rs} (ha : GE K E ta ρ r1) (h1 : IsOw r1 ds) (hb : GE K E tb ρ r2) (h2 : IsOw r2 es) (hz : ds.length + es.length ≤ 100000) : GE K E (tOp rCat ta tb) ρ (.new (ds ++ es)) := fun H0 B H σ bh s Q q =>
  ha H0 B H σ bh s _ (h1.fin fun v B1 H1 s1 d1 => hb H0 B1 H1 σ s1.dh (s.mono s1) _ (h2.fin fun w B2 H2 s2 d2 => by
    obtain ⟨a, xs, rfl, e1, f1⟩ := ow_at h1 (d1.mono s2)
    obtain ⟨b, ys, rfl, e2, f2⟩ := ow_at h2 d2
    refine ⟨a, b, xs, ys, rfl, rfl, e1, e2, Evl.sz_of (by rw [dps_len f1, dps_len f2]; exact hz), fun p hp => ?_⟩
    have s3 := s1.trans s2
    exact q.go _ B2 _ (s3.trans (.own s2.dh hp _)) ⟨p, _, rfl, fresh_back s3.h hp, none_of s2.dh hp, upd_same, dps_app f1 f2⟩))
theorem GE.rep {k : Int} {r1 : Rs} (ha : GE K E ta ρ r1) (h1 : IsOw r1 ds) (hb : GE K E tb ρ (.ok (.int k))) (hk : -100000 ≤ k ∧ k ≤ 100000) (hz : ds.length * k.toNat ≤ 100000) : GE K E (tOp rRep ta tb) ρ (.new (List.replicate k.toNat ds).flatten) := fun H0 B H σ bh s Q q =>
  ha H0 B H σ bh s _ (h1.fin fun v B1 H1 s1 d1 => hb H0 B1 H1 σ s1.dh (s.mono s1) _ (fin_ok fun w B2 H2 s2 d2 => by
    cases d2
    obtain ⟨a, xs, rfl, e1, f1⟩ := ow_at h1 (d1.mono s2)
    refine ⟨a, k, xs, rfl, rfl, e1, by omega, by omega, Evl.sz_of (by rw [dps_len f1]; exact hz), fun p hp => ?_⟩
    have s3 := s1.trans s2
    exact q.go _ B2 _ (s3.trans (.own s2.dh hp _)) ⟨p, _, rfl, fresh_back s3.h hp, none_of s2.dh hp, upd_same, dps_flat f1 _⟩))

/-! ### arguments, displays -/
theorem GA.nil : GA K E tNil ρ [] := fun H0 B H σ bh s Q q => q [] B H (.refl bh) .nil
theorem GA.cons {ts : TA} (h : GE K E te ρ (.ok d)) (ht : GA K E ts ρ ds) : GA K E (tCons te ts) ρ (d :: ds) := fun H0 B H σ bh s Q q =>
  h H0 B H σ bh s _ (fin_ok fun v B1 H1 s1 d1 => ht H0 B1 H1 σ s1.dh (s.mono s1) _ fun vs B2 H2 s2 d2 => q (v :: vs) B2 H2 (s1.trans s2) (.cons (dpM s2.d d1) d2))
theorem GAx.here {ts : TA} {C : Addr} (h : GE K E te ρ (.exc C)) : GAx K E (tCons te ts) ρ C := fun H0 B H σ bh s Q q => h H0 B H σ bh s _ (fin_exc q)
theorem GAx.there {ts : TA} {C : Addr} (h : GE K E te ρ (.ok d)) (ht : GAx K E ts ρ C) : GAx K E (tCons te ts) ρ C := fun H0 B H σ bh s Q q =>
  h H0 B H σ bh s _ (fin_ok fun v B1 H1 s1 d1 => ht H0 B1 H1 σ s1.dh (s.mono s1) _ fun B2 H2 s2 => q B2 H2 (s1.trans s2))
theorem GE.tup {ts : TA} (h : GA K E ts ρ ds) (hz : ds.length ≤ 1000) : GE K E (tTup ts) ρ (.ok (.tuple ds)) := fun H0 B H σ bh s Q q =>
  h H0 B H σ bh s _ fun vs B1 H1 s1 d1 => ⟨Evl.sz_of (by rw [dps_len d1]; omega), fun p hp => q.go _ _ _ (s1.trans (.dat s1.dh hp (.tup vs))) (.tup (.inl (.inl upd_same)) (dpsM (Ex.new (none_of s1.dh hp)) d1))⟩
theorem GE.tupx {ts : TA} {C : Addr} (h : GAx K E ts ρ C) : GE K E (tTup ts) ρ (.exc C) := fun H0 B H σ bh s Q q => h H0 B H σ bh s _ (q.up C rfl)
theorem GE.lst {ts : TA} (h : GA K E ts ρ ds) (hz : ds.length ≤ 1000) : GE K E (tLst ts) ρ (.new ds) := fun H0 B H σ bh s Q q =>
  h H0 B H σ bh s _ fun vs B1 H1 s1 d1 => ⟨Evl.sz_of (by rw [dps_len d1]; omega), fun p hp => q.go _ _ _ (s1.trans (.own s1.dh hp (.lst vs))) ⟨p, vs, rfl, fresh_back s1.h hp, none_of s1.dh hp, upd_same, d1⟩⟩

/-! ### built-ins -/
def rLenQ (K : PySem.W.Frag) : List V → Hp → VK → Prop := fun xs H Q => ∃ p ys, xs = [.ref p] ∧ (SqL K H p ys ∨ SqT K H p ys) ∧ Q (.int ys.length) H
theorem call_lenQ {X : Cx} : CallR X (.builtin "len") (rLenQ X.K) := call_len_seq
theorem GE.len (h : GE K E te ρ r) (i : IsSq r ds) : GE K E (tCB (rLenQ K) (tCons te tNil)) ρ (.ok (.int ds.length)) := fun H0 B H σ bh s Q q =>
  h H0 B H σ bh s _ (i.fin fun v B1 H1 s1 d1 => by
    obtain ⟨a, xs, rfl, hs, hd⟩ := sq_at i s1.dh d1
    refine ⟨a, xs, rfl, hs, ?_⟩
    rw [dps_len hd]
    exact q.go _ B1 H1 s1 (.int _))
def rMax2 : List V → Hp → VK → Prop := fun xs H Q => ∃ i j, xs = [.int i, .int j] ∧ Q (.int (if j > i then j else i)) H
def rMin2 : List V → Hp → VK → Prop := fun xs H Q => ∃ i j, xs = [.int i, .int j] ∧ Q (.int (if j < i then j else i)) H
theorem call_max' {X : Cx} (hc : X.calm = true) : CallR X (.builtin "max") rMax2 := call_max2 hc
theorem call_min' {X : Cx} (hc : X.calm = true) : CallR X (.builtin "min") rMin2 := call_min2 hc
theorem GE.cb {rr : List V → Hp → VK → Prop} {ts : TA} (h : GA K E ts ρ ds) (hr : ∀ B vs H, Ex B H → DpAll K B vs ds → ∀ Q : VK, (∀ u, Dp K B u d → Q u H) → rr vs H Q) : GE K E (tCB rr ts) ρ (.ok d) := fun H0 B H σ bh s Q q =>
  h H0 B H σ bh s _ fun vs B1 H1 s1 d1 => hr B1 vs H1 s1.dh d1 Q fun u du => q.go u B1 H1 s1 du
theorem GE.max {ts : TA} {i j : Int} (h : GA K E ts ρ [.int i, .int j]) : GE K E (tCB rMax2 ts) ρ (.ok (.int (Max.max i j))) := GE.cb h fun B vs H bh hd Q q => by
  cases hd with
  | cons h1 t =>
    cases h1
    cases t with
    | cons h2 t =>
      cases h2; cases t
      refine ⟨i, j, rfl, ?_⟩
      have e : (if j > i then j else i) = Max.max i j := by
        rw [Int.max_def]
        split <;> split <;> omega
      rw [e]
      exact q _ (.int _)
theorem GE.min {ts : TA} {i j : Int} (h : GA K E ts ρ [.int i, .int j]) : GE K E (tCB rMin2 ts) ρ (.ok (.int (Min.min i j))) := GE.cb h fun B vs H bh hd Q q => by
  cases hd with
  | cons h1 t =>
    cases h1
    cases t with
    | cons h2 t =>
      cases h2; cases t
      refine ⟨i, j, rfl, ?_⟩
      have e : (if j < i then j else i) = Min.min i j := by
        rw [Int.min_def]
        split <;> split <;> omega
      rw [e]
      exact q _ (.int _)
theorem GE.sum {ns : List Int} (h : GE K E te ρ r) (i : IsLs r (ns.map PyData.int)) : GE K E (tCB (rSum K) (tCons te tNil)) ρ (.ok (.int ns.sum)) := fun H0 B H σ bh s Q q =>
  h H0 B H σ bh s _ (i.fin fun v B1 H1 s1 d1 => by
    obtain ⟨a, xs, rfl, hs, hd⟩ := ls_at (H1 := H) i s1.dh d1
    rw [dps_ints hd] at hs
    exact ⟨a, ns, rfl, hs, q.go _ B1 H1 s1 (.int _)⟩)
theorem GE.minL {ns : List Int} {m : Int} (h : GE K E te ρ r) (i : IsLs r (ns.map PyData.int)) (hm : m ∈ ns) (hl : ∀ y ∈ ns, m ≤ y) : GE K E (tCB (rMin K) (tCons te tNil)) ρ (.ok (.int m)) := fun H0 B H σ bh s Q q =>
  h H0 B H σ bh s _ (i.fin fun v B1 H1 s1 d1 => by
    obtain ⟨a, xs, rfl, hs, hd⟩ := ls_at (H1 := H) i s1.dh d1
    rw [dps_ints hd] at hs
    refine ⟨a, ns, rfl, hs, List.length_pos_of_mem hm, fun m' hm' hl' => ?_⟩
    have e : m' = m := Int.le_antisymm (hl' m hm) (hl m' hm')
    rw [e]
    exact q.go _ B1 H1 s1 (.int _))
/-- type names of data -/
def tyD : PyData → String
  | .none => "NoneType"
  | .bool _ => "bool"
  | .int _ => "int"
  | .str _ => "str"
  | .list _ => "list"
  | .tuple _ => "tuple"
  | .dict _ => "dict"
theorem ty_dp {v : V} (h : Dp K H v d) : TyX K H v (.type (tyD d)) := by
  cases h with
  | non => exact .base .non
  | bl b => exact .base (.bl b)
  | int i => exact .base (.int i)
  | str x => exact .base (.str x)
  | lst hs ha =>
    rcases hs with (h | ⟨o, h⟩) | ⟨o, its, n, h, c, _⟩
    · exact .base (.lst h)
    · exact .base (.frz h)
    · exact .kList h c
  | tup hs ha =>
    rcases hs with (h | ⟨o, h⟩) | ⟨o, its, n, h, c, _⟩
    · exact .base (.tup h)
    · exact .fTuple h
    · exact .kTuple h c
def tyR : Rs → String
  | .ok d => tyD d
  | .exc _ => ""
  | _ => "list"
theorem ty_vok {H0 H1 : Hp} {v : V} (bh : Ex B H) (f : Vok K H0 B H v r) : TyX K H v (.type (tyR r)) := by
  cases r with
  | ok d => exact ty_dp (dpM bh f)
  | new ds =>
    obtain ⟨a, xs, rfl, h0, hb, h1, hd⟩ := f
    exact .base (.lst h1)
  | ali ds =>
    obtain ⟨a, xs, rfl, h1, hd⟩ := f
    exact .base (.lst h1)
  | exc C => exact f.elim
def NoX : Rs → Prop
  | .exc _ => False
  | _ => True
theorem NoX.fin (n : NoX r) (h : ∀ v B' H', Step B H B' H' → Vok K H B' H' v r → Q v H') : Fin K E B H r Q := ⟨h, fun C e => by subst e; exact n.elim⟩
/-- isinstance(e, T), T a built-in class -/
theorem GE.isi {n : String} {b : Bool} (h : GE K E te ρ r) (nx : NoX r) (hk : kitB (tyR r) n = some b) : GE K E (tCB (rIsi K) (tCons te (tCons (tC (.ty n)) tNil))) ρ (.ok (.bool b)) := fun H0 B H σ bh s Q q =>
  h H0 B H σ bh s _ (nx.fin fun v B1 H1 s1 d1 => ⟨v, .ty n, .type (tyR r), .type n, b, rfl, .ty n, ty_vok (H1 := H1) s1.dh d1, kit_ty hk, q.go _ B1 H1 s1 (.bl b)⟩)

/-! ### tests -/
theorem GT.test {b : Bool} (h : GE K E te ρ (.ok (.bool b))) : GT K E (tTest te) ρ b := fun H0 B H σ bh s Q q =>
  h H0 B H σ bh s _ (fin_ok fun v B1 H1 s1 d1 => by
    cases d1
    exact ⟨b, rfl, q B1 H1 s1⟩)
theorem GT.val {b : Bool} (h : GE K E te ρ (.ok (.bool b))) : GT K E (tB te) ρ b := fun H0 B H σ bh s Q q =>
  h H0 B H σ bh s _ (fin_ok fun v B1 H1 s1 d1 => by
    cases d1
    exact ⟨b, rfl, q B1 H1 s1⟩)
theorem GT.yes : GT K E tYes ρ true := fun H0 B H σ bh s Q q => q B H (.refl bh)
theorem GT.not {tc : TT} {b : Bool} (h : GT K E tc ρ b) : GT K E (tNot tc) ρ (!b) := fun H0 B H σ bh s Q q => h H0 B H σ bh s _ q
theorem GT.and {tc tu : TT} {a b : Bool} (h : GT K E tc ρ a) (h2 : a = true → GT K E tu ρ b) : GT K E (tAnd tc tu) ρ (a && b) := fun H0 B H σ bh s Q q =>
  h H0 B H σ bh s _ fun B1 H1 s1 => by
    cases a with
    | true => exact h2 rfl H0 B1 H1 σ s1.dh (s.mono s1) Q fun B2 H2 s2 => q B2 H2 (s1.trans s2)
    | false => exact q B1 H1 s1
theorem GT.or {tc tu : TT} {a b : Bool} (h : GT K E tc ρ a) (h2 : a = false → GT K E tu ρ b) : GT K E (tOr tc tu) ρ (a || b) := fun H0 B H σ bh s Q q =>
  h H0 B H σ bh s _ fun B1 H1 s1 => by
    cases a with
    | true => exact q B1 H1 s1
    | false => exact h2 rfl H0 B1 H1 σ s1.dh (s.mono s1) Q fun B2 H2 s2 => q B2 H2 (s1.trans s2)
theorem GT.to {tc : TT} {a b : Bool} (h : GT K E tc ρ a) (e : a = b) : GT K E tc ρ b := e ▸ h
theorem GE.to {r r' : Rs} (h : GE K E te ρ r) (e : r = r') : GE K E te ρ r' := e ▸ h
theorem GT.chain {rr rr' : R2} {tc : TE} {w : PyData} {a b : Bool} (ha : GE K E ta ρ (.ok x)) (hb : GE K E tb ρ (.ok y)) (hc : GE K E tc ρ (.ok w)) (h1 : RD K rr x y (.bool a)) (h2 : RD K rr' y w (.bool b)) : GT K E (tTest (tChain rr rr' ta tb tc)) ρ (a && b) := fun H0 B H σ bh s Q q =>
  ha H0 B H σ bh s _ (fin_ok fun v B1 H1 s1 d1 => hb H0 B1 H1 σ s1.dh (s.mono s1) _ (fin_ok fun u B2 H2 s2 d2 =>
    h1 B2 v u (dpM s2.d d1) d2 H2 s2.dh _ fun z dz => by
      cases dz
      refine ⟨a, rfl, ?_⟩
      have s3 := s1.trans s2
      cases a with
      | true =>
        refine hc H0 B2 H2 σ s2.dh (s.mono s3) _ (fin_ok fun w' B3 H3 s4 d4 => h2 B3 u w' (dpM s4.d d2) d4 H3 s4.dh _ fun z dz => ?_)
        cases dz
        exact ⟨b, rfl, q B3 H3 (s3.trans s4)⟩
      | false => exact ⟨false, rfl, q B2 H2 s3⟩))
theorem GE.andV {a b : Bool} (h : GE K E ta ρ (.ok (.bool a))) (h2 : a = true → GE K E tb ρ (.ok (.bool b))) : GE K E (tAndV ta tb) ρ (.ok (.bool (a && b))) := fun H0 B H σ bh s Q q =>
  h H0 B H σ bh s _ (fin_ok fun v B1 H1 s1 d1 => by
    cases d1
    refine ⟨a, rfl, ?_⟩
    cases a with
    | true => exact h2 rfl H0 B1 H1 σ s1.dh (s.mono s1) Q (q.back s1)
    | false => exact q.go _ B1 H1 s1 (.bl false))
theorem GE.orV {a b : Bool} (h : GE K E ta ρ (.ok (.bool a))) (h2 : a = false → GE K E tb ρ (.ok (.bool b))) : GE K E (tOrV ta tb) ρ (.ok (.bool (a || b))) := fun H0 B H σ bh s Q q =>
  h H0 B H σ bh s _ (fin_ok fun v B1 H1 s1 d1 => by
    cases d1
    refine ⟨a, rfl, ?_⟩
    cases a with
    | true => exact q.go _ B1 H1 s1 (.bl true)
    | false => exact h2 rfl H0 B1 H1 σ s1.dh (s.mono s1) Q (q.back s1))
theorem GE.notV {a : Bool} (h : GE K E ta ρ (.ok (.bool a))) : GE K E (tNotV ta) ρ (.ok (.bool (!a))) := fun H0 B H σ bh s Q q =>
  h H0 B H σ bh s _ (fin_ok fun v B1 H1 s1 d1 => by
    cases d1
    exact ⟨a, rfl, q.go _ B1 H1 s1 (.bl _)⟩)
theorem GE.ifx {tc : TT} {a : Bool} (h : GT K E tc ρ a) (h1 : a = true → GE K E ta ρ r) (h2 : a = false → GE K E tb ρ r) : GE K E (tIf tc ta tb) ρ r := fun H0 B H σ bh s Q q =>
  h H0 B H σ bh s _ fun B1 H1 s1 => by
    cases a with
    | true => exact h1 rfl H0 B1 H1 σ s1.dh (s.mono s1) Q (q.back s1)
    | false => exact h2 rfl H0 B1 H1 σ s1.dh (s.mono s1) Q (q.back s1)

/-! ### comprehensions -/
def given (n : Nat) (f : Nat → Bool) (g : Nat → PyData) : List PyData := ((List.range n).filter f).map g
theorem given_yes {n : Nat} {f : Nat → Bool} {g : Nat → PyData} (h : f n = true) : given (n + 1) f g = given n f g ++ [g n] := by
  unfold given
  rw [List.range_succ, List.filter_append, List.map_append, List.filter_cons, if_pos h] <;> rfl
theorem given_no {n : Nat} {f : Nat → Bool} {g : Nat → PyData} (h : f n = false) : given (n + 1) f g = given n f g := by
  unfold given
  rw [List.range_succ, List.filter_append, List.map_append, List.filter_cons, if_neg (by rw [h]; decide)]
  show _ ++ [] = _
  rw [List.append_nil]
theorem given_len (n : Nat) (f : Nat → Bool) (g : Nat → PyData) : (given n f g).length ≤ n := by
  unfold given
  rw [List.length_map]
  have h := List.length_filter_le f (List.range n)
  rw [List.length_range] at h
  exact h
theorem given_all (n : Nat) (g : Nat → PyData) : given n (fun _ => true) g = (List.range n).map g := by
  unfold given
  rw [List.filter_eq_self.mpr (fun _ _ => rfl)]
/-- the state of a comprehension that fills the list at D -/
def Cw (K : PySem.W.Frag) (B1 H1 : Hp) (D : Addr) (ds : List PyData) (H' : Hp) : Prop := ∃ B' xs, Step B1 H1 B' H' ∧ B' D = none ∧ H' D = some (.lst xs) ∧ DpAll K B' xs ds
theorem cw_start {B1 H1 : Hp} {D : Addr} (bh : Ex B1 H1) (hD : H1 D = none) : Cw K B1 H1 D [] (upd H1 D (.lst [])) := ⟨B1, [], .own bh hD _, none_of bh hD, upd_same, .nil⟩
theorem wipe1 {σ : L2.St} {j : Nat} {x : V} : L2.wipe ((L2.wipe σ [j]).set j (some x)) [j] = L2.wipe σ [j] := by
  show ((σ.set j none).set j (some x)).set j none = σ.set j none
  rw [List.set_set, List.set_set]
theorem cw_turn {E' : XK} {H0 B1 H1 : Hp} {D : Addr} {σ : L2.St} {j : Nat} {tt : TT} {v : V} {dv : PyData} {f : Nat → Bool} {g : Nat → PyData} {i : Nat} {H' : Hp} (s : Sl K H0 B1 H1 σ ρ) (hD : H1 D = none) (w : Cw K B1 H1 D (given i f g) H') (hi : i < 50000) (hv : Dp K B1 v dv)
    (ht : GT K E' tt ((wipeR ρ [j]).set j (some (.dat dv))) (f i)) (he : f i = true → GE K E' te ((wipeR ρ [j]).set j (some (.dat dv))) (.ok (g i))) :
    tt ((L2.wipe σ [j]).set j (some v)) H' fun b H3 => if b = true then te ((L2.wipe σ [j]).set j (some v)) H3 fun y H4 => ∃ acc, H4 D = some (.lst acc) ∧ acc.length < sizeLine ∧ Cw K B1 H1 D (given (i + 1) f g) (upd H4 D (.lst (acc ++ [y]))) else Cw K B1 H1 D (given (i + 1) f g) H3 := by
  obtain ⟨B', xs, st, hb, hd, ha⟩ := w
  have sl : Sl K H0 B' H' ((L2.wipe σ [j]).set j (some v)) ((wipeR ρ [j]).set j (some (.dat dv))) := ((s.mono st).wipe [j]).setD j (dpM st.d hv)
  refine ht H0 B' H' _ st.dh sl _ fun B3 H3 s3 => ?_
  have fre : ∀ {B4 H4 : Hp}, Step B' H' B4 H4 → B4 D = none := fun {B4 H4} t => t.fr D (by rw [hd]; exact fun z => nomatch z) hb
  cases hf : f i with
  | true =>
    refine he hf H0 B3 H3 _ s3.dh (sl.mono s3) _ (fin_ok fun y B4 H4 s4 d4 => ?_)
    have s5 := s3.trans s4
    have e4 : H4 D = some (.lst xs) := s5.h D _ hd
    have n4 : B4 D = none := fre s5
    refine ⟨xs, e4, Evl.sz_lt (by rw [dps_len ha]; have := given_len i f g; omega), B4, xs ++ [y], ?_, n4, upd_same, ?_⟩
    · have t := st.trans s5
      refine ⟨t.d, Evl.Ex.mut t.h hD, fun a o q => ?_, t.fr⟩
      rw [upd_ne (ne_of_none q n4)]
      exact t.dh a o q
    · rw [given_yes hf]
      exact dps_app (dpsM s5.d ha) (.cons d4 .nil)
  | false =>
    refine ⟨B3, xs, st.trans s3, fre s3, s3.h D _ hd, ?_⟩
    rw [given_no hf]
    exact dpsM s3.d ha
theorem cw_end {B1 H1 : Hp} {D : Addr} {H' : Hp} (s1 : Step B H B1 H1) (hD : H1 D = none) (w : Cw K B1 H1 D ds H') (q : Fin K E B H (.new ds) Q) : Q (.ref D) H' := by
  obtain ⟨B', xs, st, hb, hd, ha⟩ := w
  exact q.go _ B' H' (s1.trans st) ⟨D, xs, rfl, fresh_back s1.h hD, hb, hd, ha⟩
theorem GE.lcR2 {E' : XK} {ts : TA} {j : Nat} {tt : TT} {lo hi : Int} (f : Nat → Bool) (g : Nat → PyData) (h : GA K E ts ρ [.int lo, .int hi]) (hb : (-100000 ≤ lo ∧ lo ≤ 100000) ∧ -100000 ≤ hi ∧ hi ≤ 100000) (hn : hi - lo < 50000)
    (ht : ∀ i : Nat, lo + (i : Int) < hi → GT K E' tt ((wipeR ρ [j]).set j (some (.dat (.int (lo + i))))) (f i)) (he : ∀ i : Nat, lo + (i : Int) < hi → f i = true → GE K E' te ((wipeR ρ [j]).set j (some (.dat (.int (lo + i))))) (.ok (g i))) :
    GE K E (tLc (iRng2 ts) (gName j) tt te [j]) ρ (.new (given (hi - lo).toNat f g)) := fun H0 B H σ bh s Q q =>
  h H0 B H σ bh s _ fun vs B1 H1 s1 d1 => by
    cases d1 with
    | cons h1 t =>
      cases h1
      cases t with
      | cons h2 t =>
        cases h2; cases t
        refine ⟨lo, hi, rfl, ⟨by omega, by omega, by omega, by omega⟩, fun D hD => ?_⟩
        exact lc_range (lo := lo) (n := (hi - lo).toNat) (fun i H' => Cw K B1 H1 D (given i f g) H') (cw_start s1.dh hD) (fun i H' hi' w => ⟨wipe1, cw_turn (v := .int (lo + (i : Int))) (dv := .int (lo + (i : Int))) (s.mono s1) hD w (by omega) (.int _) (ht i (by omega)) (he i (by omega))⟩) (fun H' w => cw_end s1 hD w q)
theorem GE.lcR1 {E' : XK} {ts : TA} {j : Nat} {tt : TT} {hi : Int} (f : Nat → Bool) (g : Nat → PyData) (h : GA K E ts ρ [.int hi]) (hb : -100000 ≤ hi ∧ hi < 50000)
    (ht : ∀ i : Nat, (i : Int) < hi → GT K E' tt ((wipeR ρ [j]).set j (some (.dat (.int (i : Int))))) (f i)) (he : ∀ i : Nat, (i : Int) < hi → f i = true → GE K E' te ((wipeR ρ [j]).set j (some (.dat (.int (i : Int))))) (.ok (g i))) :
    GE K E (tLc (iRng1 ts) (gName j) tt te [j]) ρ (.new (given hi.toNat f g)) := fun H0 B H σ bh s Q q =>
  h H0 B H σ bh s _ fun vs B1 H1 s1 d1 => by
    cases d1 with
    | cons h1 t =>
      cases h1; cases t
      refine ⟨hi, rfl, by omega, by omega, fun D hD => ?_⟩
      refine lc_range (lo := 0) (n := hi.toNat) (fun i H' => Cw K B1 H1 D (given i f g) H') (cw_start s1.dh hD) (fun i H' hi' w => ?_) (fun H' w => cw_end s1 hD w q)
      rw [show (0 : Int) + (i : Int) = (i : Int) from Int.zero_add _]
      exact ⟨wipe1, cw_turn (v := .int (i : Int)) (dv := .int (i : Int)) (s.mono s1) hD w (by omega) (.int _) (ht i (by omega)) (he i (by omega))⟩
/-- over a list -/
theorem GE.lcL {E' : XK} {j : Nat} {tt : TT} {tl : TE} (f : Nat → Bool) (g : Nat → PyData) (h : GE K E tl ρ r) (hl : IsLs r ds) (hn : ds.length < 50000)
    (ht : ∀ i x, ds[i]? = some x → GT K E' tt ((wipeR ρ [j]).set j (some (.dat x))) (f i)) (he : ∀ i x, ds[i]? = some x → f i = true → GE K E' te ((wipeR ρ [j]).set j (some (.dat x))) (.ok (g i))) :
    GE K E (tLc (iList K tl) (gName j) tt te [j]) ρ (.new (given ds.length f g)) := fun H0 B H σ bh s Q q =>
  h H0 B H σ bh s _ (hl.fin fun v B1 H1 s1 d1 => by
    obtain ⟨a, xs, rfl, hs, ha⟩ := ls_at (H1 := H1) hl s1.dh d1
    have el := dps_len ha
    refine ⟨a, rfl, ⟨xs, hs⟩, fun D hD => ?_⟩
    refine lc_list (xs := xs) (fun i H' => Cw K B1 H1 D (given i f g) H') (cw_start s1.dh hD) (fun i H' _ w => ?_) (fun i x H' hx w => ?_) (fun H' w => ?_)
    · obtain ⟨B', ys, st, _⟩ := w
      exact ex_l st.h hs
    · have hi : i < xs.length := (List.getElem?_eq_some_iff.mp hx).1
      have hd : ds[i]? = some (ds[i]'(by omega)) := List.getElem?_eq_getElem _
      obtain ⟨u, e1, e2⟩ := dps_get ha hd
      rw [hx] at e1
      cases e1
      exact ⟨wipe1, cw_turn (s.mono s1) hD w (by omega) e2 (ht i _ hd) (he i _ hd)⟩
    · rw [el] at w
      exact cw_end s1 hD w q)

/-! ### a def as a relation of data -/
def spR (K : PySem.W.Frag) (R : List PyData → Rs → Prop) : Sp := fun vs H Q E => ∃ B ds r, Ex B H ∧ DpAll K B vs ds ∧ R ds r ∧ Fin K E B H r Q
theorem GE.call {R : List PyData → Rs → Prop} {ts : TA} (ha : GA K E ts ρ ds) (hr : R ds r) : GE K E (tCallS (spR K R) (fun _ => E) ts) ρ r := fun H0 B H σ bh s Q q =>
  ha H0 B H σ bh s _ fun vs B1 H1 s1 d1 => ⟨B1, ds, r, s1.dh, d1, hr, q.back s1⟩
theorem GE.callx {R : List PyData → Rs → Prop} {ts : TA} {C : Addr} (ha : GAx K E ts ρ C) : GE K E (tCallS (spR K R) (fun _ => E) ts) ρ (.exc C) := fun H0 B H σ bh s Q q =>
  ha H0 B H σ bh s _ (q.up C rfl)
end

/-! ### statements -/
def GS (K : PySem.W.Frag) (E : XK) (ts : TS) (ρ : Rho) (Nx : Rho → Prop) (r : Rs) : Prop := ∀ B0 H0 B H σ, Step B0 H0 B H → Sl K H0 B H σ ρ → ∀ D : Ends,
  (∀ σ' B' H' ρ', Step B0 H0 B' H' → Sl K H0 B' H' σ' ρ' → Nx ρ' → D.nx σ' H') → Fin K E B0 H0 r D.rt → ts D σ H
section
variable {K : PySem.W.Frag} {E : XK} {ρ : Rho} {Nx : Rho → Prop} {r : Rs} {te : TE} {d : PyData} {ds : List PyData} {t u : TS} {tc : TT}
theorem GS.seq (h : GS K E t ρ (fun ρ' => GS K E u ρ' Nx r) r) : GS K E (tSeq t u) ρ Nx r := fun B0 H0 B H σ st s D nx fn =>
  h B0 H0 B H σ st s { D with nx := u D } (fun σ' B' H' ρ' st' s' g => g B0 H0 B' H' σ' st' s' D nx fn) fn
theorem GS.next (h : Nx ρ) : GS K E tNext ρ Nx r := fun B0 H0 B H σ st s D nx fn => nx σ B H ρ st s h
theorem GS.mono {Nx' : Rho → Prop} (h : GS K E t ρ Nx r) (hn : ∀ ρ', Nx ρ' → Nx' ρ') : GS K E t ρ Nx' r := fun B0 H0 B H σ st s D nx fn => h B0 H0 B H σ st s D (fun σ' B' H' ρ' a b c => nx σ' B' H' ρ' a b (hn ρ' c)) fn
theorem GS.ret (h : GE K E te ρ r) (hr : NoX r) (ha : ∀ ds, r ≠ .ali ds) : GS K E (tRet te) ρ Nx r := fun B0 H0 B H σ st s D nx fn =>
  h H0 B H σ st.dh s D.rt (hr.fin fun v B' H' st' f => fn.go v B' H' (st.trans st') (f.back st.h))
theorem GS.retD (h : GE K E te ρ (.ok d)) : GS K E (tRet te) ρ Nx (.ok d) := GS.ret h trivial fun _ e => nomatch e
theorem GS.retN (h : GE K E te ρ (.new ds)) : GS K E (tRet te) ρ Nx (.new ds) := GS.ret h trivial fun _ e => nomatch e
theorem GS.retX {C : Addr} (h : GE K E te ρ (.exc C)) : GS K E (tRet te) ρ Nx (.exc C) := fun B0 H0 B H σ st s D nx fn =>
  h H0 B H σ st.dh s D.rt (fin_exc fun B' H' st' => fn.up C rfl B' H' (st.trans st'))
theorem GS.retOwn {i : Nat} (h : ρ[i]? = some (some (.own ds))) : GS K E (tRet (tVar i)) ρ Nx (.new ds) := fun B0 H0 B H σ st s D nx fn => by
  obtain ⟨a, xs, e, h0, hb, h1, hd⟩ := s.own i ds h
  exact ⟨.ref a, e, fn.go _ B H st ⟨a, xs, rfl, h0, hb, h1, hd⟩⟩
theorem GS.retNone : GS K E tRetN ρ Nx (.ok .none) := fun B0 H0 B H σ st s D nx fn => fn.go _ B H st .non
theorem GS.asg {i : Nat} (h : GE K E te ρ (.ok d)) (n : Nx (ρ.set i (some (.dat d)))) : GS K E (tAsg te (gName i)) ρ Nx r := fun B0 H0 B H σ st s D nx fn =>
  h H0 B H σ st.dh s _ (fin_ok fun v B' H' st' dv => nx _ B' H' _ (st.trans st') ((s.mono st').setD i dv) n)
theorem GS.asgN {i : Nat} (h : GE K E te ρ (.new ds)) (n : Nx (ρ.set i (some (.own ds)))) : GS K E (tAsg te (gName i)) ρ Nx r := fun B0 H0 B H σ st s D nx fn =>
  h H0 B H σ st.dh s _ (fin_new fun v B' H' st' f => by
    obtain ⟨a, xs, rfl, h0, hb, h1, hd⟩ := f
    refine nx _ B' H' _ (st.trans st') ((s.mono st').setN i (fresh_back st.h h0) hb h1 hd (fun j dj q z => ?_) fun j u iv q z => ((s.inv j u iv q).2.2 a z).2.2 h0) n
    obtain ⟨b, ys, e1, _, _, e2, _⟩ := s.own j dj q
    rw [e1] at z
    cases z
    rw [h0] at e2
    cases e2)
theorem GS.asgX {C : Addr} {g : TG} (h : GE K E te ρ (.exc C)) : GS K E (tAsg te g) ρ Nx (.exc C) := fun B0 H0 B H σ st s D nx fn =>
  h H0 B H σ st.dh s _ (fin_exc fun B' H' st' => fn.up C rfl B' H' (st.trans st'))
/-- a, b = e -/
theorem GS.asg2 {i j : Nat} {x y : PyData} (h : GE K E te ρ (.ok (.tuple [x, y]))) (n : Nx ((ρ.set i (some (.dat x))).set j (some (.dat y)))) : GS K E (tAsg te (gTup K 2 (gCons (gName i) (gCons (gName j) gNil)))) ρ Nx r := fun B0 H0 B H σ st s D nx fn =>
  h H0 B H σ st.dh s _ (fin_ok fun v B' H' st' dv => by
    cases dv with
    | @tup a xs ds hs ha =>
      cases ha with
      | @cons v1 vs1 _ _ h1 t =>
        cases t with
        | @cons v2 vs2 _ _ h2 t =>
          cases t
          exact ⟨a, [v1, v2], rfl, ex_t st'.dh hs, rfl, v1, [v2], rfl, v2, [], rfl, rfl, nx _ B' H' _ (st.trans st') (((s.mono st').setD i h1).setD j h2) n⟩)
theorem GS.drop (h : GE K E te ρ (.ok d)) (n : Nx ρ) : GS K E (tDrop te) ρ Nx r := fun B0 H0 B H σ st s D nx fn =>
  h H0 B H σ st.dh s _ (fin_ok fun v B' H' st' dv => nx σ B' H' ρ (st.trans st') (s.mono st') n)
theorem GS.dropN (h : GE K E te ρ (.new ds)) (n : Nx ρ) : GS K E (tDrop te) ρ Nx r := GS.drop h.frz n
theorem GS.dropX {C : Addr} (h : GE K E te ρ (.exc C)) : GS K E (tDrop te) ρ Nx (.exc C) := fun B0 H0 B H σ st s D nx fn =>
  h H0 B H σ st.dh s _ (fin_exc fun B' H' st' => fn.up C rfl B' H' (st.trans st'))
theorem GS.ifs {b : Bool} (h : GT K E tc ρ b) (h1 : b = true → GS K E t ρ Nx r) (h2 : b = false → GS K E u ρ Nx r) : GS K E (tIfS tc t u) ρ Nx r := fun B0 H0 B H σ st s D nx fn =>
  h H0 B H σ st.dh s _ fun B' H' st' => by
    cases b with
    | true => exact h1 rfl B0 H0 B' H' σ (st.trans st') (s.mono st') D nx fn
    | false => exact h2 rfl B0 H0 B' H' σ (st.trans st') (s.mono st') D nx fn
/-- xs.append(e), xs a list of one's own -/
theorem GS.app {i : Nat} (hi : ρ[i]? = some (some (.own ds))) (h : GE K E te ρ (.ok d)) (hz : ds.length < 100000) (n : Nx (ρ.set i (some (.own (ds ++ [d]))))) : GS K E (tDrop (tBM K "list" rAppend (tVar i) (tCons te tNil))) ρ Nx r := fun B0 H0 B H σ st s D nx fn => by
  obtain ⟨a, xs, e, h0, hb, h1, hd⟩ := s.own i ds hi
  refine ⟨.ref a, e, .inl ⟨rfl, xs, .inl (.inl h1)⟩, h H0 B H σ st.dh s _ (fin_ok fun v B' H' st' dv => ?_)⟩
  have nb : B' a = none := st'.fr a (by rw [h1]; exact fun z => nomatch z) hb
  have t := st.trans st'
  refine ⟨a, xs, v, rfl, rfl, st'.h a _ h1, Evl.sz_lt (by rw [dps_len hd]; exact hz), nx σ B' _ _ ⟨t.d, Evl.Ex.mut t.h h0, fun b o q => ?_, t.fr⟩ ((s.mono st').push hi e h0 nb (dpsM st'.d hd) dv) n⟩
  rw [upd_ne (ne_of_none q nb)]
  exact t.dh b o q
/-- a list of one's own becomes data -/
theorem GS.freeze (i : Nat) (hi : ρ[i]? = some (some (.own ds))) (h : GS K E t (ρ.set i (some (.dat (.list ds)))) Nx r) : GS K E t ρ Nx r := fun B0 H0 B H σ st s D nx fn => by
  obtain ⟨a, xs, e, h0, hb, h1, hd⟩ := s.own i ds hi
  exact h B0 H0 (upd B a (.lst xs)) H σ (st.frz h0 hb h1) (s.freeze hi e hb h1 hd) D nx fn
theorem GS.weak {ρ' : Rho} (h : GS K E t ρ' Nx r) (hl : ρ'.length = ρ.length) (hw : ∀ (i : Nat) c, ρ'[i]? = some (some c) → ρ[i]? = some (some c)) : GS K E t ρ Nx r := fun B0 H0 B H σ st s D nx fn => h B0 H0 B H σ st (s.weak hl hw) D nx fn
/-- raise C(..) -/
def tRaise (E : XK) (C : Addr) : TS := fun _ _ H => E (.ref C) none H
theorem GS.raise {C : Addr} : GS K E (tRaise E C) ρ Nx (.exc C) := fun B0 H0 B H σ st s D nx fn => fn.up C rfl B H st none rfl

/-! ### loops -/
theorem GS.forR2 {ta : TA} {j : Nat} {tb : TS} {lo hi : Int} (h : GA K E ta ρ [.int lo, .int hi]) (hb : (-100000 ≤ lo ∧ lo ≤ 100000) ∧ -100000 ≤ hi ∧ hi ≤ 100000) (Inv : Nat → Rho → Prop) (h0 : Inv 0 ρ)
    (hs : ∀ (i : Nat) ρ', lo + (i : Int) < hi → Inv i ρ' → GS K E tb (ρ'.set j (some (.dat (.int (lo + i))))) (Inv (i + 1)) r) (hd : ∀ ρ', Inv (hi - lo).toNat ρ' → Nx ρ') : GS K E (tFor (iRng2 ta) (gName j) tb) ρ Nx r := fun B0 H0 B H σ st s D nx fn =>
  h H0 B H σ st.dh s _ fun vs B1 H1 s1 d1 => by
    cases d1 with
    | cons h1 t =>
      cases h1
      cases t with
      | cons h2 t =>
        cases h2; cases t
        refine ⟨lo, hi, rfl, ⟨by omega, by omega, by omega, by omega⟩, for_range (lo := lo) (n := (hi - lo).toNat) (fun i σ' H' => ∃ B' ρ', Step B0 H0 B' H' ∧ Sl K H0 B' H' σ' ρ' ∧ Inv i ρ') ⟨B1, ρ, st.trans s1, s.mono s1, h0⟩ ?_ ?_⟩
        · rintro i σ' H' hi' ⟨B', ρ', st', s', iv⟩
          exact hs i ρ' (by omega) iv B0 H0 B' H' _ st' (s'.setD j (.int _)) _ (fun σ2 B2 H2 ρ2 a b c => ⟨B2, ρ2, a, b, c⟩) fn
        · rintro σ' H' ⟨B', ρ', st', s', iv⟩
          exact nx σ' B' H' ρ' st' s' (hd ρ' iv)
theorem GS.forR1 {ta : TA} {j : Nat} {tb : TS} {hi : Int} (h : GA K E ta ρ [.int hi]) (hb : -100000 ≤ hi ∧ hi ≤ 100000) (Inv : Nat → Rho → Prop) (h0 : Inv 0 ρ)
    (hs : ∀ (i : Nat) ρ', (i : Int) < hi → Inv i ρ' → GS K E tb (ρ'.set j (some (.dat (.int (i : Int))))) (Inv (i + 1)) r) (hd : ∀ ρ', Inv hi.toNat ρ' → Nx ρ') : GS K E (tFor (iRng1 ta) (gName j) tb) ρ Nx r := fun B0 H0 B H σ st s D nx fn =>
  h H0 B H σ st.dh s _ fun vs B1 H1 s1 d1 => by
    cases d1 with
    | cons h1 t =>
      cases h1; cases t
      refine ⟨hi, rfl, by omega, by omega, for_range (lo := 0) (n := hi.toNat) (fun i σ' H' => ∃ B' ρ', Step B0 H0 B' H' ∧ Sl K H0 B' H' σ' ρ' ∧ Inv i ρ') ⟨B1, ρ, st.trans s1, s.mono s1, h0⟩ ?_ ?_⟩
      · rintro i σ' H' hi' ⟨B', ρ', st', s', iv⟩
        rw [show (0 : Int) + (i : Int) = (i : Int) from Int.zero_add _]
        exact hs i ρ' (by omega) iv B0 H0 B' H' _ st' (s'.setD j (.int _)) _ (fun σ2 B2 H2 ρ2 a b c => ⟨B2, ρ2, a, b, c⟩) fn
      · rintro σ' H' ⟨B', ρ', st', s', iv⟩
        exact nx σ' B' H' ρ' st' s' (hd ρ' iv)
theorem Step.base {B0 H0 B1 H1 : Hp} (s : Step B0 H0 B1 H1) : Step B1 H0 B1 H1 := ⟨Ex.refl B1, s.h, s.dh, fun _ _ n => n⟩
theorem Step.thru {B0 H0 B1 H1 B' H' : Hp} (s : Step B0 H0 B1 H1) (t : Step B1 H0 B' H') : Step B0 H0 B' H' := ⟨s.d.trans t.d, t.h, t.dh, fun a h n => t.fr a h (s.fr a h n)⟩
/-- for x in a list of data -/
theorem GS.forL {j : Nat} {tb : TS} {tl : TE} (h : GE K E tl ρ (.ok (.list ds))) (Inv : Nat → Rho → Prop) (h0 : Inv 0 ρ)
    (hs : ∀ (i : Nat) x ρ', ds[i]? = some x → Inv i ρ' → GS K E tb (ρ'.set j (some (.dat x))) (Inv (i + 1)) r) (hd : ∀ ρ', Inv ds.length ρ' → Nx ρ') : GS K E (tFor (iList K tl) (gName j) tb) ρ Nx r := fun B0 H0 B H σ st s D nx fn =>
  h H0 B H σ st.dh s _ (fin_ok fun v B1 H1 s1 d1 => by
    cases d1 with
    | @lst a xs ds hq ha =>
      have el := dps_len ha
      have st1 := st.trans s1
      have fn1 : Fin K E B1 H0 r D.rt := ⟨fun v B' H' t f => fn.go v B' H' (st1.thru t) f, fun C e B' H' t d => fn.up C e B' H' (st1.thru t) d⟩
      refine ⟨a, rfl, ⟨xs, ex_l s1.dh hq⟩, for_list (xs := xs) (fun i σ' H' => ∃ B' ρ', Step B1 H0 B' H' ∧ Sl K H0 B' H' σ' ρ' ∧ Inv i ρ') ⟨B1, ρ, st1.base, s.mono s1, h0⟩ ?_ ?_ ?_⟩
      · rintro i σ' H' _ ⟨B', ρ', st', s', iv⟩
        exact ex_l (st'.d.trans st'.dh) hq
      · rintro i x σ' H' hx ⟨B', ρ', st', s', iv⟩
        have hi : i < xs.length := (List.getElem?_eq_some_iff.mp hx).1
        have hd' : ds[i]? = some (ds[i]'(by omega)) := List.getElem?_eq_getElem _
        obtain ⟨u, e1, e2⟩ := dps_get ha hd'
        rw [hx] at e1
        cases e1
        exact hs i _ ρ' hd' iv B1 H0 B' H' _ st' (s'.setD j (dpM st'.d e2)) _ (fun σ2 B2 H2 ρ2 a b c => ⟨B2, ρ2, a, b, c⟩) fn1
      · rintro σ' H' ⟨B', ρ', st', s', iv⟩
        rw [el] at iv
        exact nx σ' B' H' ρ' (st1.thru st') s' (hd ρ' iv))
theorem GS.while {tb : TS} (Inv : Nat → Rho → Prop) (m0 : Nat) (h0 : Inv m0 ρ)
    (hs : ∀ m ρ', Inv m ρ' → ∃ b, GT K E tc ρ' b ∧ (b = true → GS K E tb ρ' (fun ρ2 => ∃ m', m' < m ∧ Inv m' ρ2) r) ∧ (b = false → Nx ρ')) : GS K E (tWhile tc tb) ρ Nx r := fun B0 H0 B H σ st s D nx fn => by
  refine ⟨fun m σ' H' => ∃ B' ρ', Step B0 H0 B' H' ∧ Sl K H0 B' H' σ' ρ' ∧ Inv m ρ', ⟨m0, B, ρ, st, s, h0⟩, ?_⟩
  rintro m σ' H' ⟨B', ρ', st', s', iv⟩
  obtain ⟨b, hb, h1, h2⟩ := hs m ρ' iv
  refine hb H0 B' H' σ' st'.dh s' _ fun B2 H2 s2 => ?_
  have st2 := st'.trans s2
  cases b with
  | true =>
    exact ⟨fun σ3 H3 => ∃ B3 ρ3, Step B0 H0 B3 H3 ∧ Sl K H0 B3 H3 σ3 ρ3 ∧ ∃ m', m' < m ∧ Inv m' ρ3, fun σ3 H3 ⟨B3, ρ3, a, b, m', hm, c⟩ => ⟨m', hm, B3, ρ3, a, b, c⟩,
      h1 rfl B0 H0 B2 H2 σ' st2 (s'.mono s2) _ (fun σ3 B3 H3 ρ3 a b c => ⟨B3, ρ3, a, b, c⟩) fn⟩
  | false => exact nx σ' B2 H2 ρ' st2 (s'.mono s2) (h2 rfl)
end

/-! ### defs -/
/-- the def x of the program's top keeps R, by at most level k -/
structure Fn (P : Program) (w : World) (K : PySem.W.Frag) (mg : Str → Option Value) (base : Heap) (k : Nat) (x : Str) (R : List PyData → Rs → Prop) : Prop where
  ex : ∃ (f : Addr) (fd : FuncData) (ps : List Str), FnOk P w K mg base (L2.CX P w) k f fd ps (spR K R) ∧ mg x = some (.ref f) ∧ PySem.W.keepIn K (.ref f) = true ∧ Binds K fd ps []
theorem pe_f {X : Cx} {P : Program} {w : World} {K : PySem.W.Frag} {mg : Str → Option Value} {base : Heap} {R : List PyData → Rs → Prop} {k j : Nat} {x : Str} {E : XK} {p pos : Pos} {e : Expr} {es : List Expr} {ta : TA} (C : Fn P w K mg base k x R) (hr : Room j X.A) (hk : k ≤ j) (pz : ∀ σ, PassesAt (L2.CX X.prog X.w) X σ E) (ha : PA X (e :: es) ta)
    (hP : X.prog = P := by rfl) (hw : X.w = w := by rfl) (hK : X.K = K := by rfl) (hmg : X.mg = mg := by rfl) (hB : X.base = base := by rfl) (hg : Gl X x := by rfl) (hdb : (x == ("__debug__" : Str)) = false := by decide) (he : starEach (e :: es) X.env = (false, eval e X.env) :: starEach es X.env := by rfl) (hpl : (backTo pos (starEach es X.env)).any (·.1) = false := by rfl) :
    PE X (.Call (.Name x p) (e :: es) [] pos) (tCallS (spR K R) (fun _ => E) ta) := by
  subst hP hw hK hmg hB
  obtain ⟨f, fd, ps, F, hm, hkp, hb⟩ := C.ex
  exact pe_callS F (hr.mono hk) hg hm hkp hb pz ha hdb he hpl
theorem pz0 {X : Cx} : ∀ σ, PassesAt (L2.CX X.prog X.w) X σ E0 := fun σ pins H s e s' I c => by
  obtain ⟨_, _, _, _, _, _, _, _, _, _, _, _, z⟩ := c
  exact z.elim
theorem sl_start {K : PySem.W.Frag} {B H : Hp} {N : List Str} {vs : List V} {ds : List PyData} (h : DpAll K B vs ds) : Sl K H B H (L2.start N vs) (ds.map (fun d => some (.dat d)) ++ List.replicate (N.length - ds.length) none) where
  len := by
    unfold L2.start
    rw [List.length_append, List.length_append, List.length_map, List.length_map, dps_len h, List.length_replicate, List.length_replicate]
  dat := fun i d e => by
    by_cases hi : i < ds.length
    · rw [List.getElem?_append_left (by simpa using hi), List.getElem?_map, List.getElem?_eq_getElem hi] at e
      cases e
      obtain ⟨v, e1, e2⟩ := dps_get h (List.getElem?_eq_getElem hi)
      refine ⟨v, ?_, e2⟩
      unfold L2.start
      rw [List.getElem?_append_left (by rw [List.length_map, dps_len h]; exact hi), List.getElem?_map, e1]
      rfl
    · rw [List.getElem?_append_right (by simpa using hi), List.getElem?_replicate] at e
      split at e <;> cases e
  own := fun i d e => by
    by_cases hi : i < ds.length
    · rw [List.getElem?_append_left (by simpa using hi), List.getElem?_map, List.getElem?_eq_getElem hi] at e
      cases e
    · rw [List.getElem?_append_right (by simpa using hi), List.getElem?_replicate] at e
      split at e <;> cases e
  sep := fun i j di dj _ e => by
    by_cases hi : i < ds.length
    · rw [List.getElem?_append_left (by simpa using hi), List.getElem?_map, List.getElem?_eq_getElem hi] at e
      cases e
    · rw [List.getElem?_append_right (by simpa using hi), List.getElem?_replicate] at e
      split at e <;> cases e
  fix := fun i d e => by
    by_cases hi : i < ds.length
    · rw [List.getElem?_append_left (by simpa using hi), List.getElem?_map, List.getElem?_eq_getElem hi] at e
      cases e
    · rw [List.getElem?_append_right (by simpa using hi), List.getElem?_replicate] at e
      split at e <;> cases e
  inv := fun i d iv e => by
    by_cases hi : i < ds.length
    · rw [List.getElem?_append_left (by simpa using hi), List.getElem?_map, List.getElem?_eq_getElem hi] at e
      cases e
    · rw [List.getElem?_append_right (by simpa using hi), List.getElem?_replicate] at e
      split at e <;> cases e
  isep := fun i j d iv es b e => by
    by_cases hi : i < ds.length
    · rw [List.getElem?_append_left (by simpa using hi), List.getElem?_map, List.getElem?_eq_getElem hi] at e
      cases e
    · rw [List.getElem?_append_right (by simpa using hi), List.getElem?_replicate] at e
      split at e <;> cases e
  iisep := fun i j d d' iv iv' _ e => by
    by_cases hi : i < ds.length
    · rw [List.getElem?_append_left (by simpa using hi), List.getElem?_map, List.getElem?_eq_getElem hi] at e
      cases e
    · rw [List.getElem?_append_right (by simpa using hi), List.getElem?_replicate] at e
      split at e <;> cases e
section
variable {P : Program} {w : World} {K : PySem.W.Frag} {mg : Str → Option Value} {base : Heap}
theorem ok_fnk {x qual : Str} {st : Stmt} {f : Addr} {fd : FuncData} {N ps : List Str} {k : Nat} {R : List PyData → Rs → Prop} (F : Fun K x qual st f fd) (S : FnScope N ps (defScope st)) (len : ∀ ds r, R ds r → ds.length = ps.length)
    (body : ∀ (cdv : Value) (A : Around) (outer : List Env) (s : Shared) (H : Hp) (E : XK), Room k (A.deeper (envOfC qual (defScope st) s.heap.objs.size f cdv)) →
      ∃ t, PSs (cxOf (L2.CX P w) P w K mg base N qual (defScope st) f cdv A outer s H E) (defBody st) t ∧ ∀ ds r, R ds r → GS K E t (ds.map (fun d => some (.dat d)) ++ List.replicate (N.length - ds.length) none) (fun _ => r = .ok .none) r) : FnOk P w K mg base (L2.CX P w) (k + 1) f fd ps (spR K R) := by
  refine F.okX S (fun vs H Q E h => ?_) (fun cdv A outer s H vs Q E hr h => ?_)
  · obtain ⟨B, ds, r, bh, hd, hR, _⟩ := h
    rw [dps_len hd]
    exact len ds r hR
  · obtain ⟨B, ds, r, bh, hd, hR, fn⟩ := h
    obtain ⟨t, hp, g⟩ := body cdv A outer s H E hr
    refine ⟨t, hp, g ds r hR B H B H (L2.start N vs) (.refl bh) (sl_start hd) _ (fun σ' B' H' ρ' st s e => ?_) fn⟩
    subst e
    exact fn.go .non B' H' st .non
theorem ok_fn {x qual : Str} {st : Stmt} {f : Addr} {fd : FuncData} {N ps : List Str} {k : Nat} {R : List PyData → Rs → Prop} (F : Fun K x qual st f fd) (S : FnScope N ps (defScope st)) (hm : mg x = some (.ref f)) (b : Binds K fd ps []) (len : ∀ ds r, R ds r → ds.length = ps.length)
    (body : ∀ (cdv : Value) (A : Around) (outer : List Env) (s : Shared) (H : Hp) (E : XK), Room k (A.deeper (envOfC qual (defScope st) s.heap.objs.size f cdv)) →
      ∃ t, PSs (cxOf (L2.CX P w) P w K mg base N qual (defScope st) f cdv A outer s H E) (defBody st) t ∧ ∀ ds r, R ds r → GS K E t (ds.map (fun d => some (.dat d)) ++ List.replicate (N.length - ds.length) none) (fun _ => r = .ok .none) r) : Fn P w K mg base (k + 1) x R :=
  ⟨f, fd, ps, ok_fnk F S len body, hm, F.kp, b⟩
/-- nothing is asked -/
theorem fn_none {x qual : Str} {st : Stmt} {f : Addr} {fd : FuncData} {ps : List Str} {R : List PyData → Rs → Prop} (F : Fun K x qual st f fd) (hm : mg x = some (.ref f)) (b : Binds K fd ps []) (no : ∀ ds r, ¬ R ds r) : Fn P w K mg base 0 x R := by
  have n : ∀ vs H Q E, ¬ spR K R vs H Q E := fun vs H Q E h => by
    obtain ⟨B, ds, r, _, _, hR, _⟩ := h
    exact no ds r hR
  exact ⟨f, fd, ps, ⟨fun vs H Q E h => absurd h (n vs H Q E), fun A outer s H args us vs Q E _ _ _ _ h => absurd h (n vs H Q E)⟩, hm, F.kp, b⟩
theorem Fn.sub {k : Nat} {x : Str} {R R' : List PyData → Rs → Prop} (C : Fn P w K mg base k x R) (h : ∀ ds r, R' ds r → R ds r) : Fn P w K mg base k x R' := by
  obtain ⟨f, fd, ps, F, r⟩ := C.ex
  have im : ∀ vs H Q E, spR K R' vs H Q E → spR K R vs H Q E := fun vs H Q E ⟨B, ds, r, a, b, c, d⟩ => ⟨B, ds, r, a, b, h ds r c, d⟩
  exact ⟨f, fd, ps, ⟨fun vs H Q E q => F.len vs H Q E (im _ _ _ _ q), fun A outer s H args us vs Q E a b c d q => F.run A outer s H args us vs Q E a b c d (im _ _ _ _ q)⟩, r⟩
theorem Fn.up {k j : Nat} {x : Str} {R : List PyData → Rs → Prop} (C : Fn P w K mg base k x R) (h : k ≤ j) : Fn P w K mg base j x R := by
  obtain ⟨f, fd, ps, F, r⟩ := C.ex
  exact ⟨f, fd, ps, ⟨F.len, fun A outer s H args us vs Q E hr => F.run A outer s H args us vs Q E (hr.mono h)⟩, r⟩
/-- an own class of errors, over ValueError -/
structure ExC (K : PySem.W.Frag) (mg : Str → Option Value) (x : Str) (C : Addr) : Prop where
  g : mg x = some (.ref C)
  x : PySem.W.excIn K C [.type "ValueError", .type "Exception", .type "BaseException", .type "object"] "ValueError.__new__" = true
  k : PySem.W.keepIn K (.ref C) = true
  b : PySem.W.subIn K (.ref C) (.type "BaseException") = some true
  t : PySem.W.typeIn K (.ref C) = some (.type "type")
end
theorem ps_rs {X : Cx} {x m : Str} {C : Addr} {E : XK} {j : Nat} {p p2 pos pos' : Pos} (T : ExC X.K X.mg x C) (hc : X.calm = true) (tk : Takes X (fun cls d _ H => E cls d H)) (hg : Gl X x := by rfl) (hdb : (x == ("__debug__" : Str)) = false := by decide) :
    PS X (.Raise (some (.Call (.Name x p) [.Constant (.str m) j p2] [] pos)) none pos') (tRaise E C) :=
  ps_raise hc tk (pmk_own PySem.F.excBase_ValueError T.x T.g T.k (raises_own T.b T.t) hg hdb)
/-- the end of a law: True at every script -/
def RLaw (ds : List PyData) (r : Rs) : Prop := ∃ ns : List Int, ds = [.list (ns.map .int)] ∧ ns.length ≤ 63 ∧ r = .ok (.bool true)
theorem law_sp {K : PySem.W.Frag} {H : Hp} {a : Addr} {ns : List Int} (hl : ns.length ≤ 63) (hS : SqL K H a (ns.map V.int)) : spR K RLaw [.ref a] H (fun v _ => v = .bl true) fun _ _ _ => False :=
  ⟨H, _, _, Ex.refl H, .cons (.lst hS (dps_of_ints ns)) .nil, ⟨ns, rfl, hl, rfl⟩, fun v B' H' st f => by cases f; rfl, fun C e => nomatch e⟩

/-! ### rules whose written part is named -/
section
variable {X : Cx}
theorem ixL (K : PySem.W.Frag) (h : X.K = K := by rfl) : IxR X (rIxL K) := by subst h; exact ix_list
theorem ixT (K : PySem.W.Frag) (h : X.K = K := by rfl) : IxR X (rIxT K) := by subst h; exact ix_tup
theorem cLen (K : PySem.W.Frag) (h : X.K = K := by rfl) : CallR X (.builtin "len") (rLenQ K) := by subst h; exact call_lenQ
theorem cIsi (K : PySem.W.Frag) (h : X.K = K := by rfl) : CallR X (.builtin "isinstance") (rIsi K) := by subst h; exact call_isi
theorem cSum (K : PySem.W.Frag) (hc : X.calm = true := by rfl) (h : X.K = K := by rfl) : CallR X (.builtin "sum") (rSum K) := by subst h; exact cr_sum hc
theorem cMin (K : PySem.W.Frag) (hc : X.calm = true := by rfl) (h : X.K = K := by rfl) : CallR X (.builtin "min") (rMin K) := by subst h; exact cr_min hc
theorem oEqD (K : PySem.W.Frag) (hu : X.A.units + 64 < cLine) (h : X.K = K := by rfl) : OpR X (compareOp .Eq) (rEqD K) := by subst h; exact op_eqD hu
theorem oNeD (K : PySem.W.Frag) (hu : X.A.units + 64 < cLine) (h : X.K = K := by rfl) : OpR X (compareOp .NotEq) (rNeD K) := by subst h; exact op_neD hu
/-- a constant of the module -/
theorem pe_gl (v : V) {x : Str} {pos : Pos} (hm : ∃ u, X.mg x = some u ∧ RelV v u) (hg : Gl X x := by rfl) (hd : (x == ("__debug__" : Str)) = false := by decide) : PE X (.Name x pos) (tC v) := by
  obtain ⟨u, h1, h2⟩ := hm
  exact pe_glob hg h1 h2 hd
end

/-! ### the end of a law's row -/
theorem walkE {l : PySem.W.OpenLaw} {k : Nat} {q : Program} {loose : List Str} {XP : (Str → Option Value) → Heap → Prop} {YP : World → Heap → Prop} {d : DefRec} {K : Params → PySem.W.Frag} (hn : l.most = some 63) (hdf : d.params.defaults = []) (hr : Room k callerA)
    (hY : ∀ (w : World) (h : Heap), YP w h → (K w.params).In h)
    (F : ∀ (w : World) (mg : Str → Option Value) (fa : Addr) (h : Heap), (K w.params).In h → h.Ns mainGlobals mg → mg d.name = some (.ref fa) →
      ∃ fd : FuncData, (∀ (s : Shared) (u : Value), BindsTo s fd ⟨[u], []⟩ [("script", u)]) ∧ ∀ base : Heap, (K w.params).In base → base.Ns mainGlobals mg → FnOk l.prog w (K w.params) mg base (L2.CX l.prog w) k fa fd ["script"] (spR (K w.params) RLaw)) :
    PySem.W.WalkO q loose XP YP l.row.toRowW d [] (fun f vs => PySem.call f vs) :=
  L2.walk_of (n := 63) (k := k) (x := "script") (CX := fun w => L2.CX l.prog w) (sp := fun w => spR (K w.params) RLaw) hn (by decide) hdf hr hY F (fun _ _ _ _ hl _ hS => law_sp hl hS) fun w H s e s' h => by
    obtain ⟨_, _, _, _, _, _, _, _, _, _, _, _, z⟩ := h
    exact z

/-! ### list(range(a, b)) -/
theorem GE.lrg {K : PySem.W.Frag} {E : XK} {ρ : Rho} {ta tb : TE} {a b : Int} (ha : GE K E ta ρ (.ok (.int a))) (hb : GE K E tb ρ (.ok (.int b))) (hz : RgOk a b) : GE K E (tLstRg (tRg2 ta tb)) ρ (.new (((List.range (b - a).toNat).map fun i : Nat => a + (i : Int)).map PyData.int)) := fun H0 B H σ bh s Q q =>
  ha H0 B H σ bh s _ (fin_ok fun v B1 H1 s1 d1 => hb H0 B1 H1 σ s1.dh (s.mono s1) _ (fin_ok fun w B2 H2 s2 d2 => by
    cases d1; cases d2
    refine ⟨a, b, rfl, rfl, hz, fun p hp => ?_⟩
    have s3 := s1.trans s2
    refine q.go _ B2 _ (s3.trans (.own s2.dh hp _)) ⟨p, rgV a b, rfl, fresh_back s3.h hp, none_of s2.dh hp, upd_same, ?_⟩
    have e : rgV a b = ((List.range (b - a).toNat).map fun i : Nat => a + (i : Int)).map V.int := by
      unfold rgV
      rw [List.map_map]
      rfl
    rw [e]
    exact dps_of_ints _))
theorem sh_ints (ns : List Int) : SeqAt.shaped (.list (ns.map PyData.int)) = true := by
  have h1 : ∀ ns : List Int, PyData.canLayAll0 (ns.map PyData.int) = true := fun ns => by
    induction ns with
    | nil => rfl
    | cons n ns ih => simp [PyData.canLayAll0, PyData.canLay0, ih]
  have h2 : ∀ ns : List Int, PyData.depthAll (ns.map PyData.int) = 0 := fun ns => by
    induction ns with
    | nil => rfl
    | cons n ns ih => simp [PyData.depthAll, PyData.depth, ih]
  unfold SeqAt.shaped
  simp [PyData.canLay0, PyData.depth, h1 ns, h2 ns]
theorem eqv_self {d : PyData} (h : SeqAt.shaped d = true) : PyData.eqv d d = true := SeqAt.eqv_refl _ (SeqAt.canLay_of_shaped h)

/-! ### comparisons that look at lists of one's own too -/
section
variable {K : PySem.W.Frag} {E : XK} {B H : Hp} {Q : VK} {ρ : Rho} {ta tb te : TE} {x y z d : PyData} {ds es : List PyData} {r r1 r2 : Rs} {Nx : Rho → Prop}
inductive IsD : Rs → PyData → Prop
  | ok (d : PyData) : IsD (.ok d) d
  | new (ds : List PyData) : IsD (.new ds) (.list ds)
  | ali (ds : List PyData) : IsD (.ali ds) (.list ds)
theorem isd_at {H0 : Hp} {v : V} (i : IsD r d) (bh : Ex B H) (f : Vok K H0 B H v r) : Dp K H v d := by
  cases i with
  | ok => exact dpM bh f
  | new =>
    obtain ⟨a, xs, rfl, h0, hb, h1, hd⟩ := f
    exact .lst (.inl (.inl h1)) (dpsM bh hd)
  | ali =>
    obtain ⟨a, xs, rfl, h1, hd⟩ := f
    exact .lst (.inl (.inl h1)) (dpsM bh hd)
theorem IsD.fin (i : IsD r d) (h : ∀ v B' H', Step B H B' H' → Vok K H B' H' v r → Q v H') : Fin K E B H r Q := ⟨h, fun C e => by cases i <;> cases e⟩
def RH (K : PySem.W.Frag) (r : R2) (x y : PyData) (b : Bool) : Prop := ∀ H v w, Dp K H v x → Dp K H w y → ∀ Q : VK, Q (.bl b) H → r v w H Q
theorem GE.opH {rr : R2} {b : Bool} (ha : GE K E ta ρ r1) (h1 : IsD r1 x) (hb : GE K E tb ρ r2) (h2 : IsD r2 y) (hr : RH K rr x y b) : GE K E (tOp rr ta tb) ρ (.ok (.bool b)) := fun H0 B H σ bh s Q q =>
  ha H0 B H σ bh s _ (h1.fin fun v B1 H1 s1 d1 => hb H0 B1 H1 σ s1.dh (s.mono s1) _ (h2.fin fun w B2 H2 s2 d2 =>
    hr H2 v w (isd_at h1 s2.dh (d1.mono s2)) (isd_at h2 s2.dh d2) Q (q.go _ B2 H2 (s1.trans s2) (.bl b))))
theorem rh_eq (hx : SeqAt.shaped x = true) (hy : SeqAt.shaped y = true) : RH K (rEqD K) x y (PyData.eqv x y) := fun H v w h1 h2 Q q => ⟨x, y, h1, h2, hx, hy, q⟩
theorem rh_ne (hx : SeqAt.shaped x = true) (hy : SeqAt.shaped y = true) : RH K (rNeD K) x y (!PyData.eqv x y) := fun H v w h1 h2 Q q => ⟨x, y, h1, h2, hx, hy, q⟩
theorem rh_in (hx : SeqAt.shaped x = true) (hy : SeqAt.shaped (.list ds) = true) : RH K (rInD K) x (.list ds) (ds.any fun z => PyData.eqv z x) := fun H v w h1 h2 Q q => ⟨x, ds, h1, h2, hx, hy, q⟩
theorem oInD {X : Cx} (K : PySem.W.Frag) (hu : X.A.units + 65 < cLine) (h : X.K = K := by rfl) : OpR X (compareOp .In) (rInD K) := by subst h; exact op_inD hu
/-- list(xs) -/
def rListQ (K : PySem.W.Frag) : List V → Hp → VK → Prop := fun xs H Q => ∃ p ys, xs = [.ref p] ∧ (SqL K H p ys ∨ SqT K H p ys) ∧ ∀ l, H l = none → Q (.ref l) (upd H l (.lst ys))
theorem cList {X : Cx} (K : PySem.W.Frag) (h : X.K = K := by rfl) : CallR X (.type "list") (rListQ K) := by subst h; exact call_list_of
theorem GE.list (h : GE K E te ρ r) (i : IsSq r ds) : GE K E (tCB (rListQ K) (tCons te tNil)) ρ (.new ds) := fun H0 B H σ bh s Q q =>
  h H0 B H σ bh s _ (i.fin fun v B1 H1 s1 d1 => by
    obtain ⟨a, xs, rfl, hs, hd⟩ := sq_at i s1.dh d1
    exact ⟨a, xs, rfl, hs, fun p hp => q.go _ B1 _ (s1.trans (.own s1.dh hp _)) ⟨p, xs, rfl, fresh_back s1.h hp, none_of s1.dh hp, upd_same, hd⟩⟩)
end
end Eg
namespace Eg
open PySem PySem.Spec PyProof.Rows L2
/-! ### how many floors are told apart -/
def rch : Nat → Nat → Nat
  | 0, _ => 0
  | _ + 1, 0 => 0
  | k + 1, t + 1 => rch (k + 1) t + rch k t + 1
theorem rch_next (k t : Nat) : rch (k + 1) (t + 1) = rch (k + 1) t + rch k t + 1 := rfl
theorem rch_zero : ∀ k : Nat, rch k 0 = 0
  | 0 => rfl
  | _ + 1 => rfl
def rowD (n t : Nat) : List PyData := (List.range (n + 1)).map fun k => .int (rch k t)
theorem rowD_len (n t : Nat) : (rowD n t).length = n + 1 := by
  unfold rowD
  rw [List.length_map, List.length_range]
theorem flat_one {α : Type} (x : α) : ∀ m : Nat, (List.replicate m [x]).flatten = List.replicate m x
  | 0 => rfl
  | m + 1 => by
    rw [List.replicate_succ, List.flatten_cons, flat_one x m]
    rfl
theorem row_start {n : Nat} : Rs.new (List.replicate ((n : Int) + 1).toNat [PyData.int 0]).flatten = Rs.new (rowD n 0) := by
  rw [flat_one, show ((n : Int) + 1).toNat = n + 1 by omega]
  refine congrArg Rs.new (List.ext_getElem? fun i => ?_)
  unfold rowD
  rw [List.getElem?_replicate, List.getElem?_map]
  by_cases h : i < n + 1
  · rw [if_pos h, List.getElem?_range h, Option.map_some, rch_zero]
    rfl
  · rw [if_neg h, List.getElem?_eq_none (by rw [List.length_range]; omega)]
    rfl
theorem row_next {n t : Nat} : Rs.new ([PyData.int 0] ++ given ((n : Int) + 1 - 1).toNat (fun _ => true) (fun j => PyData.int (rch (j + 1) (t + 1)))) = Rs.new (rowD n (t + 1)) := by
  rw [given_all, show ((n : Int) + 1 - 1).toNat = n by omega]
  unfold rowD
  rw [List.range_succ_eq_map, List.map_cons, List.map_map]
  rfl
theorem atI_nat' {α : Type} {xs : List α} {i : Int} {j : Nat} {x : α} (e : i = (j : Int)) (h : xs[j]? = some x) : atI xs i = some x := by
  subst e
  exact atI_nat h
theorem row_at {n t j : Nat} {i : Int} (e : i = (j : Int)) (h : j ≤ n) : atI (rowD n t) i = some (.int (rch j t)) := by
  refine atI_nat' e ?_
  unfold rowD
  rw [List.getElem?_map, List.getElem?_range (by omega)]
  rfl
def R_rows (ds : List PyData) (r : Rs) : Prop := ∃ n t : Nat, ds = [.int n, .int t] ∧ n ≤ 12 ∧ t ≤ 1000 ∧ r = .new (rowD n t)
end Eg
namespace Eg
open PySem PySem.Spec PyProof.Rows L2
def badR (n t : Int) : Bool := decide (n < 0) || (decide (12 < n) || (decide (t < 0) || decide (200 < t)))
theorem badR_no {n t : Int} (h : badR n t = false) : ∃ n' t' : Nat, n = n' ∧ t = t' ∧ n' ≤ 12 ∧ t' ≤ 200 := by
  unfold badR at h
  simp only [Bool.or_eq_false_iff, decide_eq_false_iff_not] at h
  exact ⟨n.toNat, t.toNat, by omega, by omega, by omega, by omega⟩
def R_reach (C : Addr) (ds : List PyData) (r : Rs) : Prop := ∃ n t : Int, ds = [.int n, .int t] ∧ r = if badR n t = true then .exc C else .ok (.int (rch n.toNat t.toNat))
theorem R_reach_ok {C : Addr} {n t : Nat} (hn : n ≤ 12) (ht : t ≤ 200) : R_reach C [.int n, .int t] (.ok (.int (rch n t))) := by
  refine ⟨n, t, rfl, ?_⟩
  have h : badR n t = false := by
    unfold badR
    simp only [Bool.or_eq_false_iff, decide_eq_false_iff_not]
    omega
  rw [if_neg (by rw [h]; decide)]
  rfl
/-! ### cells -/
def cell (ns : List Int) (k : Nat) : Int := ns.getD k 0
theorem cell_in {ns : List Int} {k : Nat} (h : k < ns.length) : atI (ns.map PyData.int) (k : Int) = some (.int (cell ns k)) := by
  refine atI_nat ?_
  rw [List.getElem?_map, List.getElem?_eq_getElem h]
  show some (PyData.int ns[k]) = _
  unfold cell
  rw [List.getD_eq_getElem?_getD, List.getElem?_eq_getElem h]
  rfl
theorem cell_out {ns : List Int} {k : Nat} (h : ns.length ≤ k) : cell ns k = 0 := by
  unfold cell
  rw [List.getD_eq_getElem?_getD, List.getElem?_eq_none h]
  rfl
def R_cell (ds : List PyData) (r : Rs) : Prop := ∃ (ns : List Int) (k : Nat), ds = [.list (ns.map .int), .int k] ∧ r = .ok (.int (cell ns k))
def R_whole (ds : List PyData) (r : Rs) : Prop := ∃ i : Int, ds = [.int i] ∧ r = .ok (.bool true)
theorem mod_nat (i : Int) {m : Int} (h : 0 < m) : ∃ n : Nat, (n : Int) < m ∧ i % m = n := by
  have h1 := Int.emod_nonneg i (show m ≠ 0 by omega)
  have h2 := Int.emod_lt_of_pos i h
  exact ⟨(i % m).toNat, by omega, by omega⟩
/-! ### ways to choose -/
def ch : Nat → Nat → Nat
  | _, 0 => 1
  | 0, _ + 1 => 0
  | n + 1, k + 1 => ch n k + ch n (k + 1)
theorem ch_zero (n : Nat) : ch n 0 = 1 := by cases n <;> rfl
theorem ch_next (n k : Nat) : ch (n + 1) (k + 1) = ch n k + ch n (k + 1) := rfl
theorem ch_big : ∀ {n k : Nat}, n < k → ch n k = 0
  | 0, k + 1, _ => rfl
  | n + 1, k + 1, h => by rw [ch_next, ch_big (show n < k by omega), ch_big (show n < k + 1 by omega)]
/-- (k + 1) C(n, k + 1) = (n - k) C(n, k) -/
theorem ch_mul : ∀ (n k : Nat), ((k : Int) + 1) * (ch n (k + 1) : Int) = ((n : Int) - k) * (ch n k : Int)
  | 0, 0 => by simp [ch]
  | 0, k + 1 => by simp [ch]
  | n + 1, 0 => by
    have ih := ch_mul n 0
    rw [ch_next, ch_zero, ch_zero]
    rw [ch_zero] at ih
    push_cast at ih ⊢
    omega
  | n + 1, k + 1 => by
    have h1 := ch_mul n k
    have h2 := ch_mul n (k + 1)
    rw [ch_next n (k + 1), ch_next n k]
    push_cast at h1 h2 ⊢
    generalize (ch n k : Int) = a at h1 h2 ⊢
    generalize (ch n (k + 1) : Int) = c at h1 h2 ⊢
    generalize (ch n (k + 1 + 1) : Int) = d at h1 h2 ⊢
    have e1 : ((k : Int) + 1 + 1) * (c + d) = ((k : Int) + 1) * c + c + ((k : Int) + 1 + 1) * d := by
      rw [Int.mul_add, Int.add_mul ((k : Int) + 1) 1 c, Int.one_mul]
    have e2 : ((n : Int) + 1 - ((k : Int) + 1)) * (a + c) = ((n : Int) - k) * a + (((n : Int) - ((k : Int) + 1)) * c + c) := by
      rw [show (n : Int) + 1 - ((k : Int) + 1) = (n : Int) - k by omega, Int.mul_add, show (n : Int) - k = ((n : Int) - ((k : Int) + 1)) + 1 by omega, Int.add_mul ((n : Int) - ((k : Int) + 1)) 1 c, Int.one_mul]
    rw [e1, e2, h1, h2]
    omega
theorem ch_step {m i : Nat} : ((ch m i : Int) * ((m : Int) - (i : Int))) / ((i : Int) + 1) = (ch m (i + 1) : Int) := by
  rw [Int.mul_comm, ← ch_mul m i]
  exact Int.mul_ediv_cancel_left _ (by omega)
def R_choose (ds : List PyData) (r : Rs) : Prop := ∃ m k : Nat, ds = [.int m, .int k] ∧ m ≤ 1000 ∧ k ≤ 12 ∧ r = .ok (.int (ch m k))
/-- their sum -/
def chs (d : Nat) : Nat → Nat
  | 0 => 0
  | t + 1 => chs d t + ch d (t + 1)
theorem chs_rch : ∀ (d t : Nat), chs d t = rch t d ∧ chs (d + 1) (t + 1) = chs d (t + 1) + chs d t + 1
  | d, 0 => by
    constructor
    · cases d <;> rfl
    · show chs (d + 1) 0 + ch (d + 1) 1 = chs d 0 + ch d 1 + chs d 0 + 1
      rw [ch_next, ch_zero]
      show 0 + (1 + ch d 1) = 0 + ch d 1 + 0 + 1
      omega
  | d, t + 1 => by
    have h := (chs_rch d t).2
    constructor
    · cases d with
      | zero =>
        have z : ∀ t, chs 0 t = 0 := fun t => by
          induction t with
          | zero => rfl
          | succ t ih =>
            show chs 0 t + ch 0 (t + 1) = 0
            rw [ih]
            rfl
        rw [z]
        rfl
      | succ d =>
        rw [(chs_rch d t).2, rch_next, (chs_rch d t).1, (chs_rch d (t + 1)).1]
    · show chs (d + 1) (t + 1) + ch (d + 1) (t + 1 + 1) = chs d (t + 1) + ch d (t + 1 + 1) + chs d (t + 1) + 1
      rw [h, ch_next]
      show _ = chs d (t + 1) + ch d (t + 1 + 1) + (chs d t + ch d (t + 1)) + 1
      omega
  termination_by d t => (d, t)
theorem chs_sum (d : Nat) : ∀ t : Nat, ((List.range t).map fun i => (ch d (i + 1) : Int)).sum = (chs d t : Int)
  | 0 => rfl
  | t + 1 => by
    rw [List.range_succ, List.map_append, List.sum_append, chs_sum d t]
    show (chs d t : Int) + ((ch d (t + 1) : Int) + 0) = ((chs d t + ch d (t + 1) : Nat) : Int)
    push_cast
    omega
theorem chs_min (d : Nat) : ∀ t : Nat, chs d (min t d) = chs d t
  | 0 => by rw [Nat.zero_min]
  | t + 1 => by
    by_cases h : t + 1 ≤ d
    · rw [Nat.min_eq_left h]
    · have ih := chs_min d t
      rw [show min (t + 1) d = min t d by omega, ih]
      show _ = chs d t + ch d (t + 1)
      rw [ch_big (show d < t + 1 by omega)]
      rfl
theorem rch_sum (t : Nat) (d : Int) (h : -1 ≤ d) : Rs.ok (PyData.int ((List.range (min (t : Int) d).toNat).map fun i => (ch d.toNat (i + 1) : Int)).sum) = Rs.ok (.int (rch t d.toNat)) := by
  rw [chs_sum, ← (chs_rch d.toNat t).1, ← chs_min d.toNat t]
  by_cases hd : 0 ≤ d
  · rw [show (min (t : Int) d).toNat = min t d.toNat by omega]
  · rw [show (min (t : Int) d).toNat = 0 by omega, show d.toNat = 0 by omega, Nat.min_zero]
def R_lreach (ds : List PyData) (r : Rs) : Prop := ∃ (t : Nat) (d : Int), ds = [.int t, .int d] ∧ t ≤ 12 ∧ -1 ≤ d ∧ d ≤ 1000 ∧ r = .ok (.int (rch t d.toNat))
end Eg
namespace Eg
open PySem PySem.Spec PyProof.Rows L2
/-! ### the fewest drops -/
def badA1 (n t : Int) : Bool := decide (n < 0) || (decide (1000 < n) || (decide (t < 0) || decide (12 < t)))
def badA2 (n t : Int) : Bool := decide (0 < n) && decide (t = 0)
def badA (n t : Int) : Bool := badA1 n t || badA2 n t
theorem badA_no {n t : Int} (h : ¬ badA n t = true) : ∃ n' t' : Nat, n = n' ∧ t = t' ∧ n' ≤ 1000 ∧ t' ≤ 12 ∧ (n' = 0 ∨ 1 ≤ t') := by
  unfold badA badA1 badA2 at h
  simp only [Bool.or_eq_true, Bool.and_eq_true, decide_eq_true_eq] at h
  exact ⟨n.toNat, t.toNat, by omega, by omega, by omega, by omega, by omega⟩
theorem badA_of {n t : Nat} (h1 : n ≤ 1000) (h2 : t ≤ 12) (h3 : n = 0 ∨ 1 ≤ t) : ¬ badA n t = true := by
  unfold badA badA1 badA2
  simp only [Bool.or_eq_true, Bool.and_eq_true, decide_eq_true_eq]
  omega
def R_ask (C : Addr) (ds : List PyData) (r : Rs) : Prop := ∃ n t : Int, ds = [.int n, .int t] ∧ r = if badA n t = true then .exc C else .ok .none
theorem rch_0 (t : Nat) : rch 0 t = 0 := by cases t <;> rfl
theorem rch_mono (k : Nat) : ∀ t : Nat, rch k t ≤ rch k (t + 1) := by
  cases k with
  | zero => exact fun t => by rw [rch_0, rch_0]; exact Nat.le_refl _
  | succ k =>
    intro t
    rw [rch_next]
    omega
theorem rch_le (k : Nat) {s t : Nat} (h : s ≤ t) : rch k s ≤ rch k t := by
  induction h with
  | refl => exact Nat.le_refl _
  | step _ ih => exact Nat.le_trans ih (rch_mono k _)
theorem rch_ge (k : Nat) : ∀ t : Nat, t ≤ rch (k + 1) t
  | 0 => Nat.zero_le _
  | t + 1 => by
    have ih := rch_ge k t
    rw [rch_next]
    omega
theorem rch_pos {k t : Nat} (hk : 1 ≤ k) (ht : 1 ≤ t) : rch k t = rch k (t - 1) + rch (k - 1) (t - 1) + 1 := by
  obtain ⟨k, rfl⟩ : ∃ j, k = j + 1 := ⟨k - 1, by omega⟩
  obtain ⟨t, rfl⟩ : ∃ j, t = j + 1 := ⟨t - 1, by omega⟩
  exact rch_next k t
def needF (k f : Nat) : Nat → Nat → Nat
  | 0, t => t
  | n + 1, t => if f ≤ rch k t then t else needF k f n (t + 1)
/-- the least number of drops whose reach is f or more -/
def need (k f : Nat) : Nat := needF k f f 0
structure IsNeed (k f t : Nat) : Prop where
  ge : f ≤ rch k t
  lt' : ∀ s, s < t → rch k s < f
theorem IsNeed.lt {k f t s : Nat} (h : IsNeed k f t) (hs : rch k s < f) : s < t := by
  by_cases q : s < t
  · exact q
  · have := rch_le k (show t ≤ s by omega)
    have := h.ge
    omega
theorem IsNeed.le {k f t s : Nat} (h : IsNeed k f t) (hs : f ≤ rch k s) : t ≤ s := by
  by_cases q : t ≤ s
  · exact q
  · have := h.lt' s (by omega)
    omega
theorem IsNeed.pos {k f t : Nat} (h : IsNeed k f t) (hf : 1 ≤ f) : 1 ≤ t := by
  by_cases q : 1 ≤ t
  · exact q
  · have e : t = 0 := by omega
    subst e
    have := h.ge
    rw [rch_zero] at this
    omega
theorem IsNeed.uniq {k f t s : Nat} (h : IsNeed k f t) (g : IsNeed k f s) : t = s := Nat.le_antisymm (h.le g.ge) (g.le h.ge)
theorem needF_spec {k f : Nat} : ∀ (n t : Nat), f ≤ rch k (t + n) → (∀ s, s < t → rch k s < f) → IsNeed k f (needF k f n t)
  | 0, t, h, hl => ⟨h, hl⟩
  | n + 1, t, h, hl => by
    unfold needF
    split
    · next q => exact ⟨q, hl⟩
    · next q => exact needF_spec n (t + 1) (by rw [show t + 1 + n = t + (n + 1) by omega]; exact h) (fun s hs => by
        by_cases e : s = t
        · subst e
          omega
        · exact hl s (by omega))
theorem need_spec {k f : Nat} (h : f = 0 ∨ 1 ≤ k) : IsNeed k f (need k f) := by
  refine needF_spec f 0 ?_ fun s hs => by omega
  rcases h with rfl | h
  · exact Nat.zero_le _
  · obtain ⟨k, rfl⟩ : ∃ j, k = j + 1 := ⟨k - 1, by omega⟩
    rw [Nat.zero_add]
    exact rch_ge k f
theorem need_le {k f : Nat} (h : 1 ≤ k) : need k f ≤ f := by
  refine (need_spec (.inr h)).le ?_
  obtain ⟨k, rfl⟩ : ∃ j, k = j + 1 := ⟨k - 1, by omega⟩
  exact rch_ge k f
def R_needed (ds : List PyData) (r : Rs) : Prop := ∃ f n : Nat, ds = [.int f, .int n] ∧ f ≤ 1000 ∧ n ≤ 12 ∧ (f = 0 ∨ 1 ≤ n) ∧ r = .ok (.int (need n f))
def R_fewest (C : Addr) (ds : List PyData) (r : Rs) : Prop := ∃ n t : Int, ds = [.int n, .int t] ∧ r = if badA n t = true then .exc C else .ok (.int (need t.toNat n.toNat))
theorem R_fewest_ok {C : Addr} {n t : Nat} (h1 : n ≤ 1000) (h2 : t ≤ 12) (h3 : n = 0 ∨ 1 ≤ t) : R_fewest C [.int n, .int t] (.ok (.int (need t n))) := ⟨n, t, rfl, by rw [if_neg (badA_of h1 h2 h3)]; rfl⟩
/-- the first drops -/
def loD (k f : Nat) : Int := max 1 ((f : Int) - (rch k (need k f - 1) : Int))
def hiD (k f : Nat) : Int := min (f : Int) ((rch (k - 1) (need k f - 1) : Int) + 1)
def R_first (ds : List PyData) (r : Rs) : Prop := ∃ f n : Nat, ds = [.int f, .int n] ∧ 1 ≤ f ∧ f ≤ 1000 ∧ 1 ≤ n ∧ n ≤ 12 ∧ r = .ok (.tuple [.int (loD n f), .int (hiD n f)])
def R_choices (C : Addr) (ds : List PyData) (r : Rs) : Prop := ∃ n t : Int, ds = [.int n, .int t] ∧ r = if badA n t = true then .exc C else if n = 0 then .ok .none else .ok (.tuple [.int (loD t.toNat n.toNat), .int (hiD t.toNat n.toNat)])
theorem R_choices_ok {C : Addr} {n t : Nat} (h0 : 1 ≤ n) (h1 : n ≤ 1000) (h2 : t ≤ 12) (h3 : 1 ≤ t) : R_choices C [.int n, .int t] (.ok (.tuple [.int (loD t n), .int (hiD t n)])) :=
  ⟨n, t, rfl, by rw [if_neg (badA_of h1 h2 (.inr h3)), if_neg (by omega)]; rfl⟩
theorem R_choices_none {C : Addr} {t : Nat} (h2 : t ≤ 12) : R_choices C [.int (0 : Nat), .int t] (.ok .none) :=
  ⟨((0 : Nat) : Int), t, rfl, by rw [if_neg (badA_of (by omega) h2 (.inl rfl)), if_pos (show ((0 : Nat) : Int) = 0 from rfl)]⟩
def R_pair (ds : List PyData) (r : Rs) : Prop := ∃ x y : Int, ds = [.tuple [.int x, .int y]] ∧ r = .ok (.bool true)
/-- the bounds of the first drops -/
theorem lo_hi {k f : Nat} (hk : 1 ≤ k) (hf : 1 ≤ f) : 1 ≤ loD k f ∧ loD k f ≤ hiD k f ∧ hiD k f ≤ f := by
  have sp := need_spec (k := k) (f := f) (.inr hk)
  have hp := sp.pos hf
  have h1 := rch_pos (k := k) (t := need k f) hk hp
  have h2 := sp.ge
  have h3 := sp.lt' (need k f - 1) (by omega)
  unfold loD hiD
  omega
/-- d is a first drop by what is left on both sides -/
theorem lo_hi_iff {k f : Nat} (d : Int) (h1 : 1 ≤ d) (h2 : d ≤ f) : (d - 1 ≤ (rch (k - 1) (need k f - 1) : Int) ∧ (f : Int) - d ≤ (rch k (need k f - 1) : Int)) ↔ (loD k f ≤ d ∧ d ≤ hiD k f) := by
  unfold loD hiD
  omega
theorem filt_int (n a b : Nat) (hab : a ≤ b) (hb : b < n) : (List.range n).filter (fun i => decide (a ≤ i) && decide (i ≤ b)) = List.range' a (b + 1 - a) := by
  obtain ⟨m, rfl⟩ : ∃ m, n = a + ((b + 1 - a) + m) := ⟨n - (b + 1), by omega⟩
  rw [List.range_eq_range', ← List.range'_append_1, ← List.range'_append_1, List.filter_append, List.filter_append]
  rw [List.filter_eq_nil_iff.mpr, List.filter_eq_self.mpr, List.filter_eq_nil_iff.mpr, List.append_nil, List.nil_append, Nat.zero_add]
  · intro x hx
    have := List.mem_range'_1.mp hx
    simp only [Bool.and_eq_true, decide_eq_true_eq]
    omega
  · intro x hx
    have := List.mem_range'_1.mp hx
    simp only [Bool.and_eq_true, decide_eq_true_eq]
    omega
  · intro x hx
    have := List.mem_range'_1.mp hx
    simp only [Bool.and_eq_true, decide_eq_true_eq]
    omega
end Eg
namespace Eg
open PySem PySem.Spec PyProof.Rows L2
theorem sh_pair (x y : Int) : SeqAt.shaped (.tuple [.int x, .int y]) = true := by
  unfold SeqAt.shaped
  simp [PyData.canLay0, PyData.canLayAll0, PyData.depth, PyData.depthAll]
theorem eqv_pair (x y : Int) : PyData.eqv (.tuple [.int x, .int y]) (.tuple [.int x, .int y]) = true := SeqAt.eqv_refl _ (SeqAt.canLay_of_shaped (sh_pair x y))
theorem due_ends {k f : Nat} (hk : 1 ≤ k) (hf : 1 ≤ f) : atI (given f (fun i => decide ((1 : Int) + i - 1 ≤ (rch (k - 1) (need k f - 1) : Int)) && decide ((f : Int) - (1 + i) ≤ (rch k (need k f - 1) : Int))) (fun i => .int (1 + (i : Int)))) 0 = some (.int (loD k f)) ∧
    atI (given f (fun i => decide ((1 : Int) + i - 1 ≤ (rch (k - 1) (need k f - 1) : Int)) && decide ((f : Int) - (1 + i) ≤ (rch k (need k f - 1) : Int))) (fun i => .int (1 + (i : Int)))) (-1) = some (.int (hiD k f)) := by
  obtain ⟨h1, h2, h3⟩ := lo_hi hk hf
  have e : given f (fun i => decide ((1 : Int) + i - 1 ≤ (rch (k - 1) (need k f - 1) : Int)) && decide ((f : Int) - (1 + i) ≤ (rch k (need k f - 1) : Int))) (fun i => .int (1 + (i : Int))) = (List.range' ((loD k f).toNat - 1) ((hiD k f).toNat + 1 - (loD k f).toNat)).map fun (i : Nat) => PyData.int (1 + (i : Int)) := by
    unfold given
    rw [show (hiD k f).toNat + 1 - (loD k f).toNat = ((hiD k f).toNat - 1) + 1 - ((loD k f).toNat - 1) by omega, ← filt_int f _ _ (by omega) (by omega)]
    refine congrArg (List.map _) (List.filter_congr fun i hi => ?_)
    have hi' := List.mem_range.mp hi
    have q := lo_hi_iff (k := k) (f := f) (1 + (i : Int)) (by omega) (by omega)
    rw [← Bool.decide_and, ← Bool.decide_and]
    exact decide_eq_decide.mpr (Iff.trans q (by omega))
  rw [e]
  constructor
  · refine atI_nat' (j := 0) rfl ?_
    rw [List.getElem?_map, List.getElem?_range' (by omega)]
    exact congrArg (fun z => some (PyData.int z)) (by omega)
  · unfold atI ixN
    rw [List.length_map, List.length_range', if_neg (by decide), if_pos (by omega)]
    show (List.map _ _)[(-1 + (((hiD k f).toNat + 1 - (loD k f).toNat : Nat) : Int)).toNat]? = _
    rw [List.getElem?_map, List.getElem?_range' (by omega)]
    exact congrArg (fun z => some (PyData.int z)) (by omega)
end Eg
namespace Eg
open PySem PySem.Spec PyProof.Rows L2
open Evl (Ex fresh_back ex_l ex_t ex_rd)
/-! ### texts as lists of signs -/
def tx (l : List Nat) : Str := ⟨l.toArray⟩
theorem tx_tl (l : List Nat) : (tx l).cps.toList = l := rfl
theorem tx_len (l : List Nat) : (tx l).length = l.length := by
  show l.toArray.size = _
  exact List.size_toArray ..
theorem tx_eq {z : Str} {l : List Nat} (h : TL.tl z = l) : z = tx l := TL.ext_tl h
theorem tx_app (a b : List Nat) : tx a ++ tx b = tx (a ++ b) := by
  refine tx_eq ?_
  rw [TL.tl_append]
  rfl
theorem tx_inj {a b : List Nat} : (tx a = tx b) ↔ a = b := ⟨fun h => congrArg TL.tl h, fun h => h ▸ rfl⟩
theorem tx_one (c : Nat) : (⟨#[c]⟩ : Str) = tx [c] := rfl
theorem sz24 {n : Nat} (h : n ≤ 1000000) : n ≤ sizeLine := Nat.le_trans h (by decide +kernel)
def rAddT : R2 := fun x y H Q => ∃ i j, x = .str i ∧ y = .str j ∧ i.length + j.length ≤ sizeLine ∧ Q (.str (i ++ j)) H
theorem oAddT {X : Cx} : OpR X (binaryOp .Add) rAddT := op_add_str
def rInS : R2 := fun x y H Q => ∃ (c : Nat) (z : Str), x = .str ⟨#[c]⟩ ∧ y = .str z ∧ Q (.bl (decide (c ∈ z.cps.toList))) H
theorem oInS {X : Cx} : OpR X (compareOp .In) rInS := op_in_sign
def rLenS : List V → Hp → VK → Prop := fun xs H Q => ∃ z, xs = [.str z] ∧ z.length ≤ sizeLine ∧ Q (.int z.length) H
theorem cLenS {X : Cx} : CallR X (.builtin "len") rLenS := call_len_str
def rIntS : List V → Hp → VK → Prop := fun xs H Q => ∃ a n, xs = [.str a] ∧ PySem.intText? a = some n ∧ a.length ≤ 640 ∧ Q (.int n) H
theorem cIntS {X : Cx} : CallR X (.type "int") rIntS := call_int_str
def rStrI : List V → Hp → VK → Prop := fun xs H Q => ∃ i : Int, xs = [.int i] ∧ i.natAbs.log2 < 1920 ∧ Q (.str (toString i)) H
theorem cStrI {X : Cx} : CallR X (.type "str") rStrI := call_str_int
def rIntB : List V → Hp → VK → Prop := fun xs H Q => (∃ i, xs = [.int i] ∧ Q (.int i) H) ∨ ∃ k, xs = [.bl k] ∧ Q (.int (if k then 1 else 0)) H
theorem cIntB {X : Cx} : CallR X (.type "int") rIntB := call_int1
section
variable {K : PySem.W.Frag} {E : XK} {ρ : Rho} {ta tb te : TE} {a b l : List Nat}
theorem GE.strC {x : Str} (h : TL.tl x = l) : GE K E (tC (.str x)) ρ (.ok (.str (tx l))) := GE.to GE.str (by rw [tx_eq h])
theorem rd_addT (h : a.length + b.length ≤ 1000000) : RD K rAddT (.str (tx a)) (.str (tx b)) (.str (tx (a ++ b))) := fun B v w h1 h2 H bh Q q => by
  cases h1; cases h2
  refine ⟨_, _, rfl, rfl, by rw [tx_len, tx_len]; exact sz24 h, ?_⟩
  rw [tx_app]
  exact q _ (.str _)
theorem rd_inS {c : Nat} : RD K rInS (.str (tx [c])) (.str (tx l)) (.bool (decide (c ∈ l))) := fun B v w h1 h2 H bh Q q => by
  cases h1; cases h2
  exact ⟨c, tx l, rfl, rfl, q _ (.bl _)⟩
theorem rd_ixS {i : Int} {c : Nat} (h : atI l i = some c) (hz : l.length ≤ 1000000) : RD K rIxS (.str (tx l)) (.int i) (.str (tx [c])) := fun B v w h1 h2 H bh Q q => by
  cases h1; cases h2
  exact ⟨tx l, i, c, rfl, rfl, by rw [tx_len]; exact sz24 hz, h, q _ (.str _)⟩
theorem GE.lenS (h : GE K E te ρ (.ok (.str (tx l)))) (hz : l.length ≤ 1000000) : GE K E (tCB rLenS (tCons te tNil)) ρ (.ok (.int l.length)) := GE.cb (ds := [.str (tx l)]) (GA.cons h GA.nil) fun B vs H bh hd Q q => by
  cases hd with
  | cons h1 t =>
    cases h1; cases t
    refine ⟨tx l, rfl, by rw [tx_len]; exact sz24 hz, ?_⟩
    rw [tx_len]
    exact q _ (.int _)
theorem GE.intS {n : Int} (h : GE K E te ρ (.ok (.str (tx l)))) (hd : NumText.AllDigits l) (h0 : l ≠ []) (hz : l.length ≤ 640) (hn : n = NumText.digitsVal l) : GE K E (tCB rIntS (tCons te tNil)) ρ (.ok (.int n)) := GE.cb (ds := [.str (tx l)]) (GA.cons h GA.nil) fun B vs H bh hd' Q q => by
  cases hd' with
  | cons h1 t =>
    cases h1; cases t
    subst hn
    exact ⟨tx l, _, rfl, intText_digits (x := tx l) hd h0 (by rw [tx_len]; omega), by rw [tx_len]; exact hz, q _ (.int _)⟩
theorem GE.strI {n : Nat} (h : GE K E te ρ (.ok (.int n))) (hz : n ≤ 1000) : GE K E (tCB rStrI (tCons te tNil)) ρ (.ok (.str (tx (TL.numL n)))) := GE.cb (ds := [.int n]) (GA.cons h GA.nil) fun B vs H bh hd' Q q => by
  cases hd' with
  | cons h1 t =>
    cases h1; cases t
    refine ⟨_, rfl, ?_, ?_⟩
    · show (n : Int).natAbs.log2 < 1920
      rw [Int.natAbs_natCast]
      by_cases h0 : n = 0
      · subst h0; decide
      · have := Nat.log2_self_le h0
        have h2 : n < 2 ^ 10 := by omega
        have := (Nat.log2_lt h0).mpr h2
        omega
    · have e : ((toString (n : Int) : String) : Str) = tx (TL.numL n) := tx_eq (TL.tl_num n)
      show Q (.str ((toString (n : Int) : String) : Str)) H
      rw [e]
      exact q _ (.str _)
theorem GE.intB {x : Bool} (h : GE K E te ρ (.ok (.bool x))) : GE K E (tCB rIntB (tCons te tNil)) ρ (.ok (.int (if x then 1 else 0))) := GE.cb (ds := [.bool x]) (GA.cons h GA.nil) fun B vs H bh hd' Q q => by
  cases hd' with
  | cons h1 t =>
    cases h1; cases t
    exact .inr ⟨x, rfl, q _ (.int _)⟩
/-- bounds of slices -/
def GO (K : PySem.W.Frag) (E : XK) (to : TO) (ρ : Rho) (o : Option Int) : Prop := ∀ H0 B H σ, Ex B H → Sl K H0 B H σ ρ → ∀ Q : Option Int → Hp → Prop, (∀ B' H', Step B H B' H' → Q o H') → to σ H Q
theorem GO.none : GO K E tNoPart ρ Option.none := fun H0 B H σ bh s Q q => q B H (.refl bh)
theorem GO.some {i : Int} (h : GE K E te ρ (.ok (.int i))) : GO K E (tPart te) ρ (some i) := fun H0 B H σ bh s Q q =>
  h H0 B H σ bh s _ (fin_ok fun v B1 H1 s1 d1 => by
    cases d1
    exact ⟨i, rfl, q B1 H1 s1⟩)
theorem GE.slS {to tp : TO} {o p : Option Int} {m : List Nat} (h : GE K E te ρ (.ok (.str (tx l)))) (ho : GO K E to ρ o) (hp : GO K E tp ρ p) (hz : l.length ≤ 1000000) (e : cutS (tx l) o p = tx m) : GE K E (tSl rSlS te to tp) ρ (.ok (.str (tx m))) := fun H0 B H σ bh s Q q =>
  h H0 B H σ bh s _ (fin_ok fun v B1 H1 s1 d1 => ho H0 B1 H1 σ s1.dh (s.mono s1) _ fun B2 H2 s2 => hp H0 B2 H2 σ s2.dh (s.mono (s1.trans s2)) _ fun B3 H3 s3 => by
    cases d1
    refine ⟨tx l, rfl, by rw [tx_len]; exact sz24 hz, ?_⟩
    rw [e]
    exact q.go _ B3 H3 ((s1.trans s2).trans s3) (.str _))
theorem cut_mid {i j : Int} (p m q : List Nat) (hl : l = p ++ m ++ q) (hi : i = p.length) (hj : j = (p.length + m.length : Nat)) : cutS (tx l) (some i) (some j) = tx m := by
  subst hl hi hj
  refine tx_eq ?_
  unfold cutS
  rw [HT.sIx_nat, HT.sIx_nat, tx_len, tx_tl]
  show ((((p ++ m ++ q).drop _).take _).toArray).toList = m
  rw [show min p.length (p ++ m ++ q).length = p.length by simp only [List.length_append]; omega, show min (p.length + m.length) (p ++ m ++ q).length = p.length + m.length by simp only [List.length_append]; omega, show p.length + m.length - p.length = m.length by omega, List.append_assoc, List.drop_left, List.take_left] <;> rfl
theorem cut_sign {i j : Int} (p s : List Nat) (hl : l = p ++ s) (hi : i = p.length) (hj : j = (p.length + 1 : Nat)) : cutS (tx l) (some i) (some j) = tx (s.take 1) := by
  cases s with
  | nil =>
    subst hl hi hj
    refine tx_eq ?_
    unfold cutS
    rw [HT.sIx_nat, HT.sIx_nat, tx_len, tx_tl]
    show ((((p ++ []).drop _).take _).toArray).toList = []
    rw [List.append_nil, Nat.min_self, List.drop_length, List.take_nil]
  | cons c s => exact cut_mid p [c] s (by simp [hl]) hi hj
theorem cut_to {j : Int} (p q : List Nat) (hl : l = p ++ q) (hj : j = p.length) : cutS (tx l) none (some j) = tx p := by
  subst hl hj
  refine tx_eq ?_
  unfold cutS
  rw [HT.sIx_none, HT.sIx_nat, tx_len, tx_tl]
  show ((((p ++ q).drop 0).take _).toArray).toList = p
  rw [show min p.length (p ++ q).length - 0 = p.length by simp only [List.length_append]; omega, List.drop_zero, List.take_left] <;> rfl
theorem cut_from {i : Int} (n : Nat) (hi : i = n) : cutS (tx l) (some i) none = tx (l.drop n) := by
  subst hi
  refine tx_eq ?_
  unfold cutS
  rw [HT.sIx_none, HT.sIx_nat, tx_len, tx_tl]
  show (((l.drop _).take _).toArray).toList = _
  by_cases h : n ≤ l.length
  · rw [Nat.min_eq_left h, List.take_of_length_le (by rw [List.length_drop]; exact Nat.le_refl _)]
  · rw [Nat.min_eq_right (by omega), List.drop_length, List.take_nil, List.drop_eq_nil_of_le (by omega)]
end
theorem at_mid {l : List Nat} {i : Int} (p : List Nat) (c : Nat) (s : List Nat) (hl : l = p ++ c :: s) (hi : i = p.length) : atI l i = some c := by
  subst hl
  exact atI_nat' hi (by simp)
theorem txd {a b : List Nat} : decide (tx a = tx b) = decide (a = b) := by
  by_cases h : a = b
  · rw [decide_eq_true h, decide_eq_true (tx_inj.mpr h)]
  · rw [decide_eq_false h, decide_eq_false fun z => h (tx_inj.mp z)]
end Eg
namespace Eg
open PySem PySem.Spec PyProof.Rows L2
open Evl (Ex fresh_back ex_l ex_t ex_rd)
/-! ### the classes of errors, asked -/
theorem kit_own {K : PySem.W.Frag} {D C : Addr} {b : Bool} (hc : PySem.W.hasDictIn K C = true) (ht : PySem.W.typeIn K (.ref C) = some (.type "type")) (hs : PySem.W.subIn K (.ref D) (.ref C) = some b) (hn : b = false → (Value.ref D == Value.ref C) = false) : PySem.W.kitOne K (.ref D) (.ref C) = some b := by
  obtain ⟨cd, hcd, _⟩ := PySem.W.any_some hc
  have e2 : ((PySem.W.clsIn K C).isSome && PySem.W.typeIn K (.ref C) == some (.type "type")) = true := by rw [hcd, ht] <;> rfl
  have e3 : PySem.W.kitCls K (.ref D) (.ref C) = some b := by
    show (if _ then PySem.W.subIn K (.ref D) (.ref C) else none) = some b
    rw [if_pos e2, hs]
  show (if (Value.ref D == Value.ref C) = true then some true else PySem.W.kitCls K (.ref D) (.ref C)) = some b
  rw [e3]
  cases b with
  | true => split <;> rfl
  | false => rw [hn rfl] <;> rfl
theorem kit_val {K : PySem.W.Frag} {D : Addr} {n : String} {b : Bool} (hm : PySem.W.kitMeta n = true) (hs : PySem.W.subIn K (.ref D) (.type n) = some b) (hn : (Value.ref D == Value.type n) = false) : PySem.W.kitOne K (.ref D) (.type n) = some b := by
  show (if (Value.ref D == Value.type n) = true then some true else if PySem.W.kitMeta n = true then PySem.W.subIn K (.ref D) (.type n) else none) = some b
  rw [hn, hm, hs] <;> rfl
/-- isinstance(e, c), e the exception that a suite holds: its object is at a -/
theorem isE {X : Cx} {K : PySem.W.Frag} {a D : Addr} {oe : Obj} (F : L2.ExcC K D) (hz : Zc (.ref D) none oe) (hf : ∃ vs, oe.data = .fields vs) (hp : (a, oe) ∈ X.pn) (hK : X.K = K := by rfl) : CallR X (.builtin "isinstance") (rIsE K D a) := by
  subst hK
  rintro pins s σ H xs us Q I r ⟨c, cv, b, rfl, only, ek, q⟩
  cases r with
  | cons r1 rest =>
  cases rest with
  | cons r2 rest =>
  cases rest
  cases r1
  cases only _ r2
  have there := (I.pin (a, oe) (List.mem_append.mpr (.inl hp))).1
  obtain ⟨vs, hv⟩ := hf
  have at_ : PySem.W.InstAt s.heap a oe D none := by
    rcases oe with ⟨o1, o2, o3, o4⟩
    rcases hz with ⟨z1, z2⟩
    dsimp only at z1 z2 hv
    cases z1; cases z2; cases hv
    exact ⟨there, rfl, rfl, trivial⟩
  refine PySem.W.kia_one (PySem.W.handS_kitx_exc F.hg F.hk F.hs F.hd F.ha F.hn F.ht F.hm) I.kIn at_ ek (fun z => nomatch z) fun tk => ?_
  exact ⟨.bl b, H, I.kept (t' := tk) fun _ _ z => z, rfl, q⟩
def Wh (K : PySem.W.Frag) (C1 C2 C3 C4 : Addr) (D : Addr) (ds : List PyData) : Prop := L2.ExcC K D ∧ ∃ b1 b2 b3 b4 b5, PySem.W.kitOne K (.ref D) (.ref C1) = some b1 ∧ PySem.W.kitOne K (.ref D) (.ref C2) = some b2 ∧ PySem.W.kitOne K (.ref D) (.ref C3) = some b3 ∧ PySem.W.kitOne K (.ref D) (.ref C4) = some b4 ∧ PySem.W.kitOne K (.ref D) (.type "ValueError") = some b5 ∧ ds = [.bool b1, .bool b2, .bool b3, .bool b4, .bool b5]
section
variable {K : PySem.W.Frag} {E : XK} {ρ : Rho}
theorem GE.isE {i : Nat} {a D : Addr} {c : V} {cv : Value} {b : Bool} (h : ρ[i]? = some (some (.fix (.ref a)))) (hc : ∀ u, RelV c u → u = cv) (hk : PySem.W.kitOne K (.ref D) cv = some b) : GE K E (tCB (rIsE K D a) (tCons (tVar i) (tCons (tC c) tNil))) ρ (.ok (.bool b)) := fun H0 B H σ bh s Q q =>
  ⟨.ref a, s.fix i _ h, c, cv, b, rfl, hc, hk, q.go _ B H (.refl bh) (.bl b)⟩
theorem Sl.setFix {H0 B H : Hp} {σ : L2.St} (s : Sl K H0 B H σ ρ) (i : Nat) {v : V} : Sl K H0 B H (σ.set i (some v)) (ρ.set i (some (.fix v))) where
  len := by rw [List.length_set, List.length_set, s.len]
  dat := fun j e h => by
    rcases set_get h with ⟨rfl, q⟩ | ⟨n, q⟩
    · cases q
    · rw [List.getElem?_set_ne n]
      exact s.dat j e q
  own := fun j ds h => by
    rcases set_get h with ⟨rfl, q⟩ | ⟨n, q⟩
    · cases q
    · rw [List.getElem?_set_ne n]
      exact s.own j ds q
  sep := fun j k dj dk hjk hj hk => by
    rcases set_get hj with ⟨rfl, q⟩ | ⟨n, q⟩
    · cases q
    · rcases set_get hk with ⟨rfl, q'⟩ | ⟨n', q'⟩
      · cases q'
      · rw [List.getElem?_set_ne n, List.getElem?_set_ne n']
        exact s.sep j k dj dk hjk q q'
  fix := fun j u h => by
    rcases set_get h with ⟨rfl, q⟩ | ⟨n, q⟩
    · cases q
      have hl := set_lt h
      rw [← s.len] at hl
      exact List.getElem?_set_self hl
    · rw [List.getElem?_set_ne n]
      exact s.fix j u q
  inv := fun j u iv h => by
    rcases set_get h with ⟨rfl, q⟩ | ⟨n, q⟩
    · cases q
    · rw [List.getElem?_set_ne n]
      exact s.inv j u iv q
  isep := fun j k u iv es b hj hk hb => by
    rcases set_get hj with ⟨rfl, q⟩ | ⟨n, q⟩
    · cases q
    · rcases set_get hk with ⟨rfl, q'⟩ | ⟨n', q'⟩
      · cases q'
      · rw [List.getElem?_set_ne n'] at hb
        exact s.isep j k u iv es b q q' hb
  iisep := fun j k u u' iv iv' hjk hj hk => by
    rcases set_get hj with ⟨rfl, q⟩ | ⟨n, q⟩
    · cases q
    · rcases set_get hk with ⟨rfl, q'⟩ | ⟨n', q'⟩
      · cases q'
      · exact s.iisep j k u u' iv iv' hjk q q'
theorem sl_fix1 {B H : Hp} {N : List Str} {v : V} (hN : N.length = 2) : Sl K H B H (L2.start N [v]) [some (.fix v), none] where
  len := by
    unfold L2.start
    rw [List.length_append, List.length_map, List.length_replicate, hN] <;> rfl
  dat := fun i d h => by
    match i, h with
    | 0, h => cases h
    | 1, h => cases h
  own := fun i d h => by
    match i, h with
    | 0, h => cases h
    | 1, h => cases h
  sep := fun i j di dj _ h => by
    match i, h with
    | 0, h => cases h
    | 1, h => cases h
  fix := fun i u h => by
    match i, h with
    | 0, h =>
      cases h
      rfl
    | 1, h => cases h
  inv := fun i u iv h => by
    match i, h with
    | 0, h => cases h
    | 1, h => cases h
  isep := fun i j u iv es b h => by
    match i, h with
    | 0, h => cases h
    | 1, h => cases h
  iisep := fun i j u u' iv iv' _ h => by
    match i, h with
    | 0, h => cases h
    | 1, h => cases h
end
/-- a def of one argument, the exception that is handled; it comes to a new list by W -/
structure FnW (P : Program) (w : World) (K : PySem.W.Frag) (mg : Str → Option Value) (base : Heap) (x : Str) (W : Addr → List PyData → Prop) : Prop where
  ex : ∃ (f : Addr) (fd : FuncData) (n : Str), mg x = some (.ref f) ∧ PySem.W.keepIn K (.ref f) = true ∧ Binds K fd [n] [] ∧
    ∀ (A : Around) (outer : List Env) (s : Shared) (H : Hp) (args : Args) (Q : VK) (E : XK) (p : Addr × Obj) (D : Addr) (ds : List PyData), L2H.RoomH 1 A → Zc (.ref D) none p.2 → (∃ vs, p.2.data = .fields vs) → L2H.PinOk outer H s p → Env0 P w K mg base A outer s H →
      BindsTo s fd args [(n, .ref p.1)] → W D ds → (∃ B, Ex B H ∧ Fin K E0 B H (.new ds) Q) → codeAny (model P w) A (.call (.ref f) args) (CR (L2.CX P w) outer P w H s Q E) s
theorem fnW_mk {P : Program} {w : World} {K : PySem.W.Frag} {mg : Str → Option Value} {base : Heap} {x n : Str} {st : Stmt} {f : Addr} {fd : FuncData} {N : List Str} {W : Addr → List PyData → Prop} (F : Fun K x x st f fd) (S : FnScope N [n] (defScope st)) (hN : N.length = 2) (hm : mg x = some (.ref f)) (hb : Binds K fd [n] [])
    (body : ∀ (cdv : Value) (A : Around) (outer : List Env) (s : Shared) (H : Hp) (E : XK) (p : Addr × Obj) (D : Addr) (ds : List PyData), Zc (.ref D) none p.2 → (∃ vs, p.2.data = .fields vs) → W D ds → ∃ t, PSs (L2H.cxH (L2.CX P w) P w K mg base N x (defScope st) f cdv A outer s H E p) (defBody st) t ∧ GS K E0 t [some (.fix (.ref p.1)), none] (fun _ => False) (.new ds)) : FnW P w K mg base x W := by
  have kp := F.kp
  obtain ⟨oc, od, kV, doc, pm, an, cdv, ct, osl, rfl, lk, hcd⟩ := F.ex
  refine ⟨f, _, n, hm, kp, hb, fun A outer s H args Q E p D ds room hz hf okp env bt hW hQ => ?_⟩
  have inH : K.In s.heap := env.mod.kin.keeps fun b o e => (env.bs b o e).1
  have noLim : s.heap.NoLimit := env.mod.nolimit.keeps fun b o e => (env.bs b o e).1
  refine codeAny_call_function room.depth (inH _ _ lk) rfl S.co S.gen rfl (PySem.W.codeRec_of inH hcd) (bt _ _ _ _ ?_)
  refine wpAny_newFunctionEnv_cells S.kind (fun y hy => ?_) fun env1 he s1 call => ?_
  · rw [List.mem_singleton.mp hy]
    rcases S.par n (List.mem_singleton.mpr rfl) with k1 | k1
    · exact .inl k1
    · exact .inr ⟨k1, PySem.W.cellsFrom_some _ _ _ (.inl k1)⟩
  cases he
  refine ⟨noLim.keeps call.toInCall.keep, codeAny_func ?_⟩
  obtain ⟨t, ht, g⟩ := body cdv A outer s H E p D ds hz hf hW
  have I := L2H.inv_startH (CX := L2.CX P w) (E := E) (f := f) (cd := cdv) (vs := [.ref p.1]) S okp env rfl (.cons rfl .nil) call
  obtain ⟨B, bh, fin⟩ := hQ
  have hq : t { nx := fun _ H' => Q .non H', rt := Q } (L2.start N [.ref p.1]) H := g B H B H _ (.refl bh) (sl_fix1 hN) _ (fun _ _ _ _ _ _ z => z.elim) (fin_new fun v B' H' st' fv => fin.go v B' H' st' fv)
  refine wpAny_mono (ht.run [] s1 (L2.start N [.ref p.1]) H _ I hq) (fun fl s2 h2 => ?_) fun e s2 h2 => h2
  cases fl with
  | ret u =>
    obtain ⟨v, σ2, H2, J, rv, q⟩ := h2
    exact ⟨v, H2, J.os, J.bare, J.base, J.hok, rv, q⟩
  | next =>
    obtain ⟨σ2, H2, J, q⟩ := h2
    exact ⟨.non, H2, J.os, J.bare, J.base, J.hok, rfl, q⟩
  | brk =>
    obtain ⟨_, _, _, q⟩ := h2
    exact q.elim
  | cont =>
    obtain ⟨_, _, _, q⟩ := h2
    exact q.elim
def tWhich (K : PySem.W.Frag) (W : Addr → List PyData → Prop) (i : Nat) (a : Addr) (cls : Value) (d : Option Addr) : TE := fun σ H Q =>
  ∃ (D : Addr) (ds : List PyData), cls = .ref D ∧ d = none ∧ W D ds ∧ σ[i]? = some (some (.ref a)) ∧ ∃ B, Ex B H ∧ Fin K E0 B H (.new ds) Q
theorem pe_which {X : Cx} {P : Program} {w : World} {K : PySem.W.Frag} {mg : Str → Option Value} {base : Heap} {W : Addr → List PyData → Prop} {x : Str} {a : Addr} {oe : Obj} {cls : Value} {d : Option Addr} {pn : List (Addr × Obj)} {i k : Nat} {e : Expr} {p0 pos : Pos}
    (F : FnW P w K mg base x W) (hz : Zc cls d oe) (hf : ∃ vs, oe.data = .fields vs) (hr : Room k X.A) (hk : 1 ≤ k) (ha : PA (X.suite a ((a, oe) :: pn)) [e] (tCons (tVar i) tNil))
    (hP : X.prog = P := by rfl) (hw : X.w = w := by rfl) (hK : X.K = K := by rfl) (hmg : X.mg = mg := by rfl) (hB : X.base = base := by rfl) (hg : Gl X x := by rfl) (hdb : (x == ("__debug__" : Str)) = false := by decide)
    (he : starEach [e] X.env = [(false, eval e X.env)] := by rfl) (hpl : (backTo pos (starEach ([] : List Expr) X.env)).any (·.1) = false := by rfl) :
    PE (X.suite a ((a, oe) :: pn)) (.Call (.Name x p0) [e] [] pos) (tWhich K W i a cls d) := by
  subst hP hw hK hmg hB
  obtain ⟨f, fd, n, hm, hkp, hb, run⟩ := F.ex
  refine ⟨fun pins s σ H Q I h => ?_⟩
  obtain ⟨D, ds, rfl, rfl, hW, hs, hQ⟩ := h
  have go : ∀ {s1 : Shared} {us : List Value} {H1 : Hp}, Inv (X.suite a ((a, oe) :: pn)) pins σ H1 s1 → us = [.ref a] → (∃ B, Ex B H1 ∧ Fin X.K E0 B H1 (.new ds) Q) → wpAny (model X.prog X.w) (X.suite a ((a, oe) :: pn)).A (call (.ref f) us) (EP (X.suite a ((a, oe) :: pn)) pins σ Q) (X.suite a ((a, oe) :: pn)).xe s1 := by
    rintro s1 us H1 I1 rfl q1
    have pin := I1.pin (a, oe) (List.mem_append_left _ (List.mem_cons_self ..))
    have okp : L2H.PinOk X.stack H1 s1 (a, oe) := ⟨pin.1, pin.2.1, fun hm' => (List.mem_cons.mp (I1.stkSub a hm')).elim pin.2.2.1 pin.2.2.2.1, pin.2.2.2.2⟩
    have bt := hb s1 [.ref a] I1.kIn rfl
    have room : L2H.RoomH 1 (X.suite a ((a, oe) :: pn)).A := ⟨(hr.mono hk).dp, (hr.mono hk).un⟩
    have c := run (X.suite a ((a, oe) :: pn)).A X.stack s1 H1 ⟨[.ref a], []⟩ Q E0 (a, oe) D ds room hz hf okp I1.env0 bt hW q1
    refine wpAny_call (codeAny_mono c fun r s2 hq => ?_)
    rcases r with er | fl
    · obtain ⟨_, _, _, _, _, _, _, _, _, _, _, _, z⟩ := hq
      exact z.elim
    · cases fl with
      | ret u => exact I1.after hq
      | next => exact hq.elim
      | brk => exact hq.elim
      | cont => exact hq.elim
  refine wpAny_Call_Name_kw (ld_glob I hg hm ?_ hdb)
  refine PySem.W.callWith_K (h₀ := X.base) I.ok.mod.kin hkp (thn (ha.run pos pins s σ H (fun vs H1 => vs = [.ref a] ∧ ∃ B, Ex B H1 ∧ Fin X.K E0 B H1 (.new ds) Q) I ⟨.ref a, hs, rfl, hQ⟩) fun us s1 ⟨vs, H1, I1, rv, ev, q1⟩ => ⟨I1.kIn, ?_⟩) he hpl
  subst ev
  refine go I1 ?_ q1
  cases rv with
  | cons r1 rest =>
    cases rest
    cases r1
    rfl
/-- a call in a try's body -/
theorem pe_fW {X : Cx} {P : Program} {w : World} {K : PySem.W.Frag} {mg : Str → Option Value} {base : Heap} {R : List PyData → Rs → Prop} {k j : Nat} {x : Str} {W : WX} {p pos : Pos} {e : Expr} {es : List Expr} {ta : TA} (C : Fn P w K mg base k x R) (hr : Room j X.A) (hk : k ≤ j) (tk : Takes X W) (ha : PA X (e :: es) ta)
    (hP : X.prog = P := by rfl) (hw : X.w = w := by rfl) (hK : X.K = K := by rfl) (hmg : X.mg = mg := by rfl) (hB : X.base = base := by rfl) (hg : Gl X x := by rfl) (hdb : (x == ("__debug__" : Str)) = false := by decide) (he : starEach (e :: es) X.env = (false, eval e X.env) :: starEach es X.env := by rfl) (hpl : (backTo pos (starEach es X.env)).any (·.1) = false := by rfl) :
    PE X (.Call (.Name x p) (e :: es) [] pos) (tCallS (spR K R) (WE W) ta) := by
  subst hP hw hK hmg hB
  obtain ⟨f, fd, ps, F, hm, hkp, hb⟩ := C.ex
  exact pe_callS F (hr.mono hk) hg hm hkp hb (passAt tk) ha hdb he hpl
/-! ### try: body, except x as n: suite -/
section
variable {K : PySem.W.Frag} {E E' : XK} {ρ : Rho} {Nx : Rho → Prop} {r : Rs} {o : Option Addr}
/-- a body: it goes on, or lets out an error of the class o with the names as they were -/
def GB (K : PySem.W.Frag) (tb : WX → TS) (ρ : Rho) (o : Option Addr) (Nx : Rho → Prop) : Prop := ∀ B0 H0 B H σ, Step B0 H0 B H → Sl K H0 B H σ ρ → ∀ (W : WX) (D : Ends),
  (∀ σ' B' H' ρ', Step B0 H0 B' H' → Sl K H0 B' H' σ' ρ' → Nx ρ' → D.nx σ' H') → (∀ C, o = some C → ∀ B' H', Step B H B' H' → W (.ref C) none σ H') → tb W D σ H
theorem GB.ifs {tc : TT} {b : Bool} {t u : WX → TS} (h : GT K E' tc ρ b) (h1 : b = true → GB K t ρ o Nx) (h2 : b = false → GB K u ρ o Nx) : GB K (fun W => tIfS tc (t W) (u W)) ρ o Nx := fun B0 H0 B H σ st s W D nx up =>
  h H0 B H σ st.dh s _ fun B' H' st' => by
    cases b with
    | true => exact h1 rfl B0 H0 B' H' σ (st.trans st') (s.mono st') W D nx fun C e B2 H2 s2 => up C e B2 H2 (st'.trans s2)
    | false => exact h2 rfl B0 H0 B' H' σ (st.trans st') (s.mono st') W D nx fun C e B2 H2 s2 => up C e B2 H2 (st'.trans s2)
theorem GB.next (n : Nx ρ) : GB K (fun _ => tNext) ρ o Nx := fun B0 H0 B H σ st s W D nx up => nx σ B H ρ st s n
/-- what the call comes to: an error, or what is let go on -/
def outX : Rs → Option Addr
  | .exc C => some C
  | _ => none
theorem GB.drop {R : List PyData → Rs → Prop} {ta : TA} {ds : List PyData} {q : Rs} (ha : GA K E' ta ρ ds) (hr : R ds q) (ho : outX q = o) (n : o = none → Nx ρ) : GB K (fun W => tDrop (tCallS (spR K R) (WE W) ta)) ρ o Nx := fun B0 H0 B H σ st s W D nx up =>
  ha H0 B H σ st.dh s _ fun vs B1 H1 s1 d1 => ⟨B1, ds, q, s1.dh, d1, hr, fun v B2 H2 s2 f => nx σ B2 H2 ρ (st.trans (s1.trans s2)) (s.mono (s1.trans s2)) (n (by subst ho; cases q <;> first | rfl | exact f.elim)), fun C e B2 H2 s2 d ed => by
    subst e ho ed
    exact up C rfl B2 H2 (s1.trans s2)⟩
theorem GB.asg {R : List PyData → Rs → Prop} {ta : TA} {ds : List PyData} {d : PyData} {i : Nat} (ha : GA K E' ta ρ ds) (hr : R ds (.ok d)) (n : Nx (ρ.set i (some (.dat d)))) : GB K (fun W => tAsg (tCallS (spR K R) (WE W) ta) (gName i)) ρ o Nx := fun B0 H0 B H σ st s W D nx up =>
  ha H0 B H σ st.dh s _ fun vs B1 H1 s1 d1 => ⟨B1, ds, .ok d, s1.dh, d1, hr, fun v B2 H2 s2 f => nx _ B2 H2 _ (st.trans (s1.trans s2)) ((s.mono (s1.trans s2)).setD i f) n, fun C e => nomatch e⟩
theorem GB.asgX {R : List PyData → Rs → Prop} {ta : TA} {ds : List PyData} {C : Addr} {i : Nat} (ha : GA K E' ta ρ ds) (hr : R ds (.exc C)) : GB K (fun W => tAsg (tCallS (spR K R) (WE W) ta) (gName i)) ρ (some C) Nx := fun B0 H0 B H σ st s W D nx up =>
  ha H0 B H σ st.dh s _ fun vs B1 H1 s1 d1 => ⟨B1, ds, .exc C, s1.dh, d1, hr, fun v B2 H2 s2 f => f.elim, fun C' e B2 H2 s2 d ed => by
    cases e; cases ed
    exact up C rfl B2 H2 (s1.trans s2)⟩
def tTryAs (K : PySem.W.Frag) (c : Value) (i : Nat) (tb : WX → TS) (ts : Addr → Value → Option Addr → TS) (Wout : WX) : TS := fun D σ H => tb (wAs K c i ts Wout D) D σ H
theorem ps_tryA {X : Cx} {x n : Str} {c : Value} {i : Nat} {body suite : List Stmt} {b₀ : Stmt} {np pos pos' : Pos} {tb : WX → TS} {ts : Addr → Value → Option Addr → TS} {Wout : WX} (K : PySem.W.Frag) (h1 : X.stack = X.env :: X.outer) (h2 : X.env.frame = some X.env.locals) (h3 : X.N.Nodup) (h4 : X.N[i]? = some n) (h5 : X.env.kindOf n = some .local) (h6 : Names X x c) (h7 : Takes X Wout)
    (hb : ∀ (W : WX) (pn : List (Addr × Obj)) (xe : Value → Shared → Prop), Takes (X.tr pn xe) W → PassesOwn (model X.prog X.w) X.A X.env xe → PSs (X.tr pn xe) body (tb W))
    (hs : ∀ (a : Addr) (oe : Obj) (cls : Value) (d : Option Addr) (pn : List (Addr × Obj)), Zc cls d oe → (∃ vs, oe.data = .fields vs) → PSs (X.suite a ((a, oe) :: pn)) (b₀ :: suite) (ts a cls d)) (hK : X.K = K := by rfl) :
    PS X (.Try body [.ExceptHandler (some (.Name x np)) (some n) (b₀ :: suite) pos'] [] [] pos) (tTryAs K c i tb ts Wout) := by
  subst hK
  exact ps_try_as h1 h2 h3 h4 h5 h6 h7 hb hs
theorem GS.tryAs {c : Value} {i : Nat} {tb : WX → TS} {ts : Addr → Value → Option Addr → TS} {Wout : WX} (o : Option Addr) (hb : GB K tb ρ o Nx) (hx : ∀ C, o = some C → PySem.W.exmOne K (.ref C) c = some true ∧ ∀ a, GS K E (ts a (.ref C) none) (ρ.set i (some (.fix (.ref a)))) (fun ρ' => Nx (ρ'.set i none)) r) :
    GS K E (tTryAs K c i tb ts Wout) ρ Nx r := fun B0 H0 B H σ st s D nx fn =>
  hb B0 H0 B H σ st s _ D nx fun C e B' H' st' => by
    obtain ⟨ht, hg⟩ := hx C e
    refine ⟨true, ht, fun _ a ha => ?_, fun q => nomatch q⟩
    exact hg a B0 H0 B' H' _ (st.trans st') ((s.mono st').setFix i) _ (fun σ2 B2 H2 ρ2 s2 sl n => nx _ B2 H2 _ s2 (sl.forget i) n) fn
theorem GS.asgWhich {i j : Nat} {a D : Addr} {W : Addr → List PyData → Prop} {ds : List PyData} (hW : W D ds) (h : ρ[i]? = some (some (.fix (.ref a)))) (n : Nx (ρ.set j (some (.own ds)))) : GS K E (tAsg (tWhich K W i a (.ref D) none) (gName j)) ρ Nx r := fun B0 H0 B H σ st s D' nx fn =>
  ⟨D, ds, rfl, rfl, hW, s.fix i _ h, B, st.dh, fin_new fun v B' H' st' f => by
    obtain ⟨b, xs, rfl, h0, hb, h1, hd⟩ := f
    refine nx _ B' H' _ (st.trans st') ((s.mono st').setN j (fresh_back st.h h0) hb h1 hd (fun m dm q z => ?_) fun m u iv q z => ((s.inv m u iv q).2.2 b z).2.2 h0) n
    obtain ⟨b', ys, e1, _, _, e2, _⟩ := s.own m dm q
    rw [e1] at z
    cases z
    rw [h0] at e2
    cases e2⟩
end
end Eg
namespace Eg
open PySem PySem.Spec PyProof.Rows L2
open Evl (Ex fresh_back ex_l ex_t ex_rd)
/-! ### objects made -/
structure FnMk (P : Program) (w : World) (K : PySem.W.Frag) (mg : Str → Option Value) (base : Heap) (k : Nat) (C : Addr) (sp : Sp) : Prop where
  ex : ∃ (f : Addr) (fd : FuncData) (ps : List Str), FnOk P w K mg base (L2.CX P w) k f fd ps sp ∧ Mk K C f ∧ Binds K fd ps []
theorem pe_mk {X : Cx} {P : Program} {w : World} {K : PySem.W.Frag} {mg : Str → Option Value} {base : Heap} {sp : Sp} {k j : Nat} {x : Str} {C : Addr} {E : XK} {p pos : Pos} {e : Expr} {es : List Expr} {ta : TA} (F : FnMk P w K mg base k C sp) (hm : mg x = some (.ref C)) (hr : Room j X.A) (hk : k + 1 ≤ j) (hx : Passes (L2.CX X.prog X.w) X E) (ha : PA X (e :: es) ta)
    (hP : X.prog = P := by rfl) (hw : X.w = w := by rfl) (hK : X.K = K := by rfl) (hmg : X.mg = mg := by rfl) (hB : X.base = base := by rfl) (hg : Gl X x := by rfl) (hdb : (x == ("__debug__" : Str)) = false := by decide) (he : starEach (e :: es) X.env = (false, eval e X.env) :: starEach es X.env := by rfl) (hpl : (backTo pos (starEach es X.env)).any (·.1) = false := by rfl) :
    PE X (.Call (.Name x p) (e :: es) [] pos) (tMake C sp [] E ta) := by
  subst hP hw hK hmg hB
  obtain ⟨f, fd, ps, G, M, hb⟩ := F.ex
  exact pe_make M G (hr.mono hk) hg hm hb .nil hx ha hdb he hpl
/-- nothing is asked of the def, under another name -/
theorem fn_noneA {P : Program} {w : World} {K : PySem.W.Frag} {mg : Str → Option Value} {base : Heap} {x y qual : Str} {st : Stmt} {f : Addr} {fd : FuncData} {ps : List Str} {R : List PyData → Rs → Prop} (F : Fun K x qual st f fd) (hm : mg y = some (.ref f)) (b : Binds K fd ps []) (no : ∀ ds r, ¬ R ds r) : Fn P w K mg base 0 y R := by
  have n : ∀ vs H Q E, ¬ spR K R vs H Q E := fun vs H Q E h => by
    obtain ⟨B, ds, r, _, _, hR, _⟩ := h
    exact no ds r hR
  exact ⟨f, fd, ps, ⟨fun vs H Q E h => absurd h (n vs H Q E), fun A outer s H args us vs Q E _ _ _ _ h => absurd h (n vs H Q E)⟩, hm, F.kp, b⟩
/-- __init__ that raises at once -/
def spIX (K : PySem.W.Frag) (C : Addr) : Sp := fun vs H _ E => ∃ (p : Addr) (n t : Int), vs = [.ref p, .int n, .int t] ∧ badA n t = true ∧ ∃ B, Ex B H ∧ ∀ B' H', Step B H B' H' → E (.ref C) none H'
theorem GS.dropMkX {K : PySem.W.Frag} {E : XK} {ρ : Rho} {Nx : Rho → Prop} {C Cs : Addr} {ta : TA} {n t : Int} (ha : GA K E ta ρ [.int n, .int t]) (hb : badA n t = true) : GS K E (tDrop (tMake Cs (spIX K C) [] E ta)) ρ Nx (.exc C) := fun B0 H0 B H σ st s D nx fn =>
  ha H0 B H σ st.dh s _ fun vs B1 H1 s1 d1 => by
    cases d1 with
    | cons h1 d1 =>
    cases h1
    cases d1 with
    | cons h2 d1 =>
    cases h2; cases d1
    intro x dx hx hdx hne
    have sa : Step B1 H1 B1 (upd H1 dx (.own x)) := .own s1.dh hdx _
    have hx' : (upd H1 dx (.own x)) x = none := by rw [upd_ne (Ne.symm hne)]; exact hx
    have sb := sa.trans (.own sa.dh hx' (.ins Cs dx []))
    exact ⟨x, n, t, rfl, hb, B1, sb.dh, fun B' H' s2 => fn.up C rfl B' H' (st.trans (s1.trans (sb.trans s2))) none rfl⟩
end Eg
namespace Eg
open PySem PySem.Spec PyProof.Rows L2
open Evl (Ex fresh_back ex_l ex_t ex_rd)
/-! ### things of one's own that change (with new data beside) -/
/-- all but p and d as it was -/
structure MStep (fp : List Addr) (B H B' H' : Hp) : Prop where
  d : Ex B B'
  dh : Ex B' H'
  keep : ∀ a, a ∉ fp → H a ≠ none → H' a = H a
  fr : ∀ a, H a ≠ none → B a = none → B' a = none
theorem Step.chg {B0 H0 B H B' H' : Hp} {fp : List Addr} (st : Step B0 H0 B H) (m : MStep fp B H B' H') (h0 : ∀ a ∈ fp, H0 a = none) : Step B0 H0 B' H' := by
  refine ⟨st.d.trans m.d, fun a o q => ?_, m.dh, fun a h n => m.fr a (ex_some st.h h) (st.fr a h n)⟩
  have n : a ∉ fp := fun z => by rw [h0 a z] at q; cases q
  have e := st.h a o q
  rw [m.keep a n (by rw [e]; exact fun z => nomatch z), e]
theorem Sl.chg {K : PySem.W.Frag} {H0 B H B' H' : Hp} {σ : L2.St} {ρ : Rho} (s : Sl K H0 B H σ ρ) {i : Nat} {v : V} {iv : Iv} (hi : ρ[i]? = some (some (.inv v iv))) (iv' : Iv) (m : MStep iv.fp B H B' H') (hfp : iv'.fp = iv.fp) (hro : iv'.ro = iv.ro)
    (hI : iv'.I B' H') (hne : ∀ a ∈ iv.fp, H' a ≠ none) : Sl K H0 B' H' σ (ρ.set i (some (.inv v iv'))) where
  len := by rw [List.length_set, s.len]
  dat := fun j e h => by
    rcases set_get h with ⟨rfl, q⟩ | ⟨n, q⟩
    · cases q
    · obtain ⟨u, e1, e2⟩ := s.dat j e q
      exact ⟨u, e1, dpM m.d e2⟩
  own := fun j es h => by
    rcases set_get h with ⟨rfl, q⟩ | ⟨n, q⟩
    · cases q
    · obtain ⟨b, ys, e1, e2, e3, e4, e5⟩ := s.own j es q
      have hn : H b ≠ none := by rw [e4]; exact fun z => nomatch z
      refine ⟨b, ys, e1, e2, m.fr b hn e3, ?_, dpsM m.d e5⟩
      rw [m.keep b (s.isep i j v iv es b hi q e1) hn, e4]
  sep := fun j k dj dk hjk hj hk => by
    rcases set_get hj with ⟨rfl, q⟩ | ⟨n, q⟩
    · cases q
    · rcases set_get hk with ⟨rfl, q'⟩ | ⟨n', q'⟩
      · cases q'
      · exact s.sep j k dj dk hjk q q'
  fix := fun j u h => by
    rcases set_get h with ⟨rfl, q⟩ | ⟨n, q⟩
    · cases q
    · exact s.fix j u q
  inv := fun j u jv h => by
    rcases set_get h with ⟨rfl, q⟩ | ⟨n, q⟩
    · cases q
      obtain ⟨e1, _, e3⟩ := s.inv i v iv hi
      refine ⟨e1, hI, fun a ha => ?_⟩
      rw [hfp] at ha
      exact ⟨fun z => (e3 a ha).1 (hro ▸ z), m.fr a (e3 a ha).2.2 (e3 a ha).2.1, hne a ha⟩
    · obtain ⟨e1, e2, e3⟩ := s.inv j u jv q
      have same : ∀ a ∈ jv.fp, H' a = H a := fun a ha => m.keep a (s.iisep j i u v jv iv (Ne.symm n) q hi a ha) (e3 a ha).2.2
      exact ⟨e1, jv.stab _ _ _ _ m.d same e2, fun a ha => ⟨(e3 a ha).1, m.fr a (e3 a ha).2.2 (e3 a ha).2.1, by rw [same a ha]; exact (e3 a ha).2.2⟩⟩
  isep := fun j k u jv es b hj hk hb => by
    rcases set_get hk with ⟨rfl, q'⟩ | ⟨n', q'⟩
    · cases q'
    · rcases set_get hj with ⟨rfl, q⟩ | ⟨n, q⟩
      · cases q
        rw [hfp]
        exact s.isep i k v iv es b hi q' hb
      · exact s.isep j k u jv es b q q' hb
  iisep := fun j k u u' jv kv hjk hj hk => by
    rcases set_get hj with ⟨rfl, q⟩ | ⟨n, q⟩
    · rcases set_get hk with ⟨rfl, q'⟩ | ⟨n', q'⟩
      · exact absurd rfl hjk
      · cases q
        rw [hfp]
        exact s.iisep i k v u' iv kv n' hi q'
    · rcases set_get hk with ⟨rfl, q'⟩ | ⟨n', q'⟩
      · cases q'
        rw [hfp]
        exact s.iisep j i u v jv iv (Ne.symm n) q hi
      · exact s.iisep j k u u' jv kv hjk q q'
theorem Sl.mkInv {K : PySem.W.Frag} {H0 B H B' H' : Hp} {σ : L2.St} {ρ : Rho} (s0 : Sl K H0 B H σ ρ) (st : Step B H B' H') (i : Nat) {v : V} (iv' : Iv) (hfp : ∀ a ∈ iv'.fp, H a = none)
    (hI : iv'.I B' H') (hne : ∀ a ∈ iv'.fp, H0 a = none ∧ B' a = none ∧ H' a ≠ none) : Sl K H0 B' H' (σ.set i (some v)) (ρ.set i (some (.inv v iv'))) := by
  have s := s0.mono st
  have key : ∀ (m : Nat) (w : V) (mv : Iv), ρ[m]? = some (some (.inv w mv)) → ∀ a ∈ iv'.fp, a ∉ mv.fp := fun m w mv q a ha z => ((s0.inv m w mv q).2.2 a z).2.2 (hfp a ha)
  refine ⟨by rw [List.length_set, List.length_set, s.len], fun j e h => ?_, fun j es h => ?_, fun j k dj dk hjk hj hk => ?_, fun j u h => ?_, fun j u jv h => ?_, fun j k u jv es b hj hk hb => ?_, fun j k u u' jv kv hjk hj hk => ?_⟩
  · rcases set_get h with ⟨rfl, q⟩ | ⟨n, q⟩
    · cases q
    · rw [List.getElem?_set_ne n]
      exact s.dat j e q
  · rcases set_get h with ⟨rfl, q⟩ | ⟨n, q⟩
    · cases q
    · rw [List.getElem?_set_ne n]
      exact s.own j es q
  · rcases set_get hj with ⟨rfl, q⟩ | ⟨n, q⟩
    · cases q
    · rcases set_get hk with ⟨rfl, q'⟩ | ⟨n', q'⟩
      · cases q'
      · rw [List.getElem?_set_ne n, List.getElem?_set_ne n']
        exact s.sep j k dj dk hjk q q'
  · rcases set_get h with ⟨rfl, q⟩ | ⟨n, q⟩
    · cases q
    · rw [List.getElem?_set_ne n]
      exact s.fix j u q
  · rcases set_get h with ⟨rfl, q⟩ | ⟨n, q⟩
    · cases q
      have hl := set_lt h
      rw [← s.len] at hl
      exact ⟨List.getElem?_set_self hl, hI, fun a ha => ⟨fun _ => (hne a ha).1, (hne a ha).2⟩⟩
    · rw [List.getElem?_set_ne n]
      exact s.inv j u jv q
  · rcases set_get hk with ⟨rfl, q'⟩ | ⟨n', q'⟩
    · cases q'
    · rw [List.getElem?_set_ne n'] at hb
      obtain ⟨b', ys, e1, _, _, e4, _⟩ := s0.own k es q'
      rw [hb] at e1
      cases e1
      rcases set_get hj with ⟨rfl, q⟩ | ⟨n, q⟩
      · cases q
        intro z
        rw [hfp b z] at e4
        cases e4
      · exact s.isep j k u jv es b q q' hb
  · rcases set_get hj with ⟨rfl, q⟩ | ⟨n, q⟩
    · rcases set_get hk with ⟨rfl, q'⟩ | ⟨n', q'⟩
      · exact absurd rfl hjk
      · cases q
        exact key k u' kv q'
    · rcases set_get hk with ⟨rfl, q'⟩ | ⟨n', q'⟩
      · cases q'
        exact fun a ha z => key j u jv q a z ha
      · exact s.iisep j k u u' jv kv hjk q q'
/-! ### a search: its fields, its list of drops -/
def pdD (q : Int × Bool) : PyData := .tuple [.int q.1, .bool q.2]
def flds (d : Addr) (lo hi th : Int) : List (Str × V) := [("low", .int lo), ("high", .int hi), ("things", .int th), ("done", .ref d)]
theorem f_low {d : Addr} {lo hi th : Int} : (flds d lo hi th).lookup ("low" : Str) = some (.int lo) := rfl
theorem f_high {d : Addr} {lo hi th : Int} : (flds d lo hi th).lookup ("high" : Str) = some (.int hi) := rfl
theorem f_things {d : Addr} {lo hi th : Int} : (flds d lo hi th).lookup ("things" : Str) = some (.int th) := rfl
theorem f_done {d : Addr} {lo hi th : Int} : (flds d lo hi th).lookup ("done" : Str) = some (.ref d) := rfl
theorem p_low {d : Addr} {lo hi th x : Int} : putF "low" (.int x) (flds d lo hi th) = flds d x hi th := rfl
theorem p_high {d : Addr} {lo hi th x : Int} : putF "high" (.int x) (flds d lo hi th) = flds d lo x th := rfl
theorem p_things {d : Addr} {lo hi th x : Int} : putF "things" (.int x) (flds d lo hi th) = flds d lo hi x := rfl
theorem p_all {d : Addr} {lo hi th : Int} : putF "done" (.ref d) (putF "things" (.int th) (putF "high" (.int hi) (putF "low" (.int lo) []))) = flds d lo hi th := rfl
structure SrI (K : PySem.W.Frag) (C p d : Addr) (lo hi th : Int) (done : List (Int × Bool)) (B H : Hp) : Prop where
  ne : p ≠ d
  ob : ∃ dx, H p = some (.ins C dx (flds d lo hi th))
  ls : ∃ xs, H d = some (.lst xs) ∧ DpAll K B xs (done.map pdD)
def srIv (K : PySem.W.Frag) (C p d : Addr) (lo hi th : Int) (done : List (Int × Bool)) (ro : Bool) : Iv where
  fp := [p, d]
  ro := ro
  I := SrI K C p d lo hi th done
  stab := fun B H B' H' eb e h => by
    obtain ⟨dx, h1⟩ := h.ob
    obtain ⟨xs, h2, h3⟩ := h.ls
    exact ⟨h.ne, ⟨dx, by rw [e p (by simp)]; exact h1⟩, ⟨xs, by rw [e d (by simp)]; exact h2, dpsM eb h3⟩⟩
end Eg
namespace Eg
open PySem PySem.Spec PyProof.Rows L2
open Evl (Ex fresh_back ex_l ex_t ex_rd)
/-! ### methods -/
structure FnMt (P : Program) (w : World) (K : PySem.W.Frag) (mg : Str → Option Value) (base : Heap) (k : Nat) (C : Addr) (m : Str) (sp : Sp) : Prop where
  ex : ∃ (f : Addr) (fd : FuncData) (ps : List Str), FnOk P w K mg base (L2.CX P w) k f fd ps sp ∧ Meth K C m f ∧ Binds K fd ps []
def tMt0 (C : Addr) (m : Str) (sp : Sp) (E : L2.St → XK) (ta : TE) : TE := fun σ H Q => ta σ H fun x H1 => ∃ a dx fs, x = .ref a ∧ H1 a = some (.ins C dx fs) ∧ fs.lookup m = none ∧ sp [x] H1 Q (E σ)
def tMt (C : Addr) (m : Str) (sp : Sp) (E : L2.St → XK) (ta : TE) (t : TA) : TE := fun σ H Q => ta σ H fun x H1 => ∃ a dx fs, x = .ref a ∧ H1 a = some (.ins C dx fs) ∧ fs.lookup m = none ∧ t σ H1 fun vs H2 => sp (x :: vs) H2 Q (E σ)
theorem pe_mt0 {X : Cx} {P : Program} {w : World} {K : PySem.W.Frag} {mg : Str → Option Value} {base : Heap} {sp : Sp} {k j : Nat} {m : Str} {C : Addr} {E : L2.St → XK} {o : Expr} {ta : TE} {apos pos : Pos} {pl : Sem Bool} (F : FnMt P w K mg base k C m sp) (c : Cls K C) (hr : Room j X.A) (hk : k ≤ j) (hx : ∀ σ, PassesAt (L2.CX X.prog X.w) X σ (E σ)) (he : PE X o ta)
    (hP : X.prog = P := by rfl) (hw : X.w = w := by rfl) (hK : X.K = K := by rfl) (hmg : X.mg = mg := by rfl) (hB : X.base = base := by rfl)
    (ht : eval (.Call (.Attribute o m apos) [] [] pos) X.env = (do
      let ov ← eval o X.env
      standAt apos.atName
      let (f, first) ← holding [ov] (getMethod ov m pl)
      callWith pos f first (backTo pos (starEach [] X.env)) (backToKw pos (keywordEach [] X.env))) := by rfl) :
    PE X (.Call (.Attribute o m apos) [] [] pos) (tMt0 C m sp E ta) := by
  subst hP hw hK hmg hB
  obtain ⟨f, fd, ps, G, M, hb⟩ := F.ex
  refine ⟨fun pins s σ H Q I h => PySem.W.methodCall_KW (pl := pl) (thn (he.run pins s σ H _ I h) ?_) ht⟩
  rintro u s1 ⟨x, H1, I1, rx, a, dx, fs, rfl, ea, l, q⟩
  cases rx
  exact getmeth_ok I1 ea c M l (PySem.W.callWith_K0 (first := [.ref a]) I1.kIn M.kp (run_fnS (us := [.ref a]) (vs := [.ref a]) G (hr.mono hk) hb (hx σ) I1 (.cons rfl .nil) q))
theorem pe_mt {X : Cx} {P : Program} {w : World} {K : PySem.W.Frag} {mg : Str → Option Value} {base : Heap} {sp : Sp} {k j : Nat} {m : Str} {C : Addr} {E : L2.St → XK} {o e : Expr} {es : List Expr} {ta : TE} {t : TA} {apos pos : Pos} {pl : Sem Bool} (F : FnMt P w K mg base k C m sp) (c : Cls K C) (hr : Room j X.A) (hk : k ≤ j) (hx : ∀ σ, PassesAt (L2.CX X.prog X.w) X σ (E σ)) (he : PE X o ta) (ha : PA X (e :: es) t)
    (hP : X.prog = P := by rfl) (hw : X.w = w := by rfl) (hK : X.K = K := by rfl) (hmg : X.mg = mg := by rfl) (hB : X.base = base := by rfl)
    (hst : starEach (e :: es) X.env = (false, eval e X.env) :: starEach es X.env := by rfl) (hpl : (backTo pos (starEach es X.env)).any (·.1) = false := by rfl)
    (ht : eval (.Call (.Attribute o m apos) (e :: es) [] pos) X.env = (do
      let ov ← eval o X.env
      standAt apos.atName
      let (f, first) ← holding [ov] (getMethod ov m pl)
      callWith pos f first (backTo pos (starEach (e :: es) X.env)) (backToKw pos (keywordEach [] X.env))) := by rfl) :
    PE X (.Call (.Attribute o m apos) (e :: es) [] pos) (tMt C m sp E ta t) := by
  subst hP hw hK hmg hB
  obtain ⟨f, fd, ps, G, M, hb⟩ := F.ex
  refine ⟨fun pins s σ H Q I h => PySem.W.methodCall_KW (pl := pl) (thn (he.run pins s σ H _ I h) ?_) ht⟩
  rintro u s1 ⟨x, H1, I1, rx, a, dx, fs, rfl, ea, l, q⟩
  cases rx
  refine getmeth_ok I1 ea c M l (PySem.W.callWith_K (first := [.ref a]) (h₀ := X.base) I.ok.mod.kin M.kp (thn (ha.run pos pins s1 σ H1 _ I1 q) ?_) hst hpl)
  rintro us s2 ⟨vs, H2, I2, rv, q2⟩
  exact ⟨I2.kIn, run_fnS (us := .ref a :: us) (vs := .ref a :: vs) G (hr.mono hk) hb (hx σ) I2 (.cons rfl rv) q2⟩
/-- what a method that only reads promises -/
def spM (K : PySem.W.Frag) (C : Addr) (R : Int → Int → Int → List (Int × Bool) → Rs → Prop) : Sp := fun vs H Q E => ∃ p d lo hi th done r B, vs = [.ref p] ∧ Ex B H ∧ SrI K C p d lo hi th done B H ∧ B p = none ∧ B d = none ∧ R lo hi th done r ∧ Fin K E B H r Q
theorem sl_inv1 {K : PySem.W.Frag} {B H : Hp} {N : List Str} {v : V} {iv : Iv} (hN : 1 ≤ N.length) (hro : iv.ro = true) (hI : iv.I B H) (hf : ∀ a ∈ iv.fp, B a = none ∧ H a ≠ none) : Sl K H B H (L2.start N [v]) (some (.inv v iv) :: List.replicate (N.length - 1) none) := by
  have no : ∀ (j : Nat) (c : Cl), (List.replicate (N.length - 1) (none : Option Cl))[j]? ≠ some (some c) := fun j c h => by
    rw [List.getElem?_replicate] at h
    split at h <;> cases h
  refine ⟨?_, fun i d h => ?_, fun i d h => ?_, fun i j di dj _ h => ?_, fun i u h => ?_, fun i u jv h => ?_, fun i j u jv es b _ h => ?_, fun i j u u' jv kv hij h1 h2 => ?_⟩
  · unfold L2.start
    simp
  · cases i with
    | zero => cases h
    | succ i => exact absurd h (no i _)
  · cases i with
    | zero => cases h
    | succ i => exact absurd h (no i _)
  · cases i with
    | zero => cases h
    | succ i => exact absurd h (no i _)
  · cases i with
    | zero => cases h
    | succ i => exact absurd h (no i _)
  · cases i with
    | zero =>
      cases h
      exact ⟨rfl, hI, fun a ha => ⟨fun z => absurd (hro.symm.trans z) (by decide), hf a ha⟩⟩
    | succ i => exact absurd h (no i _)
  · cases j with
    | zero => cases h
    | succ j => exact absurd h (no j _)
  · cases i with
    | zero =>
      cases j with
      | zero => exact absurd rfl hij
      | succ j => exact absurd h2 (no j _)
    | succ i => exact absurd h1 (no i _)
theorem sr_fp {K : PySem.W.Frag} {C p d : Addr} {lo hi th : Int} {done : List (Int × Bool)} {B H : Hp} (S : SrI K C p d lo hi th done B H) (h1 : B p = none) (h2 : B d = none) : ∀ a ∈ [p, d], B a = none ∧ H a ≠ none := fun a ha => by
  obtain ⟨dx, e1⟩ := S.ob
  obtain ⟨xs, e2, _⟩ := S.ls
  rcases List.mem_cons.mp ha with rfl | ha
  · exact ⟨h1, by rw [e1]; exact fun z => nomatch z⟩
  · rw [List.mem_singleton.mp ha]
    exact ⟨h2, by rw [e2]; exact fun z => nomatch z⟩
section
variable {P : Program} {w : World} {K : PySem.W.Frag} {mg : Str → Option Value} {base : Heap}
theorem ok_mt {m qual : Str} {st : Stmt} {f C : Addr} {fd : FuncData} {N : List Str} {k : Nat} {R : Int → Int → Int → List (Int × Bool) → Rs → Prop} (F : Fun K m qual st f fd) (S : FnScope N ["self"] (defScope st)) (hN : 1 ≤ N.length) (hm : Meth K C m f) (b : Binds K fd ["self"] [])
    (body : ∀ (cdv : Value) (A : Around) (outer : List Env) (s : Shared) (H : Hp) (E : XK), Room k (A.deeper (envOfC qual (defScope st) s.heap.objs.size f cdv)) →
      ∃ t, PSs (cxOf (L2.CX P w) P w K mg base N qual (defScope st) f cdv A outer s H E) (defBody st) t ∧ ∀ p d lo hi th done r, R lo hi th done r → GS K E t (some (.inv (.ref p) (srIv K C p d lo hi th done true)) :: List.replicate (N.length - 1) none) (fun _ => r = .ok .none) r) : FnMt P w K mg base (k + 1) C m (spM K C R) := by
  refine ⟨f, fd, _, F.okX S (fun vs H Q E h => ?_) (fun cdv A outer s H vs Q E hr h => ?_), hm, b⟩
  · obtain ⟨p, d, lo, hi, th, done, r, B, rfl, _⟩ := h
    rfl
  · obtain ⟨p, d, lo, hi, th, done, r, B, rfl, bh, SI, h1, h2, hR, fn⟩ := h
    obtain ⟨t, hp, g⟩ := body cdv A outer s H E hr
    refine ⟨t, hp, g p d lo hi th done r hR B H B H (L2.start N [.ref p]) (.refl bh) (sl_inv1 hN rfl SI (sr_fp SI h1 h2)) _ (fun σ' B' H' ρ' st s e => ?_) fn⟩
    subst e
    exact fn.go .non B' H' st .non
end
section
variable {K : PySem.W.Frag} {E : XK} {ρ : Rho} {Nx : Rho → Prop} {r : Rs} {i j : Nat} {C p d : Addr} {lo hi th : Int} {done : List (Int × Bool)} {ro : Bool}
theorem GE.fld {f : Str} {x : Int} (h : ρ[i]? = some (some (.inv (.ref p) (srIv K C p d lo hi th done ro)))) (c : Cls K C) (na : NoAttr K C f) (hl : (flds d lo hi th).lookup f = some (.int x)) : GE K E (tFld K (tVar i) f) ρ (.ok (.int x)) := fun H0 B H σ bh s Q q => by
  obtain ⟨e, S, _⟩ := s.inv i _ _ h
  obtain ⟨dx, eo⟩ := S.ob
  exact ⟨.ref p, e, p, C, dx, _, _, rfl, eo, c, na, hl, q.go _ B H (.refl bh) (.int x)⟩
theorem GE.fldDone (h : ρ[i]? = some (some (.inv (.ref p) (srIv K C p d lo hi th done ro)))) (c : Cls K C) (na : NoAttr K C "done") : GE K E (tFld K (tVar i) "done") ρ (.ali (done.map pdD)) := fun H0 B H σ bh s Q q => by
  obtain ⟨e, S, _⟩ := s.inv i _ _ h
  obtain ⟨dx, eo⟩ := S.ob
  obtain ⟨xs, el, ed⟩ := S.ls
  exact ⟨.ref p, e, p, C, dx, _, _, rfl, eo, c, na, f_done, q.go _ B H (.refl bh) ⟨d, xs, rfl, el, ed⟩⟩
theorem GE.mt0 {m : Str} {R : Int → Int → Int → List (Int × Bool) → Rs → Prop} (h : ρ[i]? = some (some (.inv (.ref p) (srIv K C p d lo hi th done ro)))) (hn : (flds d lo hi th).lookup m = none) (hR : R lo hi th done r) : GE K E (tMt0 C m (spM K C R) (fun _ => E) (tVar i)) ρ r := fun H0 B H σ bh s Q q => by
  obtain ⟨e, S, f⟩ := s.inv i _ _ h
  obtain ⟨dx, eo⟩ := S.ob
  exact ⟨.ref p, e, p, dx, _, rfl, eo, hn, p, d, lo, hi, th, done, r, B, rfl, bh, S, (f p (List.mem_cons_self ..)).2.1, (f d (List.mem_cons_of_mem _ (List.mem_cons_self ..))).2.1, hR, q⟩
/-- a drop -/
def badD (lo hi th fl : Int) : Prop := fl ≤ lo ∨ hi < fl ∨ th = 0
def spD (K : PySem.W.Frag) (C CN : Addr) : Sp := fun vs H Q E => ∃ p d lo hi th done fl br B, vs = [.ref p, .int fl, .bl br] ∧ Ex B H ∧ SrI K C p d lo hi th done B H ∧ B p = none ∧ B d = none ∧ done.length < 10000 ∧
  (badD lo hi th fl → ∀ B' H', Step B H B' H' → E (.ref CN) none H') ∧ (¬ badD lo hi th fl → ∀ B' H', MStep [p, d] B H B' H' → SrI K C p d (if br then lo else fl) (if br then fl - 1 else hi) (if br then th - 1 else th) (done ++ [(fl, br)]) B' H' → Q (.int (done.length + 1)) H')
theorem GS.mtD {CN : Addr} {ta : TA} {fl : Int} {br : Bool} (h : ρ[i]? = some (some (.inv (.ref p) (srIv K C p d lo hi th done false)))) (ha : GA K E ta ρ [.int fl, .bool br]) (hz : done.length < 10000) (ok : ¬ badD lo hi th fl)
    (n : Nx ((ρ.set i (some (.inv (.ref p) (srIv K C p d (if br then lo else fl) (if br then fl - 1 else hi) (if br then th - 1 else th) (done ++ [(fl, br)]) false)))).set j (some (.dat (.int (done.length + 1)))))) : GS K E (tAsg (tMt C "dropped" (spD K C CN) (fun _ => E) (tVar i) ta) (gName j)) ρ Nx r := fun B0 H0 B H σ st s D nx fn => by
  obtain ⟨e, S, _⟩ := s.inv i _ _ h
  obtain ⟨dx, eo⟩ := S.ob
  refine ⟨.ref p, e, p, dx, _, rfl, eo, rfl, ha H0 B H σ st.dh s _ fun vs B1 H1 s1 d1 => ?_⟩
  cases d1 with
  | cons h1 d1 =>
  cases h1
  cases d1 with
  | cons h2 d1 =>
  cases h2; cases d1
  have sl := s.mono s1
  obtain ⟨_, S1, f1⟩ := sl.inv i _ _ h
  have fp := f1 p (List.mem_cons_self ..)
  have fd := f1 d (List.mem_cons_of_mem _ (List.mem_cons_self ..))
  refine ⟨p, d, lo, hi, th, done, fl, br, B1, rfl, s1.dh, S1, fp.2.1, fd.2.1, hz, fun z => absurd z ok, fun _ B2 H2 m S2 => ?_⟩
  have st2 := (st.trans s1).chg m fun a ha' => (f1 a ha').1 rfl
  have hne := sr_fp S2 (m.fr p fp.2.2 fp.2.1) (m.fr d fd.2.2 fd.2.1)
  exact nx _ B2 H2 _ st2 ((sl.chg h (srIv K C p d (if br then lo else fl) (if br then fl - 1 else hi) (if br then th - 1 else th) (done ++ [(fl, br)]) false) m rfl rfl S2 fun a ha' => (hne a ha').2).setD j (.int _)) n
/-- refused, in a try's body -/
theorem GB.mtX {CN : Addr} {ta : TA} {fl : Int} {br : Bool} {E' : XK} (h : ρ[i]? = some (some (.inv (.ref p) (srIv K C p d lo hi th done ro)))) (ha : GA K E' ta ρ [.int fl, .bool br]) (hz : done.length < 10000) (bad : badD lo hi th fl) : GB K (fun W => tDrop (tMt C "dropped" (spD K C CN) (WE W) (tVar i) ta)) ρ (some CN) Nx := fun B0 H0 B H σ st s W D nx up => by
  obtain ⟨e, S, _⟩ := s.inv i _ _ h
  obtain ⟨dx, eo⟩ := S.ob
  refine ⟨.ref p, e, p, dx, _, rfl, eo, rfl, ha H0 B H σ st.dh s _ fun vs B1 H1 s1 d1 => ?_⟩
  cases d1 with
  | cons h1 d1 =>
  cases h1
  cases d1 with
  | cons h2 d1 =>
  cases h2; cases d1
  obtain ⟨_, S1, f1⟩ := (s.mono s1).inv i _ _ h
  have fp := f1 p (List.mem_cons_self ..)
  have fd := f1 d (List.mem_cons_of_mem _ (List.mem_cons_self ..))
  exact ⟨p, d, lo, hi, th, done, fl, br, B1, rfl, s1.dh, S1, fp.2.1, fd.2.1, hz, fun _ B2 H2 s2 => up CN rfl B2 H2 (s1.trans s2), fun z => absurd bad z⟩
theorem GB.mt0X {m : Str} {R : Int → Int → Int → List (Int × Bool) → Rs → Prop} {CN : Addr} (h : ρ[i]? = some (some (.inv (.ref p) (srIv K C p d lo hi th done ro)))) (hn : (flds d lo hi th).lookup m = none) (hR : R lo hi th done (.exc CN)) : GB K (fun W => tDrop (tMt0 C m (spM K C R) (WE W) (tVar i))) ρ (some CN) Nx := fun B0 H0 B H σ st s W D nx up => by
  obtain ⟨e, S, f⟩ := s.inv i _ _ h
  obtain ⟨dx, eo⟩ := S.ob
  exact ⟨.ref p, e, p, dx, _, rfl, eo, hn, p, d, lo, hi, th, done, .exc CN, B, rfl, st.dh, S, (f p (List.mem_cons_self ..)).2.1, (f d (List.mem_cons_of_mem _ (List.mem_cons_self ..))).2.1, hR, ⟨fun v B' H' _ z => z.elim, fun C' e' B' H' s' d' ed => by
    cases e'; cases ed
    exact up CN rfl B' H' s'⟩⟩
/-- one is made -/
def spI (K : PySem.W.Frag) (C : Addr) : Sp := fun vs H Q _ => ∃ (p : Addr) (n t : Int) (B : Hp), vs = [.ref p, .int n, .int t] ∧ ¬ badA n t = true ∧ (∃ dx, H p = some (.ins C dx [])) ∧ Ex B H ∧ B p = none ∧ ∀ d B' H', H d = none → MStep [p] B H B' H' → B' d = none → SrI K C p d 0 n t [] B' H' → Q .non H'
theorem GS.mkSr {ta : TA} {n t : Int} (ha : GA K E ta ρ [.int n, .int t]) (ok : ¬ badA n t = true) (nn : ∀ p d, Nx (ρ.set j (some (.inv (.ref p) (srIv K C p d 0 n t [] false))))) : GS K E (tAsg (tMake C (spI K C) [] E ta) (gName j)) ρ Nx r := fun B0 H0 B H σ st s D nx fn =>
  ha H0 B H σ st.dh s _ fun vs B1 H1 s1 d1 => by
    cases d1 with
    | cons h1 d1 =>
    cases h1
    cases d1 with
    | cons h2 d1 =>
    cases h2; cases d1
    intro x dx hx hdx hne
    have st1 := st.trans s1
    have sl := s.mono s1
    have sa : Step B1 H1 B1 (upd H1 dx (.own x)) := .own s1.dh hdx _
    have hx' : (upd H1 dx (.own x)) x = none := by rw [upd_ne (Ne.symm hne)]; exact hx
    have sb := sa.trans (.own sa.dh hx' (.ins C dx []))
    refine ⟨x, n, t, B1, rfl, ok, ⟨dx, upd_same⟩, sb.dh, none_of s1.dh hx, fun d B2 H2 hd m fd S => ⟨rfl, ?_⟩⟩
    have hd1 : H1 d = none := fresh_back sb.h hd
    have s2 : Step B1 H1 B2 H2 := sb.chg m fun a ha' => by rw [List.mem_singleton.mp ha']; exact hx
    have nx' : B2 x = none := m.fr x (by rw [upd_same]; exact fun z => nomatch z) (none_of s1.dh hx)
    have hf := sr_fp S nx' fd
    refine nx _ B2 H2 _ (st1.trans s2) (sl.mkInv s2 j (srIv K C x d 0 n t [] false) (fun a ha' => ?_) S fun a ha' => ⟨?_, hf a ha'⟩) (nn x d)
    · rcases List.mem_cons.mp ha' with rfl | ha'
      · exact hx
      · rw [List.mem_singleton.mp ha']
        exact hd1
    · rcases List.mem_cons.mp ha' with rfl | ha'
      · exact fresh_back st1.h hx
      · rw [List.mem_singleton.mp ha']
        exact fresh_back st1.h hd1
end
end Eg
namespace Eg
open PySem PySem.Spec PyProof.Rows L2
open Evl (Ex fresh_back ex_l ex_t ex_rd)
/-! ### within a method that changes its object -/
theorem go_next {D : Ends} {σ : L2.St} {H : Hp} (h : D.nx σ H) : tNext D σ H := h
theorem go_seq {t u : TS} {D : Ends} {σ : L2.St} {H : Hp} (h : t { D with nx := u D } σ H) : tSeq t u D σ H := h
theorem go_if {tc : TT} {t u : TS} {D : Ends} {σ : L2.St} {H : Hp} (h : tc σ H fun b H' => if b = true then t D σ H' else u D σ H') : tIfS tc t u D σ H := h
theorem MStep.of {fp : List Addr} {B H B' H' : Hp} (s : Step B H B' H') : MStep fp B H B' H' := ⟨s.d, s.dh, fun a _ h => by
  cases q : H a with
  | none => exact absurd q h
  | some o => exact s.h a o q, s.fr⟩
theorem MStep.trans {fp : List Addr} {B H B1 H1 B2 H2 : Hp} (m : MStep fp B H B1 H1) (hn : ∀ a ∈ fp, H1 a ≠ none) (m2 : MStep fp B1 H1 B2 H2) : MStep fp B H B2 H2 := by
  have up : ∀ a, H a ≠ none → H1 a ≠ none := fun a h => by
    by_cases z : a ∈ fp
    · exact hn a z
    · rw [m.keep a z h]
      exact h
  exact ⟨m.d.trans m2.d, m2.dh, fun a n h => by rw [m2.keep a n (up a h), m.keep a n h], fun a h n => m2.fr a (up a h) (m.fr a h n)⟩
section
variable {K : PySem.W.Frag} {E : XK} {ρ : Rho} {C p d : Addr} {lo hi th : Int} {done : List (Int × Bool)} {H0 B H : Hp} {σ : L2.St} {D : Ends} {te : TE}
theorem fld_set {f : Str} {x lo' hi' th' : Int} (sl : Sl K H0 B H σ ρ) (bh : Ex B H) (h : ρ[0]? = some (some (.inv (.ref p) (srIv K C p d lo hi th done true)))) (he : GE K E te ρ (.ok (.int x))) (c : Cls K C) (na : NoAttr K C f) (put : ∀ d, putF f (.int x) (flds d lo hi th) = flds d lo' hi' th')
    (k : ∀ B' H', MStep [p, d] B H B' H' → Sl K H0 B' H' σ (ρ.set 0 (some (.inv (.ref p) (srIv K C p d lo' hi' th' done true)))) → D.nx σ H') : sFld K (tVar 0) te f D σ H := by
  refine he H0 B H σ bh sl _ (fin_ok fun v B1 H1 s1 d1 => ?_)
  cases d1
  have sl1 := sl.mono s1
  obtain ⟨e, S, g⟩ := sl1.inv 0 _ _ h
  obtain ⟨dx, eo⟩ := S.ob
  obtain ⟨xs, el, ed⟩ := S.ls
  refine ⟨.ref p, e, p, C, dx, _, rfl, eo, c, na, (by show 4 < 1000; decide), ?_⟩
  rw [put]
  have fp := g p (List.mem_cons_self ..)
  have m1 : MStep [p, d] B1 H1 B1 (upd H1 p (.ins C dx (flds d lo' hi' th'))) := ⟨Ex.refl B1, fun a o q => by
    rw [upd_ne (fun z : a = p => by rw [z, fp.2.1] at q; cases q)]
    exact s1.dh a o q, fun a n _ => upd_ne (fun z : a = p => n (by rw [z]; exact List.mem_cons_self ..)), fun _ _ n => n⟩
  have S' : SrI K C p d lo' hi' th' done B1 (upd H1 p (.ins C dx (flds d lo' hi' th'))) := ⟨S.ne, ⟨dx, upd_same⟩, xs, by rw [upd_ne S.ne.symm]; exact el, ed⟩
  have hne := sr_fp S' fp.2.1 (g d (List.mem_cons_of_mem _ (List.mem_cons_self ..))).2.1
  exact k B1 _ ((MStep.of s1).trans (fun a ha => (g a ha).2.2) m1) (sl1.chg h (srIv K C p d lo' hi' th' done true) m1 rfl rfl S' fun a ha => (hne a ha).2)
theorem done_app {q : Int × Bool} (sl : Sl K H0 B H σ ρ) (bh : Ex B H) (h : ρ[0]? = some (some (.inv (.ref p) (srIv K C p d lo hi th done true)))) (he : GE K E te ρ (.ok (pdD q))) (c : Cls K C) (na : NoAttr K C "done") (hz : done.length < 10000)
    (k : ∀ B' H', MStep [p, d] B H B' H' → Sl K H0 B' H' σ (ρ.set 0 (some (.inv (.ref p) (srIv K C p d lo hi th (done ++ [q]) true)))) → D.nx σ H') : tDrop (tBM K "list" rAppend (tFld K (tVar 0) "done") (tCons te tNil)) D σ H := by
  obtain ⟨e0, S0, _⟩ := sl.inv 0 _ _ h
  obtain ⟨dx0, eo0⟩ := S0.ob
  obtain ⟨xs0, el0, _⟩ := S0.ls
  refine ⟨.ref p, e0, p, C, dx0, _, _, rfl, eo0, c, na, f_done, .inl ⟨rfl, _, .inl (.inl el0)⟩, he H0 B H σ bh sl _ (fin_ok fun v B1 H1 s1 d1 => ?_)⟩
  have sl1 := sl.mono s1
  obtain ⟨e, S, g⟩ := sl1.inv 0 _ _ h
  obtain ⟨dx, eo⟩ := S.ob
  obtain ⟨xs, el, ed⟩ := S.ls
  refine ⟨d, xs, v, rfl, rfl, el, Evl.sz_lt (by rw [dps_len ed, List.length_map]; omega), ?_⟩
  have fp := g p (List.mem_cons_self ..)
  have fd := g d (List.mem_cons_of_mem _ (List.mem_cons_self ..))
  have m1 : MStep [p, d] B1 H1 B1 (upd H1 d (.lst (xs ++ [v]))) := ⟨Ex.refl B1, fun a o q => by
    rw [upd_ne (fun z : a = d => by rw [z, fd.2.1] at q; cases q)]
    exact s1.dh a o q, fun a n _ => upd_ne (fun z : a = d => n (by rw [z]; exact List.mem_cons_of_mem _ (List.mem_cons_self ..))), fun _ _ n => n⟩
  have S' : SrI K C p d lo hi th (done ++ [q]) B1 (upd H1 d (.lst (xs ++ [v]))) := ⟨S.ne, ⟨dx, by rw [upd_ne S.ne]; exact eo⟩, _, upd_same, by rw [List.map_append]; exact dps_app ed (.cons d1 .nil)⟩
  have hne := sr_fp S' fp.2.1 fd.2.1
  exact k B1 _ ((MStep.of s1).trans (fun a ha => (g a ha).2.2) m1) (sl1.chg h (srIv K C p d lo hi th (done ++ [q]) true) m1 rfl rfl S' fun a ha => (hne a ha).2)
end
/-! ### defs that are handed a search -/
structure FnSp (P : Program) (w : World) (K : PySem.W.Frag) (mg : Str → Option Value) (base : Heap) (k : Nat) (x : Str) (sp : Sp) : Prop where
  ex : ∃ (f : Addr) (fd : FuncData) (ps : List Str), FnOk P w K mg base (L2.CX P w) k f fd ps sp ∧ mg x = some (.ref f) ∧ PySem.W.keepIn K (.ref f) = true ∧ Binds K fd ps []
theorem pe_fs {X : Cx} {P : Program} {w : World} {K : PySem.W.Frag} {mg : Str → Option Value} {base : Heap} {sp : Sp} {k j : Nat} {x : Str} {E : XK} {p pos : Pos} {e : Expr} {es : List Expr} {ta : TA} (F : FnSp P w K mg base k x sp) (hr : Room j X.A) (hk : k ≤ j) (pz : ∀ σ, PassesAt (L2.CX X.prog X.w) X σ E) (ha : PA X (e :: es) ta)
    (hP : X.prog = P := by rfl) (hw : X.w = w := by rfl) (hK : X.K = K := by rfl) (hmg : X.mg = mg := by rfl) (hB : X.base = base := by rfl) (hg : Gl X x := by rfl) (hdb : (x == ("__debug__" : Str)) = false := by decide) (he : starEach (e :: es) X.env = (false, eval e X.env) :: starEach es X.env := by rfl) (hpl : (backTo pos (starEach es X.env)).any (·.1) = false := by rfl) :
    PE X (.Call (.Name x p) (e :: es) [] pos) (tCallS sp (fun _ => E) ta) := by
  subst hP hw hK hmg hB
  obtain ⟨f, fd, ps, G, hm, hkp, hb⟩ := F.ex
  exact pe_callS G (hr.mono hk) hg hm hkp hb pz ha hdb he hpl
def badRf (way lo hi th fl : Int) (i : Nat) : Prop := (way = 0 ∧ badD lo hi th fl ∧ i = 2) ∨ ((way = 1 ∨ way = 2) ∧ th = 0 ∧ lo < hi ∧ i = 0)
def spRf (K : PySem.W.Frag) (C : Addr) (W : Nat → List PyData) : Sp := fun vs H Q E => ∃ p d lo hi th done way fl br i B, vs = [.ref p, .int way, .int fl, .bl br] ∧ Ex B H ∧ SrI K C p d lo hi th done B H ∧ B p = none ∧ B d = none ∧ done.length < 10000 ∧ badRf way lo hi th fl i ∧ Fin K E B H (.new (W i)) Q
/-- a list of another's -/
def lsIv (K : PySem.W.Frag) (q : Addr) (ds : List PyData) (ro : Bool) : Iv where
  fp := [q]
  ro := ro
  I := fun B H => ∃ xs, H q = some (.lst xs) ∧ DpAll K B xs ds
  stab := fun B H B' H' eb e ⟨xs, h1, h2⟩ => ⟨xs, by rw [e q (List.mem_cons_self ..)]; exact h1, dpsM eb h2⟩
def spSt (K : PySem.W.Frag) (C : Addr) : Sp := fun vs H Q E => ∃ p d q done B, ∃ lo hi th : Nat, vs = [.ref p, .int lo, .int hi, .int th, .ref q] ∧ Ex B H ∧ SrI K C p d lo hi th done B H ∧ B p = none ∧ B d = none ∧ (∃ xs, H q = some (.lst xs) ∧ DpAll K B xs (done.map pdD)) ∧ B q = none ∧ q ≠ p ∧ q ≠ d ∧ done.length < 1000 ∧ lo ≤ hi ∧ hi ≤ 1000 ∧ th ≤ 12 ∧ Fin K E B H (.ok (.bool true)) Q
theorem Sl.addRo {K : PySem.W.Frag} {H0 B H : Hp} {σ : L2.St} {ρ : Rho} (s : Sl K H0 B H σ ρ) (j : Nat) {v : V} (iv : Iv) (hro : iv.ro = true) (hI : iv.I B H) (hf : ∀ a ∈ iv.fp, B a = none ∧ H a ≠ none) (no : ∀ (k : Nat) (ds : List PyData), ρ[k]? ≠ some (some (.own ds))) (sep : ∀ (k : Nat) (u : V) (mv : Iv), ρ[k]? = some (some (.inv u mv)) → ∀ a ∈ iv.fp, a ∉ mv.fp) : Sl K H0 B H (σ.set j (some v)) (ρ.set j (some (.inv v iv))) := by
  have noo : ∀ (k : Nat) (ds : List PyData), (ρ.set j (some (Cl.inv v iv)))[k]? ≠ some (some (.own ds)) := fun k ds h => by
    rcases set_get h with ⟨_, q⟩ | ⟨_, q⟩
    · cases q
    · exact no k ds q
  refine ⟨by rw [List.length_set, List.length_set, s.len], fun i e h => ?_, fun i es h => absurd h (noo i es), fun i k di dk _ h => absurd h (noo i di), fun i u h => ?_, fun i u jv h => ?_, fun i k u jv es b _ h => absurd h (noo k es), fun i k u u' jv kv hik hi hk => ?_⟩
  · rcases set_get h with ⟨rfl, q⟩ | ⟨n, q⟩
    · cases q
    · rw [List.getElem?_set_ne n]
      exact s.dat i e q
  · rcases set_get h with ⟨rfl, q⟩ | ⟨n, q⟩
    · cases q
    · rw [List.getElem?_set_ne n]
      exact s.fix i u q
  · rcases set_get h with ⟨rfl, q⟩ | ⟨n, q⟩
    · cases q
      have hl := set_lt h
      rw [← s.len] at hl
      exact ⟨List.getElem?_set_self hl, hI, fun a ha => ⟨fun z => absurd (hro.symm.trans z) (by decide), hf a ha⟩⟩
    · rw [List.getElem?_set_ne n]
      exact s.inv i u jv q
  · rcases set_get hi with ⟨rfl, q⟩ | ⟨n, q⟩
    · rcases set_get hk with ⟨rfl, q'⟩ | ⟨n', q'⟩
      · exact absurd rfl hik
      · cases q
        exact sep k u' kv q'
    · rcases set_get hk with ⟨rfl, q'⟩ | ⟨n', q'⟩
      · cases q'
        exact fun a ha z => sep i u jv q a z ha
      · exact s.iisep i k u u' jv kv hik q q'
section
variable {K : PySem.W.Frag} {E : XK} {ρ : Rho} {Nx : Rho → Prop} {r : Rs} {i j : Nat} {C p d : Addr} {lo hi th : Int} {done : List (Int × Bool)} {ro : Bool} {ta tb : TE} {x y : PyData}
theorem GE.callRf {W : Nat → List PyData} {ts : TA} {way fl : Int} {br : Bool} {k : Nat} (h : ρ[i]? = some (some (.inv (.ref p) (srIv K C p d lo hi th done ro)))) (ha : GA K E ts ρ [.int way, .int fl, .bool br]) (hz : done.length < 10000) (hb : badRf way lo hi th fl k) : GE K E (tCallS (spRf K C W) (fun _ => E) (tCons (tVar i) ts)) ρ (.new (W k)) := fun H0 B H σ bh s Q q => by
  obtain ⟨e, _, _⟩ := s.inv i _ _ h
  refine ⟨.ref p, e, ha H0 B H σ bh s _ fun vs B1 H1 s1 d1 => ?_⟩
  cases d1 with
  | cons h1 d1 =>
  cases h1
  cases d1 with
  | cons h2 d1 =>
  cases h2
  cases d1 with
  | cons h3 d1 =>
  cases h3; cases d1
  obtain ⟨_, S1, f1⟩ := (s.mono s1).inv i _ _ h
  exact ⟨p, d, lo, hi, th, done, way, fl, br, k, B1, rfl, s1.dh, S1, (f1 p (List.mem_cons_self ..)).2.1, (f1 d (List.mem_cons_of_mem _ (List.mem_cons_self ..))).2.1, hz, hb, q.back s1⟩
theorem GE.callSt {t1 t2 t3 : TE} {l h' t : Nat} (h : ρ[i]? = some (some (.inv (.ref p) (srIv K C p d l h' t done ro)))) (h1 : GE K E t1 ρ (.ok (.int l))) (h2 : GE K E t2 ρ (.ok (.int h'))) (h3 : GE K E t3 ρ (.ok (.int t))) (ho : ρ[j]? = some (some (.own (done.map pdD)))) (hz : done.length < 1000) (c1 : l ≤ h') (c2 : h' ≤ 1000) (c3 : t ≤ 12) :
    GE K E (tCallS (spSt K C) (fun _ => E) (tCons (tVar i) (tCons t1 (tCons t2 (tCons t3 (tCons (tVar j) tNil)))))) ρ (.ok (.bool true)) := fun H0 B H σ bh s Q q => by
  obtain ⟨e, _, _⟩ := s.inv i _ _ h
  refine ⟨.ref p, e, h1 H0 B H σ bh s _ (fin_ok fun v1 B1 H1 s1 d1 => h2 H0 B1 H1 σ s1.dh (s.mono s1) _ (fin_ok fun v2 B2 H2 s2 d2 => h3 H0 B2 H2 σ s2.dh (s.mono (s1.trans s2)) _ (fin_ok fun v3 B3 H3 s3 d3 => ?_)))⟩
  cases d1; cases d2; cases d3
  have st := (s1.trans s2).trans s3
  have sl := s.mono st
  obtain ⟨_, S1, f1⟩ := sl.inv i _ _ h
  obtain ⟨a, xs, ea, _, ab, a1, ad⟩ := sl.own j _ ho
  have nm := sl.isep i j _ _ _ a h ho ea
  exact ⟨.ref a, ea, p, d, a, done, B3, l, h', t, rfl, st.dh, S1, (f1 p (List.mem_cons_self ..)).2.1, (f1 d (List.mem_cons_of_mem _ (List.mem_cons_self ..))).2.1, ⟨xs, a1, ad⟩, ab, fun z => nm (by rw [z]; exact List.mem_cons_self ..), fun z => nm (by rw [z]; exact List.mem_cons_of_mem _ (List.mem_cons_self ..)), hz, c1, c2, c3, q.back st⟩
theorem GE.callSt0 {t1 t2 t3 : TE} {l h' t : Nat} (h : ρ[i]? = some (some (.inv (.ref p) (srIv K C p d l h' t [] ro)))) (h1 : GE K E t1 ρ (.ok (.int l))) (h2 : GE K E t2 ρ (.ok (.int h'))) (h3 : GE K E t3 ρ (.ok (.int t))) (c1 : l ≤ h') (c2 : h' ≤ 1000) (c3 : t ≤ 12) :
    GE K E (tCallS (spSt K C) (fun _ => E) (tCons (tVar i) (tCons t1 (tCons t2 (tCons t3 (tCons (tLst tNil) tNil)))))) ρ (.ok (.bool true)) := fun H0 B H σ bh s Q q => by
  obtain ⟨e, _, _⟩ := s.inv i _ _ h
  refine ⟨.ref p, e, h1 H0 B H σ bh s _ (fin_ok fun v1 B1 H1 s1 d1 => h2 H0 B1 H1 σ s1.dh (s.mono s1) _ (fin_ok fun v2 B2 H2 s2 d2 => h3 H0 B2 H2 σ s2.dh (s.mono (s1.trans s2)) _ (fin_ok fun v3 B3 H3 s3 d3 => ⟨Evl.sz_of (by simp), fun a ha => ?_⟩)))⟩
  cases d1; cases d2; cases d3
  have st := (s1.trans s2).trans s3
  have st' := st.trans (.own st.dh ha (.lst []))
  obtain ⟨_, _, f0⟩ := (s.mono st).inv i _ _ h
  obtain ⟨_, S1, f1⟩ := (s.mono st').inv i _ _ h
  exact ⟨p, d, a, [], B3, l, h', t, rfl, st'.dh, S1, (f1 p (List.mem_cons_self ..)).2.1, (f1 d (List.mem_cons_of_mem _ (List.mem_cons_self ..))).2.1, ⟨[], upd_same, .nil⟩, none_of st.dh ha, fun z => (f0 p (List.mem_cons_self ..)).2.2 (z ▸ ha), fun z => (f0 d (List.mem_cons_of_mem _ (List.mem_cons_self ..))).2.2 (z ▸ ha), by simp, c1, c2, c3, q.back st'⟩
/-- low, high, left, done = (.., .., .., []) -/
theorem GS.asg4 {t1 t2 t3 : TE} {a b c e : Nat} {z : PyData} (h1 : GE K E t1 ρ (.ok x)) (h2 : GE K E t2 ρ (.ok y)) (h3 : GE K E t3 ρ (.ok z)) (n : Nx ((((ρ.set a (some (.dat x))).set b (some (.dat y))).set c (some (.dat z))).set e (some (.own [])))) :
    GS K E (tAsg (tTup (tCons t1 (tCons t2 (tCons t3 (tCons (tLst tNil) tNil))))) (gTup K 4 (gCons (gName a) (gCons (gName b) (gCons (gName c) (gCons (gName e) gNil)))))) ρ Nx r := fun B0 H0 B H σ st s D nx fn =>
  h1 H0 B H σ st.dh s _ (fin_ok fun v1 B1 H1 s1 d1 => h2 H0 B1 H1 σ s1.dh (s.mono s1) _ (fin_ok fun v2 B2 H2 s2 d2 => h3 H0 B2 H2 σ s2.dh (s.mono (s1.trans s2)) _ (fin_ok fun v3 B3 H3 s3 d3 => ⟨Evl.sz_of (by simp), fun q hq => ⟨Evl.sz_of (by simp), fun u hu => by
    have sT := (s1.trans s2).trans s3
    have sq := sT.trans (.own sT.dh hq (.lst []))
    have hB3 : B3 u = none := none_of sq.dh hu
    have su := sq.trans (.own sq.dh hu (.tup [v1, v2, v3, .ref q]))
    have sl := s.mono su
    have nuq : q ≠ u := fun z => by
      subst z
      rw [upd_same] at hu
      cases hu
    have sl0 := (((s.mono sT).setD a (dpM (s2.trans s3).d d1)).setD b (dpM s3.d d2)).setD c d3
    refine ⟨u, [v1, v2, v3, .ref q], rfl, .inl (.inl upd_same), rfl, v1, _, rfl, v2, _, rfl, v3, _, rfl, .ref q, [], rfl, rfl, nx _ B3 _ _ (st.trans su) ((((sl.setD a (dpM (s2.trans s3).d d1)).setD b (dpM s3.d d2)).setD c d3).setN e (fresh_back (st.trans sT).h hq) (none_of sT.dh hq) (by rw [upd_ne nuq, upd_same]) .nil (fun j dj hj hz => ?_) fun j w iv hj hz => ?_) n⟩
    · obtain ⟨m, ys, e1, _, _, e4, _⟩ := sl0.own j dj hj
      rw [e1] at hz
      cases hz
      rw [hq] at e4
      cases e4
    · exact ((sl0.inv j w iv hj).2.2 q hz).2.2 hq⟩⟩)))
end
end Eg
namespace Eg
open PySem PySem.Spec PyProof.Rows L2
abbrev RM := Int → Int → Int → List (Int × Bool) → Rs → Prop
def R_span : RM := fun lo hi _ _ r => r = .ok (.tuple [.int lo, .int hi])
def R_left : RM := fun _ _ th _ r => r = .ok (.int th)
def R_drops : RM := fun _ _ _ done r => r = .new (done.map pdD)
def R_nd (CN : Addr) : RM := fun lo hi th _ r => R_fewest CN [.int (hi - lo), .int th] r
def R_adv (CN : Addr) : RM := fun lo hi th _ r => r = if badA (hi - lo) th = true then .exc CN else if hi - lo = 0 then .ok .none else .ok (.tuple [.int (lo + loD th.toNat (hi - lo).toNat), .int (lo + hiD th.toNat (hi - lo).toNat)])
end Eg
namespace Eg
open PySem PySem.Spec PyProof.Rows L2
open Evl (Ex fresh_back ex_l ex_t ex_rd)
/-! ### what a search tells, looked at -/
/-- a list of a tuple, a number and a list of its own -/
def fdIv (K : PySem.W.Frag) (f g : Addr) (x y : PyData) (ds : List PyData) : Iv where
  fp := [f, g]
  ro := false
  I := fun B H => f ≠ g ∧ ∃ v1 v2 xs, H f = some (.lst [v1, v2, .ref g]) ∧ Dp K B v1 x ∧ Dp K B v2 y ∧ H g = some (.lst xs) ∧ DpAll K B xs ds
  stab := fun B H B' H' eb e ⟨ne, v1, v2, xs, h1, h2, h3, h4, h5⟩ => ⟨ne, v1, v2, xs, by rw [e f (by simp)]; exact h1, dpM eb h2, dpM eb h3, by rw [e g (by simp)]; exact h4, dpsM eb h5⟩
def GV (K : PySem.W.Frag) (E : XK) (te : TE) (ρ : Rho) (x : PyData) : Prop := ∀ H0 B H σ, Ex B H → Sl K H0 B H σ ρ → ∀ Q : VK, (∀ v B' H', Step B H B' H' → Dp K H' v x → Q v H') → te σ H Q
section
variable {K : PySem.W.Frag} {E : XK} {ρ : Rho} {Nx : Rho → Prop} {r : Rs} {i j : Nat} {f g : Addr} {ta tb tc : TE} {x y z : PyData} {ds : List PyData} {ro : Bool}
theorem GV.ok (h : GE K E ta ρ (.ok x)) : GV K E ta ρ x := fun H0 B H σ bh s Q q => h H0 B H σ bh s Q (fin_ok fun v B' H' st d => q v B' H' st (dpM st.dh d))
theorem GV.ls {q : Addr} (h : ρ[i]? = some (some (.inv (.ref q) (lsIv K q ds ro)))) : GV K E (tVar i) ρ (.list ds) := fun H0 B H σ bh s Q k => by
  obtain ⟨e, ⟨xs, h1, h2⟩, _⟩ := s.inv i _ _ h
  exact ⟨.ref q, e, k _ B H (.refl bh) (.lst (.inl (.inl h1)) (dpsM bh h2))⟩
theorem GV.fd (h : ρ[i]? = some (some (.inv (.ref f) (fdIv K f g x y ds)))) : GV K E (tVar i) ρ (.list [x, y, .list ds]) := fun H0 B H σ bh s Q k => by
  obtain ⟨e, ⟨_, v1, v2, xs, h1, h2, h3, h4, h5⟩, _⟩ := s.inv i _ _ h
  exact ⟨.ref f, e, k _ B H (.refl bh) (.lst (.inl (.inl h1)) (.cons (dpM bh h2) (.cons (dpM bh h3) (.cons (.lst (.inl (.inl h4)) (dpsM bh h5)) .nil))))⟩
theorem GV.lst3 (h1 : GV K E ta ρ x) (h2 : GV K E tb ρ y) (h3 : GV K E tc ρ z) : GV K E (tLst (tCons ta (tCons tb (tCons tc tNil)))) ρ (.list [x, y, z]) := fun H0 B H σ bh s Q k =>
  h1 H0 B H σ bh s _ fun v1 B1 H1 s1 d1 => h2 H0 B1 H1 σ s1.dh (s.mono s1) _ fun v2 B2 H2 s2 d2 => h3 H0 B2 H2 σ s2.dh (s.mono (s1.trans s2)) _ fun v3 B3 H3 s3 d3 => ⟨Evl.sz_of (by simp), fun p hp => by
    have st := (s1.trans s2).trans s3
    have en : Ex H3 (upd H3 p (.lst [v1, v2, v3])) := Ex.new hp
    exact k _ B3 _ (st.trans (.own st.dh hp _)) (.lst (.inl (.inl upd_same)) (.cons (dpM ((s2.trans s3).h.trans en) d1) (.cons (dpM (s3.h.trans en) d2) (.cons (dpM en d3) .nil))))⟩
theorem GE.opV {rr : R2} {b : Bool} (h1 : GV K E ta ρ x) (h2 : GV K E tb ρ y) (hr : RH K rr x y b) : GE K E (tOp rr ta tb) ρ (.ok (.bool b)) := fun H0 B H σ bh s Q q =>
  h1 H0 B H σ bh s _ fun v1 B1 H1 s1 d1 => h2 H0 B1 H1 σ s1.dh (s.mono s1) _ fun v2 B2 H2 s2 d2 => hr H2 v1 v2 (dpM s2.h d1) d2 Q (q.go _ B2 H2 (s1.trans s2) (.bl b))
theorem GE.fd0 (h : ρ[i]? = some (some (.inv (.ref f) (fdIv K f g x y ds)))) (ha : GE K E ta ρ (.ok (.int 0))) : GE K E (tOp (rIxL K) (tVar i) ta) ρ (.ok x) := fun H0 B H σ bh s Q q => by
  obtain ⟨e, _, _⟩ := s.inv i _ _ h
  refine ⟨.ref f, e, ha H0 B H σ bh s _ (fin_ok fun v B1 H1 s1 d1 => ?_)⟩
  cases d1
  obtain ⟨_, ⟨_, v1, v2, xs, h1, h2, _⟩, _⟩ := (s.mono s1).inv i _ _ h
  exact ⟨f, _, 0, v1, rfl, rfl, .inl (.inl h1), rfl, q.go _ B1 H1 s1 h2⟩
theorem GE.fd1 (h : ρ[i]? = some (some (.inv (.ref f) (fdIv K f g x y ds)))) (ha : GE K E ta ρ (.ok (.int 1))) : GE K E (tOp (rIxL K) (tVar i) ta) ρ (.ok y) := fun H0 B H σ bh s Q q => by
  obtain ⟨e, _, _⟩ := s.inv i _ _ h
  refine ⟨.ref f, e, ha H0 B H σ bh s _ (fin_ok fun v B1 H1 s1 d1 => ?_)⟩
  cases d1
  obtain ⟨_, ⟨_, v1, v2, xs, h1, _, h3, _⟩, _⟩ := (s.mono s1).inv i _ _ h
  exact ⟨f, _, 1, v2, rfl, rfl, .inl (.inl h1), rfl, q.go _ B1 H1 s1 h3⟩
theorem GS.mkFd (h1 : GE K E ta ρ (.ok x)) (h2 : GE K E tb ρ (.ok y)) (h3 : GE K E tc ρ (.new ds)) (n : ∀ f g, Nx (ρ.set i (some (.inv (.ref f) (fdIv K f g x y ds))))) : GS K E (tAsg (tLst (tCons ta (tCons tb (tCons tc tNil)))) (gName i)) ρ Nx r := fun B0 H0 B H σ st s D nx fn =>
  h1 H0 B H σ st.dh s _ (fin_ok fun v1 B1 H1 s1 d1 => h2 H0 B1 H1 σ s1.dh (s.mono s1) _ (fin_ok fun v2 B2 H2 s2 d2 => h3 H0 B2 H2 σ s2.dh (s.mono (s1.trans s2)) _ (fin_new fun v3 B3 H3 s3 d3 => by
    obtain ⟨g, xs, rfl, g0, gb, g1, gd⟩ := d3
    refine ⟨Evl.sz_of (by simp), fun f hf => ?_⟩
    have sT := (s1.trans s2).trans s3
    have sF := sT.trans (.own sT.dh hf (.lst [v1, v2, .ref g]))
    have nfg : f ≠ g := fun z => by
      subst z
      rw [hf] at g1
      cases g1
    have hg0 : H g = none := fresh_back (s1.trans s2).h g0
    have hf0 : H f = none := fresh_back sT.h hf
    refine nx _ B3 _ _ (st.trans sF) (s.mkInv sF i (fdIv K f g x y ds) (fun a ha => ?_) ⟨nfg, v1, v2, xs, upd_same, dpM (s2.trans s3).d d1, dpM s3.d d2, by rw [upd_ne nfg.symm]; exact g1, gd⟩ fun a ha => ?_) (n f g)
    · rcases List.mem_cons.mp ha with rfl | ha
      · exact hf0
      · rw [List.mem_singleton.mp ha]
        exact hg0
    · rcases List.mem_cons.mp ha with rfl | ha
      · exact ⟨fresh_back st.h hf0, none_of sT.dh hf, by rw [upd_same]; exact fun z => nomatch z⟩
      · rw [List.mem_singleton.mp ha]
        exact ⟨fresh_back st.h hg0, gb, by rw [upd_ne nfg.symm, g1]; exact fun z => nomatch z⟩)))
theorem GS.fdApp {te : TE} {d : PyData} (h : ρ[i]? = some (some (.inv (.ref f) (fdIv K f g x y ds)))) (hm : GE K E ta ρ (.ok (.int 2))) (hz : ds.length < 100000) (he : GE K E te ρ (.ok d)) (n : Nx (ρ.set i (some (.inv (.ref f) (fdIv K f g x y (ds ++ [d])))))) : GS K E (tDrop (tBM K "list" rAppend (tOp (rIxL K) (tVar i) ta) (tCons te tNil))) ρ Nx r := fun B0 H0 B H σ st s D nx fn => by
  obtain ⟨e, _, _⟩ := s.inv i _ _ h
  refine ⟨.ref f, e, hm H0 B H σ st.dh s _ (fin_ok fun v B1 H1 s1 d1 => ?_)⟩
  cases d1
  have sl1 := s.mono s1
  obtain ⟨_, ⟨_, w1, w2, ws, k1, _, _, k4, _⟩, _⟩ := sl1.inv i _ _ h
  refine ⟨f, _, 2, .ref g, rfl, rfl, .inl (.inl k1), rfl, .inl ⟨rfl, _, .inl (.inl k4)⟩, he H0 B1 H1 σ s1.dh sl1 _ (fin_ok fun v B2 H2 s2 d2 => ?_)⟩
  have sl := sl1.mono s2
  obtain ⟨_, ⟨ne, v1, v2, xs, h1, h2, h3, h4, h5⟩, hf⟩ := sl.inv i _ _ h
  refine ⟨g, xs, v, rfl, rfl, h4, Evl.sz_lt (by rw [dps_len h5]; exact hz), ?_⟩
  have st2 := st.trans (s1.trans s2)
  have fg := hf g (List.mem_cons_of_mem _ (List.mem_cons_self ..))
  have m : MStep [f, g] B2 H2 B2 (upd H2 g (.lst (xs ++ [v]))) := ⟨Ex.refl B2, fun a o q => by
    rw [upd_ne (fun z : a = g => by rw [z, fg.2.1] at q; cases q)]
    exact s2.dh a o q, fun a n _ => upd_ne (fun z : a = g => n (by rw [z]; exact List.mem_cons_of_mem _ (List.mem_cons_self ..))), fun _ _ n => n⟩
  refine nx σ B2 _ _ (st2.chg m fun a ha => (hf a ha).1 rfl) (sl.chg h (fdIv K f g x y (ds ++ [d])) m rfl rfl ⟨ne, v1, v2, xs ++ [v], by rw [upd_ne ne]; exact h1, h2, h3, upd_same, dps_app h5 (.cons d2 .nil)⟩ fun a ha => ?_) n
  by_cases z : a = g
  · rw [z, upd_same]
    exact fun z => nomatch z
  · rw [upd_ne z]
    exact (hf a ha).2.2
end
theorem pdDs_lay : ∀ l : List (Int × Bool), PyData.canLayAll0 (l.map pdD) = true
  | [] => rfl
  | p :: l => by simp [PyData.canLayAll0, pdD, PyData.canLay0, pdDs_lay l]
theorem pdDs_dep : ∀ l : List (Int × Bool), PyData.depthAll (l.map pdD) ≤ 1
  | [] => Nat.zero_le _
  | p :: l => by
    have ih := pdDs_dep l
    simp only [List.map_cons, PyData.depthAll, pdD, PyData.depth]
    omega
theorem sh_fd (a b c : Int) (l : List (Int × Bool)) : SeqAt.shaped (.list [.tuple [.int a, .int b], .int c, .list (l.map pdD)]) = true := by
  have h := pdDs_dep l
  unfold SeqAt.shaped
  rw [Bool.and_eq_true]
  refine ⟨by simp [PyData.canLay0, PyData.canLayAll0, pdDs_lay l], decide_eq_true ?_⟩
  simp only [PyData.depth, PyData.depthAll]
  omega
theorem sh_bools (bs : List Bool) : SeqAt.shaped (.list (bs.map PyData.bool)) = true := by
  have h1 : ∀ bs : List Bool, PyData.canLayAll0 (bs.map PyData.bool) = true := fun bs => by
    induction bs with
    | nil => rfl
    | cons b bs ih => simp [PyData.canLayAll0, PyData.canLay0, ih]
  have h2 : ∀ bs : List Bool, PyData.depthAll (bs.map PyData.bool) = 0 := fun bs => by
    induction bs with
    | nil => rfl
    | cons b bs ih => simp [PyData.depthAll, PyData.depth, ih]
  have e1 : (PyData.list (bs.map PyData.bool)).canLay0 = true := by simpa only [PyData.canLay0] using h1 bs
  have e2 : (PyData.list (bs.map PyData.bool)).depth = PyData.depthAll (bs.map PyData.bool) + 1 := by simp only [PyData.depth]
  unfold SeqAt.shaped
  rw [e1, e2, h2 bs, Bool.true_and]
  exact decide_eq_true (by omega)
theorem sh_two (a b : Int) : SeqAt.shaped (.tuple [.int a, .int b]) = true := by
  simp [SeqAt.shaped, PyData.canLay0, PyData.canLayAll0, PyData.depth, PyData.depthAll]
/-- a floor that can't be dropped from -/
def goneV (c lo hi left : Int) : Int := if left = 0 ∧ lo < hi ∧ c / 4 % 2 = 1 then lo + 1 + c / 8 % (hi - lo) else if c % 4 = 0 then lo else if c % 4 = 1 then hi + 1 else if c % 4 = 2 then -1 - c / 4 % 10 ^ 30 else hi + 1 + c / 4 % 10 ^ 30
def R_gone (ds : List PyData) (r : Rs) : Prop := ∃ c lo hi left : Int, ds = [.int c, .int lo, .int hi, .int left] ∧ r = .ok (.int (goneV c lo hi left))
theorem gone_bad {c lo hi left : Int} (h0 : 0 ≤ lo) (h1 : lo ≤ hi) (h : True) : badD lo hi left (goneV c lo hi left) := by
  unfold badD goneV
  have hf := Int.emod_nonneg (c / 4) (show (10 ^ 30 : Int) ≠ 0 by decide +kernel)
  split
  · next q => exact .inr (.inr q.1)
  · split
    · exact .inl (Int.le_refl _)
    · split
      · exact .inr (.inl (by omega))
      · split
        · exact .inl (by omega)
        · exact .inr (.inl (by omega))
end Eg
namespace Eg
open PySem PySem.Spec PyProof.Rows L2
/-- by advice, a drop makes the fewest less -/
theorem adv_b {k f : Nat} {d : Int} (hk : 1 ≤ k) (hf : 1 ≤ f) (h1 : loD k f ≤ d) (h2 : d ≤ hiD k f) (h3 : d.toNat - 1 = 0 ∨ 1 ≤ k - 1) : need (k - 1) (d.toNat - 1) < need k f := by
  have a := lo_hi (k := k) (f := f) hk hf
  have b := (lo_hi_iff (k := k) (f := f) d (by omega) (by omega)).mpr ⟨h1, h2⟩
  have p := (need_spec (k := k) (f := f) (.inr hk)).pos hf
  have q := (need_spec (k := k - 1) (f := d.toNat - 1) h3).le (s := need k f - 1) (by omega)
  omega
theorem adv_w {k f : Nat} {d : Int} (hk : 1 ≤ k) (hf : 1 ≤ f) (h1 : loD k f ≤ d) (h2 : d ≤ hiD k f) : need k (f - d.toNat) < need k f := by
  have a := lo_hi (k := k) (f := f) hk hf
  have b := (lo_hi_iff (k := k) (f := f) d (by omega) (by omega)).mpr ⟨h1, h2⟩
  have p := (need_spec (k := k) (f := f) (.inr hk)).pos hf
  have q := (need_spec (k := k) (f := f - d.toNat) (.inr hk)).le (s := need k f - 1) (by omega)
  omega
end Eg
namespace Eg
open PySem PySem.Spec PyProof.Rows L2
def top (i : Nat) : Stmt := PySem.Challenge.pw_eggfloors_k10_whole_search.main.body.getD i (.Pass ⟨0, 0, 0, 0⟩)
abbrev s_ask : Stmt := top 9
abbrev s_rows : Stmt := top 10
abbrev s_needed : Stmt := top 11
abbrev s_fewest : Stmt := top 12
abbrev s_first_drops : Stmt := top 13
abbrev s_choices : Stmt := top 14
abbrev s_S_init : Stmt := inClass (top 16) 0
abbrev s_S_dropped : Stmt := inClass (top 16) 1
abbrev s_S_span : Stmt := inClass (top 16) 2
abbrev s_S_left : Stmt := inClass (top 16) 3
abbrev s_S_drops : Stmt := inClass (top 16) 4
abbrev s_S_need : Stmt := inClass (top 16) 5
abbrev s_S_advice : Stmt := inClass (top 16) 6
abbrev s_law_cell_at : Stmt := top 18
abbrev s_law_whole : Stmt := top 19
abbrev s_law_pair : Stmt := top 20
abbrev s_law_which : Stmt := top 21
abbrev s_law_gone : Stmt := top 22
abbrev s_law_refused : Stmt := top 23
abbrev s_law_stands : Stmt := top 24
abbrev s_law : Stmt := top 25
abbrev sc_ask_N : List Str := ["floors", "things"]
theorem sc_ask : FnScope sc_ask_N ["floors", "things"] (defScope s_ask) := ⟨rfl, rfl, rfl, by decide +kernel, rfl, by decide +kernel, by decide +kernel⟩
abbrev sc_rows_N : List Str := ["things", "drops", "row", "drop", "k"]
theorem sc_rows : FnScope sc_rows_N ["things", "drops"] (defScope s_rows) := ⟨rfl, rfl, rfl, by decide +kernel, rfl, by decide +kernel, by decide +kernel⟩
abbrev sc_needed_N : List Str := ["floors", "things", "drops", "row", "k"]
theorem sc_needed : FnScope sc_needed_N ["floors", "things"] (defScope s_needed) := ⟨rfl, rfl, rfl, by decide +kernel, rfl, by decide +kernel, by decide +kernel⟩
abbrev sc_fewest_N : List Str := ["floors", "things"]
theorem sc_fewest : FnScope sc_fewest_N ["floors", "things"] (defScope s_fewest) := ⟨rfl, rfl, rfl, by decide +kernel, rfl, by decide +kernel, by decide +kernel⟩
abbrev sc_first_drops_N : List Str := ["floors", "things", "left", "row"]
theorem sc_first_drops : FnScope sc_first_drops_N ["floors", "things"] (defScope s_first_drops) := ⟨rfl, rfl, rfl, by decide +kernel, rfl, by decide +kernel, by decide +kernel⟩
abbrev sc_choices_N : List Str := ["floors", "things"]
theorem sc_choices : FnScope sc_choices_N ["floors", "things"] (defScope s_choices) := ⟨rfl, rfl, rfl, by decide +kernel, rfl, by decide +kernel, by decide +kernel⟩
abbrev sc_S_init_N : List Str := ["self", "floors", "things"]
theorem sc_S_init : FnScope sc_S_init_N ["self", "floors", "things"] (defScope s_S_init) := ⟨rfl, rfl, rfl, by decide +kernel, rfl, by decide +kernel, by decide +kernel⟩
abbrev sc_S_dropped_N : List Str := ["self", "floor", "broken"]
theorem sc_S_dropped : FnScope sc_S_dropped_N ["self", "floor", "broken"] (defScope s_S_dropped) := ⟨rfl, rfl, rfl, by decide +kernel, rfl, by decide +kernel, by decide +kernel⟩
abbrev sc_S_span_N : List Str := ["self"]
theorem sc_S_span : FnScope sc_S_span_N ["self"] (defScope s_S_span) := ⟨rfl, rfl, rfl, by decide +kernel, rfl, by decide +kernel, by decide +kernel⟩
abbrev sc_S_left_N : List Str := ["self"]
theorem sc_S_left : FnScope sc_S_left_N ["self"] (defScope s_S_left) := ⟨rfl, rfl, rfl, by decide +kernel, rfl, by decide +kernel, by decide +kernel⟩
abbrev sc_S_drops_N : List Str := ["self"]
theorem sc_S_drops : FnScope sc_S_drops_N ["self"] (defScope s_S_drops) := ⟨rfl, rfl, rfl, by decide +kernel, rfl, by decide +kernel, by decide +kernel⟩
abbrev sc_S_need_N : List Str := ["self"]
theorem sc_S_need : FnScope sc_S_need_N ["self"] (defScope s_S_need) := ⟨rfl, rfl, rfl, by decide +kernel, rfl, by decide +kernel, by decide +kernel⟩
abbrev sc_S_advice_N : List Str := ["self", "found"]
theorem sc_S_advice : FnScope sc_S_advice_N ["self"] (defScope s_S_advice) := ⟨rfl, rfl, rfl, by decide +kernel, rfl, by decide +kernel, by decide +kernel⟩
abbrev sc_law_cell_at_N : List Str := ["script", "k"]
theorem sc_law_cell_at : FnScope sc_law_cell_at_N ["script", "k"] (defScope s_law_cell_at) := ⟨rfl, rfl, rfl, by decide +kernel, rfl, by decide +kernel, by decide +kernel⟩
abbrev sc_law_whole_N : List Str := ["found"]
theorem sc_law_whole : FnScope sc_law_whole_N ["found"] (defScope s_law_whole) := ⟨rfl, rfl, rfl, by decide +kernel, rfl, by decide +kernel, by decide +kernel⟩
abbrev sc_law_pair_N : List Str := ["found"]
theorem sc_law_pair : FnScope sc_law_pair_N ["found"] (defScope s_law_pair) := ⟨rfl, rfl, rfl, by decide +kernel, rfl, by decide +kernel, by decide +kernel⟩
abbrev sc_law_which_N : List Str := ["e", "some"]
theorem sc_law_which : FnScope sc_law_which_N ["e"] (defScope s_law_which) := ⟨rfl, rfl, rfl, by decide +kernel, rfl, by decide +kernel, by decide +kernel⟩
abbrev sc_law_gone_N : List Str := ["cell", "low", "high", "left", "far"]
theorem sc_law_gone : FnScope sc_law_gone_N ["cell", "low", "high", "left"] (defScope s_law_gone) := ⟨rfl, rfl, rfl, by decide +kernel, rfl, by decide +kernel, by decide +kernel⟩
abbrev sc_law_refused_N : List Str := ["search", "way", "floor", "broken", "told", "e"]
theorem sc_law_refused : FnScope sc_law_refused_N ["search", "way", "floor", "broken"] (defScope s_law_refused) := ⟨rfl, rfl, rfl, by decide +kernel, rfl, by decide +kernel, by decide +kernel⟩
abbrev sc_law_stands_N : List Str := ["search", "low", "high", "things", "done", "found", "bad", "need", "due"]
theorem sc_law_stands : FnScope sc_law_stands_N ["search", "low", "high", "things", "done"] (defScope s_law_stands) := ⟨rfl, rfl, rfl, by decide +kernel, rfl, by decide +kernel, by decide +kernel⟩
abbrev sc_law_N : List Str := ["script", "floors", "things", "floor", "search", "other", "low", "high", "left", "done", "k", "cell", "gone", "drop", "need", "found"]
theorem sc_law : FnScope sc_law_N ["script"] (defScope s_law) := ⟨rfl, rfl, rfl, by decide +kernel, rfl, by decide +kernel, by decide +kernel⟩
structure Tx (K : PySem.W.Frag) (mg : Str → Option Value) (C_FloorError C_NoCase C_NoPlan C_NoFloor C_BadLine C_Search : Addr) : Prop where
  z_ValueError : mg "ValueError" = none
  z_bool : mg "bool" = none
  z_int : mg "int" = none
  z_isinstance : mg "isinstance" = none
  z_len : mg "len" = none
  z_list : mg "list" = none
  z_max : mg "max" = none
  z_min : mg "min" = none
  z_range : mg "range" = none
  z_tuple : mg "tuple" = none
  m_MOST_FLOORS : ∃ u, mg "MOST_FLOORS" = some u ∧ RelV (.int 1000) u
  m_MOST_THINGS : ∃ u, mg "MOST_THINGS" = some u ∧ RelV (.int 12) u
  e_FloorError : ExC K mg "FloorError" C_FloorError
  e_NoCase : ExC K mg "NoCase" C_NoCase
  e_NoPlan : ExC K mg "NoPlan" C_NoPlan
  e_NoFloor : ExC K mg "NoFloor" C_NoFloor
  e_BadLine : ExC K mg "BadLine" C_BadLine
  g_Search : mg "Search" = some (.ref C_Search)
  cl_Search : Cls K C_Search
  na_low : NoAttr K C_Search "low"
  na_high : NoAttr K C_Search "high"
  na_things : NoAttr K C_Search "things"
  na_done : NoAttr K C_Search "done"
  xe_NoCase : L2.ExcC K C_NoCase
  xf_NoCase : PySem.W.exmOne K (.ref C_NoCase) (.ref C_FloorError) = some true
  kt_NoCase_NoCase : PySem.W.kitOne K (.ref C_NoCase) (.ref C_NoCase) = some true
  kt_NoCase_NoPlan : PySem.W.kitOne K (.ref C_NoCase) (.ref C_NoPlan) = some false
  kt_NoCase_NoFloor : PySem.W.kitOne K (.ref C_NoCase) (.ref C_NoFloor) = some false
  kt_NoCase_BadLine : PySem.W.kitOne K (.ref C_NoCase) (.ref C_BadLine) = some false
  kv_NoCase : PySem.W.kitOne K (.ref C_NoCase) (.type "ValueError") = some true
  xe_NoPlan : L2.ExcC K C_NoPlan
  xf_NoPlan : PySem.W.exmOne K (.ref C_NoPlan) (.ref C_FloorError) = some true
  kt_NoPlan_NoCase : PySem.W.kitOne K (.ref C_NoPlan) (.ref C_NoCase) = some false
  kt_NoPlan_NoPlan : PySem.W.kitOne K (.ref C_NoPlan) (.ref C_NoPlan) = some true
  kt_NoPlan_NoFloor : PySem.W.kitOne K (.ref C_NoPlan) (.ref C_NoFloor) = some false
  kt_NoPlan_BadLine : PySem.W.kitOne K (.ref C_NoPlan) (.ref C_BadLine) = some false
  kv_NoPlan : PySem.W.kitOne K (.ref C_NoPlan) (.type "ValueError") = some true
  xe_NoFloor : L2.ExcC K C_NoFloor
  xf_NoFloor : PySem.W.exmOne K (.ref C_NoFloor) (.ref C_FloorError) = some true
  kt_NoFloor_NoCase : PySem.W.kitOne K (.ref C_NoFloor) (.ref C_NoCase) = some false
  kt_NoFloor_NoPlan : PySem.W.kitOne K (.ref C_NoFloor) (.ref C_NoPlan) = some false
  kt_NoFloor_NoFloor : PySem.W.kitOne K (.ref C_NoFloor) (.ref C_NoFloor) = some true
  kt_NoFloor_BadLine : PySem.W.kitOne K (.ref C_NoFloor) (.ref C_BadLine) = some false
  kv_NoFloor : PySem.W.kitOne K (.ref C_NoFloor) (.type "ValueError") = some true
  xe_BadLine : L2.ExcC K C_BadLine
  xf_BadLine : PySem.W.exmOne K (.ref C_BadLine) (.ref C_FloorError) = some true
  kt_BadLine_NoCase : PySem.W.kitOne K (.ref C_BadLine) (.ref C_NoCase) = some false
  kt_BadLine_NoPlan : PySem.W.kitOne K (.ref C_BadLine) (.ref C_NoPlan) = some false
  kt_BadLine_NoFloor : PySem.W.kitOne K (.ref C_BadLine) (.ref C_NoFloor) = some false
  kt_BadLine_BadLine : PySem.W.kitOne K (.ref C_BadLine) (.ref C_BadLine) = some true
  kv_BadLine : PySem.W.kitOne K (.ref C_BadLine) (.type "ValueError") = some true
section
variable {P : Program} {w : World} {K : PySem.W.Frag} {mg : Str → Option Value} {base : Heap} {C_FloorError C_NoCase C_NoPlan C_NoFloor C_BadLine C_Search : Addr} (T : Tx K mg C_FloorError C_NoCase C_NoPlan C_NoFloor C_BadLine C_Search)
include T
def wd_ (i : Nat) : List PyData := [.bool (decide (i = 0)), .bool (decide (i = 1)), .bool (decide (i = 2)), .bool (decide (i = 3)), .bool true]
theorem wh_NoCase : Wh K C_NoCase C_NoPlan C_NoFloor C_BadLine C_NoCase (wd_ 0) := ⟨T.xe_NoCase, _, _, _, _, _, T.kt_NoCase_NoCase, T.kt_NoCase_NoPlan, T.kt_NoCase_NoFloor, T.kt_NoCase_BadLine, T.kv_NoCase, rfl⟩
theorem wh_NoPlan : Wh K C_NoCase C_NoPlan C_NoFloor C_BadLine C_NoPlan (wd_ 1) := ⟨T.xe_NoPlan, _, _, _, _, _, T.kt_NoPlan_NoCase, T.kt_NoPlan_NoPlan, T.kt_NoPlan_NoFloor, T.kt_NoPlan_BadLine, T.kv_NoPlan, rfl⟩
theorem wh_NoFloor : Wh K C_NoCase C_NoPlan C_NoFloor C_BadLine C_NoFloor (wd_ 2) := ⟨T.xe_NoFloor, _, _, _, _, _, T.kt_NoFloor_NoCase, T.kt_NoFloor_NoPlan, T.kt_NoFloor_NoFloor, T.kt_NoFloor_BadLine, T.kv_NoFloor, rfl⟩
theorem wh_BadLine : Wh K C_NoCase C_NoPlan C_NoFloor C_BadLine C_BadLine (wd_ 3) := ⟨T.xe_BadLine, _, _, _, _, _, T.kt_BadLine_NoCase, T.kt_BadLine_NoPlan, T.kt_BadLine_NoFloor, T.kt_BadLine_BadLine, T.kv_BadLine, rfl⟩
theorem ok_ask {f : Addr} {fd : FuncData} (F : Fun K "ask" "ask" s_ask f fd) (hm : mg "ask" = some (.ref f)) (b : Binds K fd ["floors", "things"] []) : Fn P w K mg base 1 "ask" (R_ask C_NoCase) := by
  refine ok_fn F sc_ask hm b (fun ds r ⟨n, t, e, _⟩ => by subst e; rfl) (fun cdv A outer s H E hr => ⟨_, (pss_cons (ps_if (PW.pt (pw_or (pt_cmpR op_lt (pv 0) pe_int (nomark _)) (pw_or (pt_cmpR op_gt (pv 0) (pe_gl (.int 1000) T.m_MOST_FLOORS) (nomark _)) (pw_or (pt_cmpR op_lt (pv 1) pe_int (nomark _)) (pw_or1 (pt_cmpR op_gt (pv 1) (pe_gl (.int 12) T.m_MOST_THINGS) (nomark _))))))) (pss_one (ps_rs T.e_NoCase rfl (takes_of rfl rfl rfl rfl))) pss_nil)
      (pss_one (ps_if (PW.pt (pw_and (pt_cmpR op_gt (pv 0) pe_int (nomark _)) (pw_and1 (pt_cmpR op_eq (pv 1) pe_int (nomark _))))) (pss_one (ps_rs T.e_NoCase rfl (takes_of rfl rfl rfl rfl))) pss_nil))), ?_⟩)
  rintro ds r ⟨n, t, rfl, rfl⟩
  show GS K E _ [some (.dat (.int n)), some (.dat (.int t))] _ _
  refine GS.seq (GS.ifs (b := badA1 n t) (GT.or (GT.test (GE.op (GE.var rfl) GE.int rd_bl)) fun _ => GT.or (GT.test (GE.op (GE.var rfl) (GE.c fun _ => .int 1000) rd_bl)) fun _ => GT.or (GT.test (GE.op (GE.var rfl) GE.int rd_bl)) fun _ => GT.test (GE.op (GE.var rfl) (GE.c fun _ => .int 12) rd_bl)) (fun hb => ?_) fun hb => GS.next ?_)
  · rw [if_pos (by unfold badA; rw [hb]; rfl)]
    exact GS.raise
  · refine GS.ifs (b := badA2 n t) (GT.and (GT.test (GE.op (GE.var rfl) GE.int rd_bl)) fun _ => GT.test (GE.op (GE.var rfl) GE.int rd_eqI)) (fun hc => ?_) fun hc => GS.next ?_
    · rw [if_pos (by unfold badA; rw [hb, hc]; rfl)]
      exact GS.raise
    · rw [if_neg (by unfold badA; rw [hb, hc]; decide)]
theorem ok_rows {f : Addr} {fd : FuncData} (F : Fun K "rows" "rows" s_rows f fd) (hm : mg "rows" = some (.ref f)) (b : Binds K fd ["things", "drops"] []) : Fn P w K mg base 1 "rows" R_rows := by
  refine ok_fn F sc_rows hm b (fun ds r ⟨n, t, e, _⟩ => by subst e; rfl) (fun cdv A outer s H E hr => ⟨_, (pss_cons (ps_set (i := 2) sc_rows.nd rfl (Or.inr rfl) (pe_op op_rep (pe_lst (pa_cons pe_int pa_nil)) (pe_op op_add (pv 0) pe_int)))
      (pss_cons (ps_for (passes_of rfl) rfl (pi_range1 (by rfl) T.z_range (pa_cons (pv 1) pa_nil)) (pg_name (i := 3) sc_rows.nd rfl (Or.inl rfl)) (pss_one (ps_set (i := 2) sc_rows.nd rfl (Or.inr rfl) (pe_op op_cat (pe_lst (pa_cons pe_int pa_nil)) (pe_lc (own := [("k", 4)]) (g := gName 4) rfl sc_rows.nd (pi_range2 (by rfl) T.z_range (pa_cons pe_int (pa_cons (pe_op op_add (pv 0) pe_int) pa_nil))) (blkOk_by (own := [("k", 4)]) (N := sc_rows_N) (sc := defScope s_rows) (by decide +kernel)) (fun _ _ _ _ _ => pg_name (i := 4) sc_rows.nd rfl (Or.inl rfl)) (fun _ _ _ _ _ => pts_nil) (fun _ _ _ _ _ => (pe_op op_add (pe_op op_add (pe_ix (ixL K) (pv 2) (pv 4) (fun _ _ => rfl)) (pe_ix (ixL K) (pv 2) (pe_op op_sub (pv 4) pe_int) (fun _ _ => rfl))) pe_int)))))))
      (pss_one (ps_ret (pv 2))))), ?_⟩)
  rintro ds r ⟨n, t, rfl, hn, ht, rfl⟩
  show GS K E _ [some (.dat (.int n)), some (.dat (.int t)), none, none, none] _ _
  refine GS.seq (GS.asgN (ds := rowD n 0) (GE.to (GE.rep (k := (n : Int) + 1) (GE.lst (GA.cons GE.int GA.nil) (by decide)) (.new _) (GE.op (GE.var rfl) GE.int rd_int) (by omega) (by show 1 * ((n : Int) + 1).toNat ≤ 100000; omega)) (by rw [row_start])) ?_)
  refine GS.seq (GS.forR1 (hi := (t : Int)) (GA.cons (GE.var rfl) GA.nil) (by omega) (fun i ρ' => ∃ x y, ρ' = [some (.dat (.int n)), some (.dat (.int t)), some (.own (rowD n i)), x, y]) ⟨none, none, rfl⟩ ?_ ?_)
  · rintro i ρ' hi ⟨x, y, rfl⟩
    refine GS.asgN (ds := rowD n (i + 1)) (GE.to (GE.cat (GE.lst (GA.cons GE.int GA.nil) (by decide)) (.new _)
      (GE.lcR2 (E' := E0) (fun _ => true) (fun j => .int (rch (j + 1) (i + 1))) (lo := 1) (hi := (n : Int) + 1) (GA.cons GE.int (GA.cons (GE.op (GE.var rfl) GE.int rd_int) GA.nil)) (by omega) (by omega) (fun j hj => GT.yes) (fun j hj _ => ?_)) (.new _)
      (by have := given_len ((n : Int) + 1 - 1).toNat (fun _ => true) (fun j => PyData.int (rch (j + 1) (i + 1))); show 1 + _ ≤ _; omega)) (by rw [row_next])) ⟨_, _, rfl⟩
    refine GE.to (GE.op (GE.op (GE.ixL (GE.own rfl) (.ali _) (GE.var rfl) (row_at (j := j + 1) (by omega) (by omega))) (GE.ixL (GE.own rfl) (.ali _) (GE.op (GE.var rfl) GE.int rd_int) (row_at (j := j) (by omega) (by omega))) rd_int) GE.int rd_int) ?_
    rw [rch_next]
    exact congrArg (fun z => Rs.ok (.int z)) (by omega)
  · rintro ρ' ⟨x, y, rfl⟩
    exact GS.retOwn rfl
theorem ok_needed {f : Addr} {fd : FuncData} (F : Fun K "needed" "needed" s_needed f fd) (hm : mg "needed" = some (.ref f)) (b : Binds K fd ["floors", "things"] []) : Fn P w K mg base 1 "needed" R_needed := by
  refine ok_fn F sc_needed hm b (fun ds r ⟨n, t, e, _⟩ => by subst e; rfl) (fun cdv A outer s H E hr => ⟨_, (pss_cons (ps_set (i := 2) sc_needed.nd rfl (Or.inl rfl) pe_int)
      (pss_cons (ps_set (i := 3) sc_needed.nd rfl (Or.inr rfl) (pe_op op_rep (pe_lst (pa_cons pe_int pa_nil)) (pe_op op_add (pv 1) pe_int)))
      (pss_cons (ps_while (passes_of rfl) (pt_cmpR op_lt (pe_ix (ixL K) (pv 3) (pv 1) (fun _ _ => rfl)) (pv 0) (nomark _)) (pss_cons (ps_set (i := 3) sc_needed.nd rfl (Or.inr rfl) (pe_op op_cat (pe_lst (pa_cons pe_int pa_nil)) (pe_lc (own := [("k", 4)]) (g := gName 4) rfl sc_needed.nd (pi_range2 (by rfl) T.z_range (pa_cons pe_int (pa_cons (pe_op op_add (pv 1) pe_int) pa_nil))) (blkOk_by (own := [("k", 4)]) (N := sc_needed_N) (sc := defScope s_needed) (by decide +kernel)) (fun _ _ _ _ _ => pg_name (i := 4) sc_needed.nd rfl (Or.inl rfl)) (fun _ _ _ _ _ => pts_nil) (fun _ _ _ _ _ => (pe_op op_add (pe_op op_add (pe_ix (ixL K) (pv 3) (pv 4) (fun _ _ => rfl)) (pe_ix (ixL K) (pv 3) (pe_op op_sub (pv 4) pe_int) (fun _ _ => rfl))) pe_int)))))
      (pss_one (ps_set (i := 2) sc_needed.nd rfl (Or.inl rfl) (pe_op op_add (pv 2) pe_int)))))
      (pss_one (ps_ret (pv 2)))))), ?_⟩)
  rintro ds r ⟨f', n, rfl, hf, hn, h0, rfl⟩
  show GS K E _ [some (.dat (.int f')), some (.dat (.int n)), none, none, none] _ _
  have sp := need_spec h0
  refine GS.seq (GS.asg (d := .int (0 : Nat)) GE.int ?_)
  refine GS.seq (GS.asgN (ds := rowD n 0) (GE.to (GE.rep (k := (n : Int) + 1) (GE.lst (GA.cons GE.int GA.nil) (by decide)) (.new _) (GE.op (GE.var rfl) GE.int rd_int) (by omega) (by show 1 * ((n : Int) + 1).toNat ≤ 100000; omega)) (by rw [row_start])) ?_)
  refine GS.seq (GS.while (fun m ρ' => ∃ (t : Nat) (y : Option Cl), m + t = need n f' ∧ ρ' = [some (.dat (.int f')), some (.dat (.int n)), some (.dat (.int t)), some (.own (rowD n t)), y]) (need n f') ⟨0, none, rfl, rfl⟩ ?_)
  rintro m ρ' ⟨t, y, hmt, rfl⟩
  refine ⟨decide ((rch n t : Int) < f'), GT.test (GE.op (GE.ixL (GE.own rfl) (.ali _) (GE.var rfl) (row_at rfl (Nat.le_refl n))) (GE.var rfl) rd_bl), fun hb => ?_, fun hb => ?_⟩
  · have hlt : rch n t < f' := by have := of_decide_eq_true hb; omega
    have ht : t < need n f' := sp.lt hlt
    refine GS.seq (GS.asgN (ds := rowD n (t + 1)) (GE.to (GE.cat (GE.lst (GA.cons GE.int GA.nil) (by decide)) (.new _)
      (GE.lcR2 (E' := E0) (fun _ => true) (fun j => .int (rch (j + 1) (t + 1))) (lo := 1) (hi := (n : Int) + 1) (GA.cons GE.int (GA.cons (GE.op (GE.var rfl) GE.int rd_int) GA.nil)) (by omega) (by omega) (fun j hj => GT.yes) (fun j hj _ => ?_)) (.new _)
      (by have := given_len ((n : Int) + 1 - 1).toNat (fun _ => true) (fun j => PyData.int (rch (j + 1) (t + 1))); show 1 + _ ≤ _; omega)) (by rw [row_next])) ?_)
    · refine GE.to (GE.op (GE.op (GE.ixL (GE.own rfl) (.ali _) (GE.var rfl) (row_at (j := j + 1) (by omega) (by omega))) (GE.ixL (GE.own rfl) (.ali _) (GE.op (GE.var rfl) GE.int rd_int) (row_at (j := j) (by omega) (by omega))) rd_int) GE.int rd_int) ?_
      rw [rch_next]
      exact congrArg (fun z => Rs.ok (.int z)) (by omega)
    · exact GS.asg (d := .int ((t + 1 : Nat) : Int)) (GE.op (GE.var rfl) GE.int rd_int) ⟨m - 1, by omega, t + 1, y, by omega, rfl⟩
  · have hge : f' ≤ rch n t := by have := of_decide_eq_false hb; omega
    have ht : need n f' = t := Nat.le_antisymm (sp.le hge) (by omega)
    rw [ht]
    exact GS.retD (GE.var rfl)
theorem ok_fewest (C_ask : Fn P w K mg base 1 "ask" (R_ask C_NoCase)) (C_needed : Fn P w K mg base 1 "needed" R_needed) {f : Addr} {fd : FuncData} (F : Fun K "fewest" "fewest" s_fewest f fd) (hm : mg "fewest" = some (.ref f)) (b : Binds K fd ["floors", "things"] []) : Fn P w K mg base 2 "fewest" (R_fewest C_NoCase) := by
  refine ok_fn F sc_fewest hm b (fun ds r ⟨n, t, e, _⟩ => by subst e; rfl) (fun cdv A outer s H E hr => ⟨_, (pss_cons (ps_expr (pe_f (E := E) C_ask hr (by omega) (fun σ => passAt (takes_of rfl rfl rfl rfl) σ) (pa_cons (pv 0) (pa_cons (pv 1) pa_nil))))
      (pss_one (ps_ret (pe_f (E := E) C_needed hr (by omega) (fun σ => passAt (takes_of rfl rfl rfl rfl) σ) (pa_cons (pv 0) (pa_cons (pv 1) pa_nil)))))), ?_⟩)
  rintro ds r ⟨n, t, rfl, rfl⟩
  show GS K E _ [some (.dat (.int n)), some (.dat (.int t))] _ _
  by_cases hb : badA n t = true
  · rw [if_pos hb]
    exact GS.seq (GS.dropX (GE.call (GA.cons (GE.var rfl) (GA.cons (GE.var rfl) GA.nil)) ⟨n, t, rfl, by rw [if_pos hb]⟩))
  · rw [if_neg hb]
    obtain ⟨n', t', rfl, rfl, h1, h2, h3⟩ := badA_no hb
    refine GS.seq (GS.drop (d := .none) (GE.call (GA.cons (GE.var rfl) (GA.cons (GE.var rfl) GA.nil)) ⟨_, _, rfl, by rw [if_neg hb]⟩) ?_)
    exact GS.retD (GE.call (GA.cons (GE.var rfl) (GA.cons (GE.var rfl) GA.nil)) ⟨n', t', rfl, h1, h2, h3, rfl⟩)
theorem ok_first_drops (C_needed : Fn P w K mg base 1 "needed" R_needed) (C_rows : Fn P w K mg base 1 "rows" R_rows) {f : Addr} {fd : FuncData} (F : Fun K "first_drops" "first_drops" s_first_drops f fd) (hm : mg "first_drops" = some (.ref f)) (b : Binds K fd ["floors", "things"] []) : Fn P w K mg base 2 "first_drops" R_first := by
  refine ok_fn F sc_first_drops hm b (fun ds r ⟨n, t, e, _⟩ => by subst e; rfl) (fun cdv A outer s H E hr => ⟨_, (pss_cons (ps_set (i := 2) sc_first_drops.nd rfl (Or.inl rfl) (pe_op op_sub (pe_f (E := E) C_needed hr (by omega) (fun σ => passAt (takes_of rfl rfl rfl rfl) σ) (pa_cons (pv 0) (pa_cons (pv 1) pa_nil))) pe_int))
      (pss_cons (ps_set (i := 3) sc_first_drops.nd rfl (Or.inl rfl) (pe_f (E := E) C_rows hr (by omega) (fun σ => passAt (takes_of rfl rfl rfl rfl) σ) (pa_cons (pv 1) (pa_cons (pv 2) pa_nil))))
      (pss_one (ps_ret (pe_tup (pa_cons (pe_callB (call_max' rfl) (by rfl) T.z_max (by decide +kernel) (pa_cons pe_int (pa_cons (pe_op op_sub (pv 0) (pe_ix (ixL K) (pv 3) (pv 1) (fun _ _ => rfl))) pa_nil))) (pa_cons (pe_callB (call_min' rfl) (by rfl) T.z_min (by decide +kernel) (pa_cons (pv 0) (pa_cons (pe_op op_add (pe_ix (ixL K) (pv 3) (pe_op op_sub (pv 1) pe_int) (fun _ _ => rfl)) pe_int) pa_nil))) pa_nil))))))), ?_⟩)
  rintro ds r ⟨f', n, rfl, hf1, hf, hn1, hn, rfl⟩
  show GS K E _ [some (.dat (.int f')), some (.dat (.int n)), none, none] _ _
  have sp := need_spec (k := n) (f := f') (.inr hn1)
  have hp : 1 ≤ need n f' := sp.pos hf1
  have hle := need_le (k := n) (f := f') hn1
  refine GS.seq (GS.asg (d := .int ((need n f' - 1 : Nat) : Int)) (GE.to (GE.op (GE.call (GA.cons (GE.var rfl) (GA.cons (GE.var rfl) GA.nil)) ⟨f', n, rfl, hf, hn, .inr hn1, rfl⟩) GE.int rd_int) (congrArg (fun z => Rs.ok (.int z)) (by omega))) ?_)
  refine GS.seq (GS.asgN (ds := rowD n (need n f' - 1)) (GE.call (GA.cons (GE.var rfl) (GA.cons (GE.var rfl) GA.nil)) ⟨n, need n f' - 1, rfl, hn, by omega, rfl⟩) ?_)
  exact GS.retD (GE.tup (GA.cons (GE.max (GA.cons GE.int (GA.cons (GE.op (GE.var rfl) (GE.ixL (GE.own rfl) (.ali _) (GE.var rfl) (row_at rfl (Nat.le_refl n))) rd_int) GA.nil)))
    (GA.cons (GE.min (GA.cons (GE.var rfl) (GA.cons (GE.op (GE.ixL (GE.own rfl) (.ali _) (GE.op (GE.var rfl) GE.int rd_int) (row_at (j := n - 1) (by omega) (by omega))) GE.int rd_int) GA.nil))) GA.nil)) (by simp))
theorem ok_choices (C_ask : Fn P w K mg base 1 "ask" (R_ask C_NoCase)) (C_first_drops : Fn P w K mg base 2 "first_drops" R_first) {f : Addr} {fd : FuncData} (F : Fun K "choices" "choices" s_choices f fd) (hm : mg "choices" = some (.ref f)) (b : Binds K fd ["floors", "things"] []) : Fn P w K mg base 3 "choices" (R_choices C_NoCase) := by
  refine ok_fn F sc_choices hm b (fun ds r ⟨n, t, e, _⟩ => by subst e; rfl) (fun cdv A outer s H E hr => ⟨_, (pss_cons (ps_expr (pe_f (E := E) C_ask hr (by omega) (fun σ => passAt (takes_of rfl rfl rfl rfl) σ) (pa_cons (pv 0) (pa_cons (pv 1) pa_nil))))
      (pss_cons (ps_if (pt_cmpR op_eq (pv 0) pe_int (nomark _)) (pss_one (ps_ret pe_non)) pss_nil)
      (pss_one (ps_ret (pe_f (E := E) C_first_drops hr (by omega) (fun σ => passAt (takes_of rfl rfl rfl rfl) σ) (pa_cons (pv 0) (pa_cons (pv 1) pa_nil))))))), ?_⟩)
  rintro ds r ⟨n, t, rfl, rfl⟩
  show GS K E _ [some (.dat (.int n)), some (.dat (.int t))] _ _
  by_cases hb : badA n t = true
  · rw [if_pos hb]
    exact GS.seq (GS.dropX (GE.call (GA.cons (GE.var rfl) (GA.cons (GE.var rfl) GA.nil)) ⟨n, t, rfl, by rw [if_pos hb]⟩))
  · rw [if_neg hb]
    obtain ⟨n', t', rfl, rfl, h1, h2, h3⟩ := badA_no hb
    refine GS.seq (GS.drop (d := .none) (GE.call (GA.cons (GE.var rfl) (GA.cons (GE.var rfl) GA.nil)) ⟨_, _, rfl, by rw [if_neg hb]⟩) ?_)
    refine GS.seq (GS.ifs (b := decide ((n' : Int) = 0)) (GT.test (GE.op (GE.var rfl) GE.int rd_eqI)) (fun hc => ?_) fun hc => GS.next ?_)
    · rw [if_pos (of_decide_eq_true hc)]
      exact GS.retD GE.non
    · have hn := of_decide_eq_false hc
      rw [if_neg hn]
      exact GS.retD (GE.call (GA.cons (GE.var rfl) (GA.cons (GE.var rfl) GA.nil)) ⟨n', t', rfl, by omega, h1, by omega, h2, rfl⟩)
theorem ok_S_init (C_ask : Fn P w K mg base 1 "ask" (R_ask C_NoCase)) {f : Addr} {fd : FuncData} (F : Fun K "__init__" "Search.__init__" s_S_init f fd) (hm : Mk K C_Search f) (b : Binds K fd ["self", "floors", "things"] []) : FnMk P w K mg base 2 C_Search (spI K C_Search) := by
  refine ⟨f, fd, _, F.okX sc_S_init (fun vs H Q E h => ?_) (fun cdv A outer s H vs Q E hr h => ?_), hm, b⟩
  · obtain ⟨p, n, t, B, rfl, _⟩ := h
    rfl
  · obtain ⟨p, n, t, B, rfl, hb, ⟨dx, hp⟩, bh, hBp, fin⟩ := h
    refine ⟨_, (pss_cons (ps_expr (pe_f (E := E) C_ask hr (by omega) (fun σ => passAt (takes_of rfl rfl rfl rfl) σ) (pa_cons (pv 1) (pa_cons (pv 2) pa_nil))))
      (pss_cons (ps_fld (pv 0) pe_int rfl)
      (pss_cons (ps_fld (pv 0) (pv 1) rfl)
      (pss_cons (ps_fld (pv 0) (pv 2) rfl)
      (pss_one (ps_fld (pv 0) (pe_lst pa_nil) rfl)))))), ?_⟩
    have sl : Sl K H B H (L2.start sc_S_init_N [.ref p, .int n, .int t]) [none, some (.dat (.int n)), some (.dat (.int t))] := by
      refine ⟨rfl, fun i d e => ?_, fun i d e => ?_, fun i j di dj _ e => ?_, fun i v e => ?_, fun i v iv e => ?_, fun i j v iv ds b e => ?_, fun i j v v' iv iv' _ e => ?_⟩
      · match i, e with
        | 1, e =>
          cases e
          exact ⟨_, rfl, .int _⟩
        | 2, e =>
          cases e
          exact ⟨_, rfl, .int _⟩
      all_goals
        match i, e with
        | 1, e => cases e
        | 2, e => cases e
    refine (GE.call (K := K) (E := E) (R := R_ask C_NoCase) (GA.cons (GE.var rfl) (GA.cons (GE.var rfl) GA.nil)) ⟨n, t, rfl, by rw [if_neg hb]⟩) H B H _ bh sl _ (fin_ok fun v B1 H1 s1 d1 => ?_)
    have e1 : H1 p = some (.ins C_Search dx []) := s1.h p _ hp
    have fBp : B1 p = none := s1.fr p (by rw [hp]; exact fun z => nomatch z) hBp
    refine ⟨_, rfl, p, C_Search, dx, _, rfl, e1, T.cl_Search, T.na_low, (by show 0 < 1000; decide), ?_⟩
    refine ⟨_, rfl, _, rfl, p, C_Search, dx, _, rfl, upd_same, T.cl_Search, T.na_high, (by show 1 < 1000; decide), ?_⟩
    refine ⟨_, rfl, _, rfl, p, C_Search, dx, _, rfl, upd_same, T.cl_Search, T.na_things, (by show 2 < 1000; decide), ?_⟩
    refine ⟨Evl.sz_of (by simp), fun d hd => ?_⟩
    have ndp : d ≠ p := fun z => by
      subst z
      rw [upd_same] at hd
      cases hd
    refine ⟨_, rfl, p, C_Search, dx, _, rfl, (by rw [upd_ne ndp.symm]; exact upd_same), T.cl_Search, T.na_done, (by show 3 < 1000; decide), ?_⟩
    have hd1 : H1 d = none := by
      rw [upd_ne ndp, upd_ne ndp, upd_ne ndp] at hd
      exact hd
    have hd0 : H d = none := Evl.fresh_back s1.h hd1
    refine fin d B1 _ hd0 ⟨s1.d, fun a o q => ?_, fun a na ha => ?_, s1.fr⟩ (none_of s1.dh hd1) ⟨ndp.symm, ⟨dx, ?_⟩, [], ?_, .nil⟩
    · have nap : a ≠ p := fun z => by rw [z, fBp] at q; cases q
      have nad : a ≠ d := fun z => by rw [z, none_of s1.dh hd1] at q; cases q
      rw [upd_ne nap, upd_ne nad, upd_ne nap, upd_ne nap, upd_ne nap]
      exact s1.dh a o q
    · have nap : a ≠ p := fun z => na (by rw [z]; exact List.mem_singleton.mpr rfl)
      have nad : a ≠ d := fun z => ha (by rw [z]; exact hd0)
      rw [upd_ne nap, upd_ne nad, upd_ne nap, upd_ne nap, upd_ne nap]
      exact (MStep.of (fp := []) s1).keep a (by simp) ha
    · rw [upd_same]
      rfl
    · rw [upd_ne ndp, upd_same]
theorem ok_S_dropped {f : Addr} {fd : FuncData} (F : Fun K "dropped" "Search.dropped" s_S_dropped f fd) (hm : Meth K C_Search "dropped" f) (b : Binds K fd ["self", "floor", "broken"] []) : FnMt P w K mg base 1 C_Search "dropped" (spD K C_Search C_NoFloor) := by
  refine ⟨f, fd, _, F.okX sc_S_dropped (fun vs H Q E h => ?_) (fun cdv A outer s H vs Q E hr h => ?_), hm, b⟩
  · obtain ⟨p, d, lo, hi, th, done, fl, br, B, rfl, _⟩ := h
    rfl
  · obtain ⟨p, d, lo, hi, th, done, fl, br, B, rfl, bh, SI, h1, h2, hz, up, fin⟩ := h
    refine ⟨_, (pss_cons (ps_if (PW.pt (pw_or (pt_cmpR op_le (pv 1) (pe_fld (pv 0) rfl) (nomark _)) (pw_or (pt_cmpR op_gt (pv 1) (pe_fld (pv 0) rfl) (nomark _)) (pw_or1 (pt_cmpR op_eq (pe_fld (pv 0) rfl) pe_int (nomark _)))))) (pss_one (ps_rs T.e_NoFloor rfl (takes_of rfl rfl rfl rfl))) pss_nil)
      (pss_cons (ps_if (pt_val (pv 2)) (pss_cons (ps_fld (pv 0) (pe_op op_sub (pv 1) pe_int) rfl)
      (pss_one (ps_fld (pv 0) (pe_op op_sub (pe_fld (pv 0) rfl) pe_int) rfl))) (pss_one (ps_fld (pv 0) (pv 1) rfl)))
      (pss_cons (ps_expr (pe_bm PySem.F.plainAttrs_list PySem.F.slot_list_append PySem.F.type_list_append mt_append (pe_fld (pv 0) rfl) (pa_cons (pe_tup (pa_cons (pv 1) (pa_cons (pv 2) pa_nil))) pa_nil)))
      (pss_one (ps_ret (pe_callB (cLen K) (by rfl) T.z_len (by decide +kernel) (pa_cons (pe_fld (pv 0) rfl) pa_nil))))))), ?_⟩
    have sl0 : Sl K H B H (L2.start sc_S_dropped_N [.ref p]) _ := sl_inv1 (v := .ref p) (iv := srIv K C_Search p d lo hi th done true) (by decide) rfl SI (sr_fp SI h1 h2)
    have sl : Sl K H B H (L2.start sc_S_dropped_N [.ref p, .int fl, .bl br]) [some (.inv (.ref p) (srIv K C_Search p d lo hi th done true)), some (.dat (.int fl)), some (.dat (.bool br))] := (sl0.setD 1 (.int fl)).setD 2 (.bl br)
    have tst : GT K E _ [some (.inv (.ref p) (srIv K C_Search p d lo hi th done true)), some (.dat (.int fl)), some (.dat (.bool br))] (decide (fl ≤ lo) || (decide (fl > hi) || decide (th = 0))) := GT.or (GT.test (GE.op (GE.var (i := 1) rfl) (GE.fld (i := 0) rfl T.cl_Search T.na_low f_low) (rd_bl (g := fun i j => decide (i ≤ j))))) fun _ => GT.or (GT.test (GE.op (GE.var (i := 1) rfl) (GE.fld (i := 0) rfl T.cl_Search T.na_high f_high) (rd_bl (g := fun i j => decide (i > j))))) fun _ => GT.test (GE.op (GE.fld (i := 0) rfl T.cl_Search T.na_things f_things) (GE.int (i := 0)) rd_eqI)
    refine tst H B H _ bh sl _ fun B1 H1 s1 => ?_
    by_cases bad : badD lo hi th fl
    · have e : (decide (fl ≤ lo) || (decide (fl > hi) || decide (th = 0))) = true := by
        unfold badD at bad
        simp only [Bool.or_eq_true, decide_eq_true_eq]
        omega
      rw [e, if_pos rfl]
      exact up bad B1 H1 s1
    · have e : (decide (fl ≤ lo) || (decide (fl > hi) || decide (th = 0))) = false := by
        unfold badD at bad
        simp only [Bool.or_eq_false_iff, decide_eq_false_iff_not]
        omega
      rw [e, if_neg (fun z => nomatch z)]
      have sl1 := sl.mono s1
      have m1 : MStep [p, d] B H B1 H1 := .of s1
      have fin := fin bad
      have last : ∀ (lo' hi' th' : Int) (B2 H2 : Hp), MStep [p, d] B H B2 H2 → Sl K H B2 H2 (L2.start sc_S_dropped_N [.ref p, .int fl, .bl br]) [some (.inv (.ref p) (srIv K C_Search p d lo' hi' th' done true)), some (.dat (.int fl)), some (.dat (.bool br))] → (∀ B' H', MStep [p, d] B H B' H' → SrI K C_Search p d lo' hi' th' (done ++ [(fl, br)]) B' H' → Q (.int (done.length + 1)) H') →
          tSeq (tDrop (tBM K "list" rAppend (tFld K (tVar 0) "done") (tCons (tTup (tCons (tVar 1) (tCons (tVar 2) tNil))) tNil))) (tRet (tCB (rLenQ K) (tCons (tFld K (tVar 0) "done") tNil))) { nx := fun _ H' => Q .non H', rt := Q } (L2.start sc_S_dropped_N [.ref p, .int fl, .bl br]) H2 := fun lo' hi' th' B2 H2 m2 sl2 fin2 => by
        have hn2 : ∀ a ∈ [p, d], H2 a ≠ none := fun a ha => ((sl2.inv 0 _ _ rfl).2.2 a ha).2.2
        refine done_app (q := (fl, br)) (E := E) sl2 m2.dh rfl (GE.tup (ds := [.int fl, .bool br]) (GA.cons (GE.var rfl) (GA.cons (GE.var rfl) GA.nil)) (by simp)) T.cl_Search T.na_done hz fun B3 H3 m3 sl3 => ?_
        have m23 := m2.trans hn2 m3
        have hn3 : ∀ a ∈ [p, d], H3 a ≠ none := fun a ha => ((sl3.inv 0 _ _ rfl).2.2 a ha).2.2
        refine (GE.len (GE.fldDone (E := E) (K := K) (i := 0) rfl T.cl_Search T.na_done) (.ls (.ali _))) H B3 H3 _ m23.dh sl3 _ (fin_ok fun v B4 H4 s4 d4 => ?_)
        cases d4
        have S4 := ((sl3.mono s4).inv 0 _ _ rfl).2.1
        have := fin2 B4 H4 (m23.trans hn3 (.of s4)) S4
        simpa using this
      cases br with
      | true =>
        refine go_next ?_
        dsimp only
        refine go_seq ?_
        refine go_if ?_
        refine (GT.val (E := E) (K := K) (GE.var (i := 2) (d := .bool true) rfl)) H B1 H1 _ s1.dh sl1 _ fun B2 H2 s2 => ?_
        rw [if_pos rfl]
        have m2 := m1.trans (fun a ha => ((sl1.inv 0 _ _ rfl).2.2 a ha).2.2) (.of s2)
        have sl2 := sl1.mono s2
        refine fld_set (E := E) sl2 s2.dh rfl (GE.op (GE.var rfl) GE.int rd_int) T.cl_Search T.na_high (fun d => p_high) fun B3 H3 m3 sl3 => ?_
        have m23 := m2.trans (fun a ha => ((sl2.inv 0 _ _ rfl).2.2 a ha).2.2) m3
        refine fld_set (E := E) sl3 m3.dh rfl (GE.op (GE.fld rfl T.cl_Search T.na_things f_things) GE.int rd_int) T.cl_Search T.na_things (fun d => p_things) fun B4 H4 m4 sl4 => ?_
        have m24 := m23.trans (fun a ha => ((sl3.inv 0 _ _ rfl).2.2 a ha).2.2) m4
        exact last lo (fl - 1) (th - 1) B4 H4 m24 sl4 fin
      | false =>
        refine go_next ?_
        dsimp only
        refine go_seq ?_
        refine go_if ?_
        refine (GT.val (E := E) (K := K) (GE.var (i := 2) (d := .bool false) rfl)) H B1 H1 _ s1.dh sl1 _ fun B2 H2 s2 => ?_
        rw [if_neg (fun z => nomatch z)]
        have m2 := m1.trans (fun a ha => ((sl1.inv 0 _ _ rfl).2.2 a ha).2.2) (.of s2)
        have sl2 := sl1.mono s2
        refine fld_set (E := E) sl2 s2.dh rfl (GE.var rfl) T.cl_Search T.na_low (fun d => p_low) fun B3 H3 m3 sl3 => ?_
        have m23 := m2.trans (fun a ha => ((sl2.inv 0 _ _ rfl).2.2 a ha).2.2) m3
        exact last fl hi th B3 H3 m23 sl3 fin
theorem ok_S_span {f : Addr} {fd : FuncData} (F : Fun K "span" "Search.span" s_S_span f fd) (hm : Meth K C_Search "span" f) (b : Binds K fd ["self"] []) : FnMt P w K mg base 1 C_Search "span" (spM K C_Search R_span) := by
  refine ok_mt F sc_S_span (by decide) hm b fun cdv A outer s H E hr => ⟨_, (pss_one (ps_ret (pe_tup (pa_cons (pe_fld (pv 0) rfl) (pa_cons (pe_fld (pv 0) rfl) pa_nil))))), ?_⟩
  rintro p d lo hi th done r rfl
  show GS K E _ [some (.inv (.ref p) (srIv K C_Search p d lo hi th done true))] _ _
  exact GS.retD (GE.tup (GA.cons (GE.fld rfl T.cl_Search T.na_low f_low) (GA.cons (GE.fld rfl T.cl_Search T.na_high f_high) GA.nil)) (by simp))
theorem ok_S_left {f : Addr} {fd : FuncData} (F : Fun K "left" "Search.left" s_S_left f fd) (hm : Meth K C_Search "left" f) (b : Binds K fd ["self"] []) : FnMt P w K mg base 1 C_Search "left" (spM K C_Search R_left) := by
  refine ok_mt F sc_S_left (by decide) hm b fun cdv A outer s H E hr => ⟨_, (pss_one (ps_ret (pe_fld (pv 0) rfl))), ?_⟩
  rintro p d lo hi th done r rfl
  show GS K E _ [some (.inv (.ref p) (srIv K C_Search p d lo hi th done true))] _ _
  exact GS.retD (GE.fld rfl T.cl_Search T.na_things f_things)
theorem ok_S_drops {f : Addr} {fd : FuncData} (F : Fun K "drops" "Search.drops" s_S_drops f fd) (hm : Meth K C_Search "drops" f) (b : Binds K fd ["self"] []) : FnMt P w K mg base 1 C_Search "drops" (spM K C_Search R_drops) := by
  refine ok_mt F sc_S_drops (by decide) hm b fun cdv A outer s H E hr => ⟨_, (pss_one (ps_ret (pe_callTy (cList K) (by rfl) T.z_list (by decide +kernel) (pa_cons (pe_fld (pv 0) rfl) pa_nil)))), ?_⟩
  rintro p d lo hi th done r rfl
  show GS K E _ [some (.inv (.ref p) (srIv K C_Search p d lo hi th done true))] _ _
  exact GS.retN (GE.list (GE.fldDone rfl T.cl_Search T.na_done) (.ls (.ali _)))
theorem ok_S_need (C_fewest : Fn P w K mg base 2 "fewest" (R_fewest C_NoCase)) {f : Addr} {fd : FuncData} (F : Fun K "need" "Search.need" s_S_need f fd) (hm : Meth K C_Search "need" f) (b : Binds K fd ["self"] []) : FnMt P w K mg base 3 C_Search "need" (spM K C_Search (R_nd C_NoCase)) := by
  refine ok_mt F sc_S_need (by decide) hm b fun cdv A outer s H E hr => ⟨_, (pss_one (ps_ret (pe_f (E := E) C_fewest hr (by omega) (fun σ => passAt (takes_of rfl rfl rfl rfl) σ) (pa_cons (pe_op op_sub (pe_fld (pv 0) rfl) (pe_fld (pv 0) rfl)) (pa_cons (pe_fld (pv 0) rfl) pa_nil))))), ?_⟩
  intro p d lo hi th done r hR
  show GS K E _ [some (.inv (.ref p) (srIv K C_Search p d lo hi th done true))] _ _
  have ge : GE K E _ [some (.inv (.ref p) (srIv K C_Search p d lo hi th done true))] r := GE.call (GA.cons (GE.op (GE.fld (i := 0) rfl T.cl_Search T.na_high f_high) (GE.fld (i := 0) rfl T.cl_Search T.na_low f_low) (rd_int (g := fun i j => i - j))) (GA.cons (GE.fld (i := 0) rfl T.cl_Search T.na_things f_things) GA.nil)) hR
  obtain ⟨n, t, e, hr2⟩ := hR
  by_cases hb : badA n t = true
  · rw [if_pos hb] at hr2
    subst hr2
    exact GS.retX ge
  · rw [if_neg hb] at hr2
    subst hr2
    exact GS.retD ge
theorem ok_S_advice (C_choices : Fn P w K mg base 3 "choices" (R_choices C_NoCase)) {f : Addr} {fd : FuncData} (F : Fun K "advice" "Search.advice" s_S_advice f fd) (hm : Meth K C_Search "advice" f) (b : Binds K fd ["self"] []) : FnMt P w K mg base 4 C_Search "advice" (spM K C_Search (R_adv C_NoCase)) := by
  refine ok_mt F sc_S_advice (by decide) hm b fun cdv A outer s H E hr => ⟨_, (pss_cons (ps_set (i := 1) sc_S_advice.nd rfl (Or.inl rfl) (pe_f (E := E) C_choices hr (by omega) (fun σ => passAt (takes_of rfl rfl rfl rfl) σ) (pa_cons (pe_op op_sub (pe_fld (pv 0) rfl) (pe_fld (pv 0) rfl)) (pa_cons (pe_fld (pv 0) rfl) pa_nil))))
      (pss_cons (ps_if (pt_cmpR op_isN' (pv 1) pe_non (nomark _)) (pss_one (ps_ret pe_non)) pss_nil)
      (pss_one (ps_ret (pe_tup (pa_cons (pe_op op_add (pe_fld (pv 0) rfl) (pe_ix (ixT K) (pv 1) pe_int (fun _ _ => rfl))) (pa_cons (pe_op op_add (pe_fld (pv 0) rfl) (pe_ix (ixT K) (pv 1) pe_int (fun _ _ => rfl))) pa_nil))))))), ?_⟩
  rintro p d lo hi th done r rfl
  show GS K E _ [some (.inv (.ref p) (srIv K C_Search p d lo hi th done true)), none] _ _
  have args := fun (E : XK) => GA.cons (K := K) (E := E) (GE.op (GE.fld (ρ := [some (.inv (.ref p) (srIv K C_Search p d lo hi th done true)), none]) (i := 0) rfl T.cl_Search T.na_high f_high) (GE.fld (i := 0) rfl T.cl_Search T.na_low f_low) (rd_int (g := fun i j => i - j))) (GA.cons (GE.fld (i := 0) rfl T.cl_Search T.na_things f_things) GA.nil)
  by_cases hb : badA (hi - lo) th = true
  · rw [if_pos hb]
    exact GS.seq (GS.asgX (GE.call (args E) ⟨hi - lo, th, rfl, by rw [if_pos hb]⟩))
  · rw [if_neg hb]
    by_cases h0 : hi - lo = 0
    · rw [if_pos h0]
      refine GS.seq (GS.asg (d := .none) (GE.call (args E) ⟨hi - lo, th, rfl, by rw [if_neg hb, if_pos h0]⟩) ?_)
      exact GS.seq (GS.ifs (b := true) (GT.test (GE.op (GE.var (d := .none) rfl) GE.non rd_isN)) (fun _ => GS.retD GE.non) fun z => nomatch z)
    · rw [if_neg h0]
      refine GS.seq (GS.asg (d := .tuple [.int (loD th.toNat (hi - lo).toNat), .int (hiD th.toNat (hi - lo).toNat)]) (GE.call (args E) ⟨hi - lo, th, rfl, by rw [if_neg hb, if_neg h0]⟩) ?_)
      refine GS.seq (GS.ifs (b := false) (GT.test (GE.op (GE.var (d := .tuple [.int (loD th.toNat (hi - lo).toNat), .int (hiD th.toNat (hi - lo).toNat)]) rfl) GE.non rd_isN)) (fun z => nomatch z) fun _ => GS.next ?_)
      have ev : ∀ {ρ : Rho}, ρ[1]? = some (some (.dat (.tuple [.int (loD th.toNat (hi - lo).toNat), .int (hiD th.toNat (hi - lo).toNat)]))) → GE K E (tVar 1) ρ (.ok (.tuple [.int (loD th.toNat (hi - lo).toNat), .int (hiD th.toNat (hi - lo).toNat)])) := fun h => GE.var h
      exact GS.retD (GE.tup (GA.cons (GE.op (GE.fld (i := 0) rfl T.cl_Search T.na_low f_low) (GE.ixT (ev rfl) GE.int rfl) rd_int) (GA.cons (GE.op (GE.fld (i := 0) rfl T.cl_Search T.na_low f_low) (GE.ixT (ev rfl) GE.int rfl) rd_int) GA.nil)) (by simp))
theorem ok_law_cell_at {f : Addr} {fd : FuncData} (F : Fun K "_law_cell_at" "_law_cell_at" s_law_cell_at f fd) (hm : mg "_law_cell_at" = some (.ref f)) (b : Binds K fd ["script", "k"] []) : Fn P w K mg base 1 "_law_cell_at" R_cell := by
  refine ok_fn F sc_law_cell_at hm b (fun ds r ⟨ns, k, e, _⟩ => by subst e; rfl) (fun cdv A outer s H E hr => ⟨_, (pss_cons (ps_if (pt_cmpR op_lt (pv 1) (pe_callB (cLen K) (by rfl) T.z_len (by decide +kernel) (pa_cons (pv 0) pa_nil)) (nomark _)) (pss_one (ps_ret (pe_ix (ixL K) (pv 0) (pv 1) (fun _ _ => rfl)))) pss_nil)
      (pss_one (ps_ret pe_int))), ?_⟩)
  rintro ds r ⟨ns, k, rfl, rfl⟩
  show GS K E _ [some (.dat (.list (ns.map .int))), some (.dat (.int k))] _ _
  refine GS.seq (GS.ifs (b := decide (k < ns.length)) ((GT.test (GE.op (GE.var rfl) (GE.len (GE.var rfl) (.ls (.ok _))) rd_bl)).to ?_) (fun hb => ?_) fun hb => ?_)
  · rw [List.length_map]
    exact decide_eq_decide.mpr (by omega)
  · have h := of_decide_eq_true hb
    exact GS.retD (GE.ixL (GE.var rfl) (.ok _) (GE.var rfl) (cell_in h))
  · have h := of_decide_eq_false hb
    refine GS.next (GS.retD ?_)
    rw [cell_out (by omega)]
    exact GE.int
theorem ok_law_whole {f : Addr} {fd : FuncData} (F : Fun K "_law_whole" "_law_whole" s_law_whole f fd) (hm : mg "_law_whole" = some (.ref f)) (b : Binds K fd ["found"] []) : Fn P w K mg base 1 "_law_whole" R_whole := by
  refine ok_fn F sc_law_whole hm b (fun ds r ⟨i, e, _⟩ => by subst e; rfl) (fun cdv A outer s H E hr => ⟨_, (pss_one (ps_ret (pe_and (pe_callB (cIsi K) (by rfl) T.z_isinstance (by decide +kernel) (pa_cons (pv 0) (pa_cons (pe_bltn (v := .ty "int") (by rfl) T.z_int (by decide +kernel) rfl) pa_nil))) (pe_one (pe_not (pe_callB (cIsi K) (by rfl) T.z_isinstance (by decide +kernel) (pa_cons (pv 0) (pa_cons (pe_bltn (v := .ty "bool") (by rfl) T.z_bool (by decide +kernel) rfl) pa_nil)))))))), ?_⟩)
  rintro ds r ⟨i, rfl, rfl⟩
  show GS K E _ [some (.dat (.int i))] _ _
  exact GS.retD (GE.andV (a := true) (b := !false) (GE.isi (GE.var rfl) trivial (show kitB "int" "int" = some true by decide +kernel)) fun _ => GE.notV (GE.isi (GE.var rfl) trivial (show kitB "int" "bool" = some false by decide +kernel)))
theorem ok_law_pair (C_law_whole : Fn P w K mg base 1 "_law_whole" R_whole) {f : Addr} {fd : FuncData} (F : Fun K "_law_pair" "_law_pair" s_law_pair f fd) (hm : mg "_law_pair" = some (.ref f)) (b : Binds K fd ["found"] []) : Fn P w K mg base 2 "_law_pair" R_pair := by
  refine ok_fn F sc_law_pair hm b (fun ds r ⟨x, y, e, _⟩ => by subst e; rfl) (fun cdv A outer s H E hr => ⟨_, (pss_one (ps_ret (pe_and (pe_callB (cIsi K) (by rfl) T.z_isinstance (by decide +kernel) (pa_cons (pv 0) (pa_cons (pe_bltn (v := .ty "tuple") (by rfl) T.z_tuple (by decide +kernel) rfl) pa_nil))) (pe_and (pe_cmpR op_eq (pe_callB (cLen K) (by rfl) T.z_len (by decide +kernel) (pa_cons (pv 0) pa_nil)) pe_int (nomark _)) (pe_and (pe_f (E := E) C_law_whole hr (by omega) (fun σ => passAt (takes_of rfl rfl rfl rfl) σ) (pa_cons (pe_ix (ixT K) (pv 0) pe_int (fun _ _ => rfl)) pa_nil)) (pe_one (pe_f (E := E) C_law_whole hr (by omega) (fun σ => passAt (takes_of rfl rfl rfl rfl) σ) (pa_cons (pe_ix (ixT K) (pv 0) pe_int (fun _ _ => rfl)) pa_nil)))))))), ?_⟩)
  rintro ds r ⟨x, y, rfl, rfl⟩
  show GS K E _ [some (.dat (.tuple [.int x, .int y]))] _ _
  exact GS.retD (GE.andV (a := true) (b := true) (GE.isi (GE.var rfl) trivial (show kitB "tuple" "tuple" = some true by decide +kernel)) fun _ =>
    GE.andV (a := true) (b := true) (GE.op (GE.len (GE.var rfl) (.tup _)) GE.int rd_eqI) fun _ => GE.andV (a := true) (b := true) (GE.call (GA.cons (GE.ixT (GE.var rfl) GE.int rfl) GA.nil) ⟨x, rfl, rfl⟩) fun _ => GE.call (GA.cons (GE.ixT (GE.var rfl) GE.int rfl) GA.nil) ⟨y, rfl, rfl⟩)
theorem ok_law_which {f : Addr} {fd : FuncData} (F : Fun K "_law_which" "_law_which" s_law_which f fd) (hm : mg "_law_which" = some (.ref f)) (b : Binds K fd ["e"] []) : FnW P w K mg base "_law_which" (Wh K C_NoCase C_NoPlan C_NoFloor C_BadLine) := by
  refine fnW_mk F sc_law_which rfl hm b fun cdv A outer s H E p D ds hz hf hW => ?_
  obtain ⟨hE, b1, b2, b3, b4, b5, h1, h2, h3, h4, h5, rfl⟩ := hW
  refine ⟨_, (pss_cons (ps_set (i := 1) sc_law_which.nd rfl (Or.inl rfl) (pe_lst (pa_cons (pe_callB (isE hE hz hf (List.mem_singleton.mpr rfl)) (by rfl) T.z_isinstance (by decide +kernel) (pa_cons (pv 0) (pa_cons (pe_gl (.ref C_NoCase) ⟨_, T.e_NoCase.g, rfl⟩) pa_nil))) (pa_cons (pe_callB (isE hE hz hf (List.mem_singleton.mpr rfl)) (by rfl) T.z_isinstance (by decide +kernel) (pa_cons (pv 0) (pa_cons (pe_gl (.ref C_NoPlan) ⟨_, T.e_NoPlan.g, rfl⟩) pa_nil))) (pa_cons (pe_callB (isE hE hz hf (List.mem_singleton.mpr rfl)) (by rfl) T.z_isinstance (by decide +kernel) (pa_cons (pv 0) (pa_cons (pe_gl (.ref C_NoFloor) ⟨_, T.e_NoFloor.g, rfl⟩) pa_nil))) (pa_cons (pe_callB (isE hE hz hf (List.mem_singleton.mpr rfl)) (by rfl) T.z_isinstance (by decide +kernel) (pa_cons (pv 0) (pa_cons (pe_gl (.ref C_BadLine) ⟨_, T.e_BadLine.g, rfl⟩) pa_nil))) pa_nil))))))
      (pss_one (ps_ret (pe_op op_cat (pv 1) (pe_lst (pa_cons (pe_callB (isE hE hz hf (List.mem_singleton.mpr rfl)) (by rfl) T.z_isinstance (by decide +kernel) (pa_cons (pv 0) (pa_cons (pe_bltn (v := .ty "ValueError") (by rfl) T.z_ValueError (by decide +kernel) rfl) pa_nil))) pa_nil)))))), ?_⟩
  refine GS.seq (GS.asgN (ds := [.bool b1, .bool b2, .bool b3, .bool b4]) (GE.lst (GA.cons (GE.isE rfl (fun u h => h) h1) (GA.cons (GE.isE rfl (fun u h => h) h2) (GA.cons (GE.isE rfl (fun u h => h) h3) (GA.cons (GE.isE rfl (fun u h => h) h4) GA.nil)))) (by simp)) ?_)
  exact GS.retN (GE.cat (ds := [.bool b1, .bool b2, .bool b3, .bool b4]) (es := [.bool b5]) (GE.own rfl) (.ali _) (GE.lst (GA.cons (GE.isE rfl (fun u h => h) h5) GA.nil) (by simp)) (.new _) (by simp))
theorem ok_law_gone {f : Addr} {fd : FuncData} (F : Fun K "_law_gone" "_law_gone" s_law_gone f fd) (hm : mg "_law_gone" = some (.ref f)) (b : Binds K fd ["cell", "low", "high", "left"] []) : Fn P w K mg base 1 "_law_gone" R_gone := by
  refine ok_fn F sc_law_gone hm b (fun ds r ⟨_, _, _, _, e, _⟩ => by subst e; rfl) (fun cdv A outer s H E hr => ⟨_, (pss_cons (ps_if (PW.pt (pw_and (pt_cmpR op_eq (pv 3) pe_int (nomark _)) (pw_and (pt_cmpR op_lt (pv 1) (pv 2) (nomark _)) (pw_and1 (pt_cmpR op_eq (pe_op op_mod (pe_op op_fdiv (pv 0) pe_int) pe_int) pe_int (nomark _)))))) (pss_one (ps_ret (pe_op op_add (pe_op op_add (pv 1) pe_int) (pe_op op_mod (pe_op op_fdiv (pv 0) pe_int) (pe_op op_sub (pv 2) (pv 1)))))) pss_nil)
      (pss_cons (ps_set (i := 4) sc_law_gone.nd rfl (Or.inl rfl) (pe_op op_mod (pe_op op_fdiv (pv 0) pe_int) (pe_op op_pow pe_int pe_int)))
      (pss_one (ps_ret (pe_ix (ixL K) (pe_lst (pa_cons (pv 1) (pa_cons (pe_op op_add (pv 2) pe_int) (pa_cons (pe_op op_sub (pe_un un_neg pe_int) (pv 4)) (pa_cons (pe_op op_add (pe_op op_add (pv 2) pe_int) (pv 4)) pa_nil))))) (pe_op op_mod (pv 0) pe_int) (fun _ _ => rfl)))))), ?_⟩)
  rintro ds r ⟨c, lo, hi, left, rfl, rfl⟩
  show GS K E _ [some (.dat (.int c)), some (.dat (.int lo)), some (.dat (.int hi)), some (.dat (.int left)), none] _ _
  refine GS.seq (GS.ifs (b := decide (left = 0) && (decide (lo < hi) && decide (c / 4 % 2 = 1))) (GT.and (GT.test (GE.op (GE.var rfl) GE.int rd_eqI)) fun _ => GT.and (GT.test (GE.op (GE.var rfl) (GE.var rfl) rd_bl)) fun _ => GT.test (GE.op (GE.op (GE.op (GE.var rfl) GE.int (rd_intC ⟨by decide, by decide⟩)) GE.int (rd_intC (by decide))) GE.int rd_eqI)) (fun hb => ?_) fun hb => GS.next ?_)
  · have hc : left = 0 ∧ lo < hi ∧ c / 4 % 2 = 1 := by simpa using hb
    unfold goneV
    rw [if_pos hc]
    exact GS.retD (GE.op (GE.op (GE.var rfl) GE.int rd_int) (GE.op (GE.op (GE.var rfl) GE.int (rd_intC ⟨by decide, by decide⟩)) (GE.op (GE.var rfl) (GE.var rfl) rd_int) (rd_intC (by omega))) rd_int)
  · have hc : ¬ (left = 0 ∧ lo < hi ∧ c / 4 % 2 = 1) := fun z => by
      rw [decide_eq_true z.1, decide_eq_true z.2.1, decide_eq_true z.2.2] at hb
      cases hb
    refine GS.seq (GS.asg (d := .int (c / 4 % 10 ^ 30)) (GE.op (GE.op (GE.var rfl) GE.int (rd_intC ⟨by decide, by decide⟩)) (GE.op GE.int GE.int (rd_intC ⟨by decide, by decide, by decide +kernel⟩)) (rd_intC (by decide +kernel))) ?_)
    unfold goneV
    rw [if_neg hc]
    have h1 := Int.emod_nonneg c (show (4 : Int) ≠ 0 by decide)
    have h2 := Int.emod_lt_of_pos c (show (0 : Int) < 4 by decide)
    have e : atI [PyData.int lo, .int (hi + 1), .int (-1 - c / 4 % 10 ^ 30), .int (hi + 1 + c / 4 % 10 ^ 30)] (c % 4) = some (.int (if c % 4 = 0 then lo else if c % 4 = 1 then hi + 1 else if c % 4 = 2 then -1 - c / 4 % 10 ^ 30 else hi + 1 + c / 4 % 10 ^ 30)) := by
      generalize c % 4 = m at h1 h2 ⊢
      have : m = 0 ∨ m = 1 ∨ m = 2 ∨ m = 3 := by omega
      rcases this with rfl | rfl | rfl | rfl <;> rfl
    exact GS.retD (GE.ixL (GE.lst (GA.cons (GE.var rfl) (GA.cons (GE.op (GE.var rfl) GE.int rd_int) (GA.cons (GE.op (GE.un GE.int) (GE.var rfl) rd_int) (GA.cons (GE.op (GE.op (GE.var rfl) GE.int rd_int) (GE.var rfl) rd_int) GA.nil)))) (by simp)) (.new _) (GE.op (GE.var rfl) GE.int (rd_intC (by decide))) e)
theorem ok_law_refused (C_law_which : FnW P w K mg base "_law_which" (Wh K C_NoCase C_NoPlan C_NoFloor C_BadLine)) (C_S_dropped : FnMt P w K mg base 1 C_Search "dropped" (spD K C_Search C_NoFloor)) (C_S_need : FnMt P w K mg base 3 C_Search "need" (spM K C_Search (R_nd C_NoCase))) (C_S_advice : FnMt P w K mg base 4 C_Search "advice" (spM K C_Search (R_adv C_NoCase))) {f : Addr} {fd : FuncData} (F : Fun K "_law_refused" "_law_refused" s_law_refused f fd) (hm : mg "_law_refused" = some (.ref f)) (b : Binds K fd ["search", "way", "floor", "broken"] []) : FnSp P w K mg base 5 "_law_refused" (spRf K C_Search wd_) := by
  refine ⟨f, fd, _, F.okX sc_law_refused (fun vs H Q E h => ?_) (fun cdv A outer s H vs Q E hr h => ?_), hm, F.kp, b⟩
  · obtain ⟨p, d, lo, hi, th, done, way, fl, br, i, B, rfl, _⟩ := h
    rfl
  · obtain ⟨p, d, lo, hi, th, done, way, fl, br, i, B, rfl, bh, SI, h1, h2, hz, hb, fn⟩ := h
    refine ⟨_, (pss_cons (ps_set (i := 4) sc_law_refused.nd rfl (Or.inl rfl) (pe_lst pa_nil))
      (pss_cons (ps_tryA (i := 5) K rfl rfl sc_law_refused.nd rfl rfl ⟨rfl, by decide, Or.inl T.e_FloorError.g⟩ (takes_of rfl rfl rfl rfl) (fun W pn xe tk ps => (pss_one (ps_if (pt_cmpR op_eq (pv 1) pe_int (nomark _)) (pss_one (ps_expr (pe_mt (E := fun σ => WE W σ) C_S_dropped T.cl_Search hr (by omega) (fun σ => passAt tk σ) (pv 0) (pa_cons (pv 2) (pa_cons (pv 3) pa_nil))))) (pss_one (ps_if (pt_cmpR op_eq (pv 1) pe_int (nomark _)) (pss_one (ps_expr (pe_mt0 (E := fun σ => WE W σ) C_S_need T.cl_Search hr (by omega) (fun σ => passAt tk σ) (pv 0)))) (pss_one (ps_expr (pe_mt0 (E := fun σ => WE W σ) C_S_advice T.cl_Search hr (by omega) (fun σ => passAt tk σ) (pv 0))))))))) (fun a oe cls d pn hz hf => (pss_one (ps_set (i := 4) sc_law_refused.nd rfl (Or.inl rfl) (pe_which (i := 5) C_law_which hz hf hr (by omega) (pa_cons (pv 5) pa_nil))))))
      (pss_one (ps_ret (pv 4))))), ?_⟩
    have sl0 : Sl K H B H (L2.start sc_law_refused_N [.ref p]) _ := sl_inv1 (v := .ref p) (iv := srIv K C_Search p d lo hi th done true) (by decide) rfl SI (sr_fp SI h1 h2)
    have sl : Sl K H B H (L2.start sc_law_refused_N [.ref p, .int way, .int fl, .bl br]) [some (.inv (.ref p) (srIv K C_Search p d lo hi th done true)), some (.dat (.int way)), some (.dat (.int fl)), some (.dat (.bool br)), none, none] := ((sl0.setD 1 (.int way)).setD 2 (.int fl)).setD 3 (.bl br)
    have hi' : i = 0 ∨ i = 2 := by
      rcases hb with ⟨_, _, h⟩ | ⟨_, _, _, h⟩ <;> omega
    refine (show GS K E _ [some (.inv (.ref p) (srIv K C_Search p d lo hi th done true)), some (.dat (.int way)), some (.dat (.int fl)), some (.dat (.bool br)), none, none] (fun _ => False) (.new (wd_ i)) from ?_) B H B H _ (.refl bh) sl _ (fun _ _ _ _ _ _ z => z.elim) fn
    refine GS.seq (GS.asgN (ds := []) (GE.lst GA.nil (by simp)) ?_)
    have hw : ∀ C, some (if i = 0 then C_NoCase else C_NoFloor) = some C → PySem.W.exmOne K (.ref C) (.ref C_FloorError) = some true ∧ Wh K C_NoCase C_NoPlan C_NoFloor C_BadLine C (wd_ i) := fun C e => by
      rcases hi' with rfl | rfl
      · cases e
        exact ⟨T.xf_NoCase, wh_NoCase T⟩
      · cases e
        exact ⟨T.xf_NoFloor, wh_NoFloor T⟩
    refine GS.seq (GS.mono (Nx := fun ρ' => ρ' = [some (.inv (.ref p) (srIv K C_Search p d lo hi th done true)), some (.dat (.int way)), some (.dat (.int fl)), some (.dat (.bool br)), some (.own (wd_ i)), none]) (GS.tryAs (some (if i = 0 then C_NoCase else C_NoFloor)) (GB.ifs (E' := E0) (b := decide (way = 0)) (GT.test (GE.op (GE.var rfl) GE.int rd_eqI)) (fun hb0 => ?_) fun hb0 => GB.ifs (E' := E0) (b := decide (way = 1)) (GT.test (GE.op (GE.var rfl) GE.int rd_eqI)) (fun hb1 => ?_) fun hb1 => ?_) fun C q => ⟨(hw C q).1, fun a => GS.asgWhich (hw C q).2 rfl rfl⟩) ?_)
    · have e := of_decide_eq_true hb0
      rcases hb with ⟨_, hbad, rfl⟩ | ⟨h, _⟩
      · exact GB.mtX (E' := E0) (p := p) (d := d) (lo := lo) (hi := hi) (th := th) (done := done) (ro := true) rfl (GA.cons (GE.var rfl) (GA.cons (GE.var rfl) GA.nil)) hz hbad
      · omega
    · have e := of_decide_eq_true hb1
      rcases hb with ⟨h, _⟩ | ⟨_, ht, hlt, rfl⟩
      · omega
      · subst ht
        have hA : badA (hi - lo) 0 = true := by
          unfold badA badA2
          rw [decide_eq_true (show 0 < hi - lo by omega)]
          simp
        exact GB.mt0X (p := p) (d := d) (lo := lo) (hi := hi) (th := 0) (done := done) (ro := true) rfl rfl ⟨hi - lo, 0, rfl, by rw [if_pos hA]; rfl⟩
    · have e0 := of_decide_eq_false hb0
      rcases hb with ⟨h, _⟩ | ⟨_, ht, hlt, rfl⟩
      · omega
      · subst ht
        have hA : badA (hi - lo) 0 = true := by
          unfold badA badA2
          rw [decide_eq_true (show 0 < hi - lo by omega)]
          simp
        exact GB.mt0X (p := p) (d := d) (lo := lo) (hi := hi) (th := 0) (done := done) (ro := true) rfl rfl (show R_adv C_NoCase lo hi 0 done (.exc C_NoCase) from by unfold R_adv; rw [if_pos hA])
    · rintro ρ' rfl
      exact GS.retOwn rfl
theorem ok_law_stands (C_law_whole : Fn P w K mg base 1 "_law_whole" R_whole) (C_law_pair : Fn P w K mg base 2 "_law_pair" R_pair) (C_law_refused : FnSp P w K mg base 5 "_law_refused" (spRf K C_Search wd_)) (C_fewest : Fn P w K mg base 2 "fewest" (R_fewest C_NoCase)) (C_choices : Fn P w K mg base 3 "choices" (R_choices C_NoCase)) (C_S_span : FnMt P w K mg base 1 C_Search "span" (spM K C_Search R_span)) (C_S_left : FnMt P w K mg base 1 C_Search "left" (spM K C_Search R_left)) (C_S_drops : FnMt P w K mg base 1 C_Search "drops" (spM K C_Search R_drops)) (C_S_need : FnMt P w K mg base 3 C_Search "need" (spM K C_Search (R_nd C_NoCase))) (C_S_advice : FnMt P w K mg base 4 C_Search "advice" (spM K C_Search (R_adv C_NoCase))) {f : Addr} {fd : FuncData} (F : Fun K "_law_stands" "_law_stands" s_law_stands f fd) (hm : mg "_law_stands" = some (.ref f)) (b : Binds K fd ["search", "low", "high", "things", "done"] []) : FnSp P w K mg base 6 "_law_stands" (spSt K C_Search) := by
  refine ⟨f, fd, _, F.okX sc_law_stands (fun vs H Q E h => ?_) (fun cdv A outer s H vs Q E hr h => ?_), hm, F.kp, b⟩
  · obtain ⟨p, d, q, done, B, lo, hi, th, rfl, _⟩ := h
    rfl
  · obtain ⟨p, d, q, done, B, lo, hi, th, rfl, bh, SI, h1, h2, hq, hBq, nqp, nqd, hz, c1, c2, c3, fn⟩ := h
    refine ⟨_, (pss_cons (ps_set (i := 5) sc_law_stands.nd rfl (Or.inl rfl) (pe_lst (pa_cons (pe_mt0 (E := fun _ => E) C_S_span T.cl_Search hr (by omega) (fun σ => passAt (takes_of rfl rfl rfl rfl) σ) (pv 0)) (pa_cons (pe_mt0 (E := fun _ => E) C_S_left T.cl_Search hr (by omega) (fun σ => passAt (takes_of rfl rfl rfl rfl) σ) (pv 0)) (pa_cons (pe_mt0 (E := fun _ => E) C_S_drops T.cl_Search hr (by omega) (fun σ => passAt (takes_of rfl rfl rfl rfl) σ) (pv 0)) pa_nil)))))
      (pss_cons (ps_if (PW.pt (pw_or (pt_not (pt_val (pe_f (E := E) C_law_pair hr (by omega) (fun σ => passAt (takes_of rfl rfl rfl rfl) σ) (pa_cons (pe_ix (ixL K) (pv 5) pe_int (fun _ _ => rfl)) pa_nil)))) (pw_or (pt_not (pt_val (pe_f (E := E) C_law_whole hr (by omega) (fun σ => passAt (takes_of rfl rfl rfl rfl) σ) (pa_cons (pe_ix (ixL K) (pv 5) pe_int (fun _ _ => rfl)) pa_nil)))) (pw_or1 (pt_cmpR (oNeD K hr.units) (pv 5) (pe_lst (pa_cons (pe_tup (pa_cons (pv 1) (pa_cons (pv 2) pa_nil))) (pa_cons (pv 3) (pa_cons (pv 4) pa_nil)))) (nomark _)))))) (pss_one (ps_ret pe_bl)) pss_nil)
      (pss_cons (ps_expr (pe_bm PySem.F.plainAttrs_list PySem.F.slot_list_append PySem.F.type_list_append mt_append (pe_ix (ixL K) (pv 5) pe_int (fun _ _ => rfl)) (pa_cons (pe_tup (pa_cons pe_int (pa_cons pe_bl pa_nil))) pa_nil)))
      (pss_cons (ps_if (PW.pt (pw_and (pt_cmpR op_eq (pv 3) pe_int (nomark _)) (pw_and1 (pt_cmpR op_lt (pv 1) (pv 2) (nomark _))))) (pss_cons (ps_set (i := 6) sc_law_stands.nd rfl (Or.inl rfl) (pe_lst (pa_cons pe_bl (pa_cons pe_bl (pa_cons pe_bl (pa_cons pe_bl (pa_cons pe_bl pa_nil)))))))
      (pss_one (ps_ret (pe_and (pe_cmpR (oEqD K hr.units) (pe_fs (E := E) C_law_refused hr (by omega) (fun σ => passAt (takes_of rfl rfl rfl rfl) σ) (pa_cons (pv 0) (pa_cons pe_int (pa_cons pe_int (pa_cons pe_bl pa_nil))))) (pv 6) (nomark _)) (pe_one (pe_cmpR (oEqD K hr.units) (pe_fs (E := E) C_law_refused hr (by omega) (fun σ => passAt (takes_of rfl rfl rfl rfl) σ) (pa_cons (pv 0) (pa_cons pe_int (pa_cons pe_int (pa_cons pe_bl pa_nil))))) (pv 6) (nomark _))))))) pss_nil)
      (pss_cons (ps_set (i := 7) sc_law_stands.nd rfl (Or.inl rfl) (pe_mt0 (E := fun _ => E) C_S_need T.cl_Search hr (by omega) (fun σ => passAt (takes_of rfl rfl rfl rfl) σ) (pv 0)))
      (pss_cons (ps_if (PW.pt (pw_or (pt_not (pt_val (pe_f (E := E) C_law_whole hr (by omega) (fun σ => passAt (takes_of rfl rfl rfl rfl) σ) (pa_cons (pv 7) pa_nil)))) (pw_or1 (pt_cmpR op_ne (pv 7) (pe_f (E := E) C_fewest hr (by omega) (fun σ => passAt (takes_of rfl rfl rfl rfl) σ) (pa_cons (pe_op op_sub (pv 2) (pv 1)) (pa_cons (pv 3) pa_nil))) (nomark _))))) (pss_one (ps_ret pe_bl)) pss_nil)
      (pss_cons (ps_set (i := 8) sc_law_stands.nd rfl (Or.inl rfl) (pe_f (E := E) C_choices hr (by omega) (fun σ => passAt (takes_of rfl rfl rfl rfl) σ) (pa_cons (pe_op op_sub (pv 2) (pv 1)) (pa_cons (pv 3) pa_nil))))
      (pss_cons (ps_if (pt_cmpR op_noN' (pv 8) pe_non (nomark _)) (pss_one (ps_set (i := 8) sc_law_stands.nd rfl (Or.inl rfl) (pe_tup (pa_cons (pe_op op_add (pv 1) (pe_ix (ixT K) (pv 8) pe_int (fun _ _ => rfl))) (pa_cons (pe_op op_add (pv 1) (pe_ix (ixT K) (pv 8) pe_int (fun _ _ => rfl))) pa_nil))))) pss_nil)
      (pss_one (ps_ret (pe_cmpR (oEqD K hr.units) (pe_mt0 (E := fun _ => E) C_S_advice T.cl_Search hr (by omega) (fun σ => passAt (takes_of rfl rfl rfl rfl) σ) (pv 0)) (pv 8) (nomark _)))))))))))), ?_⟩
    have sl0 : Sl K H B H (L2.start sc_law_stands_N [.ref p]) _ := sl_inv1 (v := .ref p) (iv := srIv K C_Search p d lo hi th done true) (by decide) rfl SI (sr_fp SI h1 h2)
    have sl1 := ((sl0.setD 1 (.int (lo : Int))).setD 2 (.int (hi : Int))).setD 3 (.int (th : Int))
    have sl : Sl K H B H (L2.start sc_law_stands_N [.ref p, .int lo, .int hi, .int th, .ref q]) [some (.inv (.ref p) (srIv K C_Search p d lo hi th done true)), some (.dat (.int lo)), some (.dat (.int hi)), some (.dat (.int th)), some (.inv (.ref q) (lsIv K q (done.map pdD) true)), none, none, none, none] := by
      refine sl1.addRo 4 (v := .ref q) (lsIv K q (done.map pdD) true) rfl hq (fun a ha => ?_) (fun k ds h => ?_) (fun k u mv h a ha => ?_)
      · rw [List.mem_singleton.mp ha]
        obtain ⟨xs, e, _⟩ := hq
        exact ⟨hBq, by rw [e]; exact fun z => nomatch z⟩
      · match k, h with
        | 0, h => cases h
        | 1, h => cases h
        | 2, h => cases h
        | 3, h => cases h
        | 4, h => cases h
        | 5, h => cases h
        | 6, h => cases h
        | 7, h => cases h
        | 8, h => cases h
        | k + 9, h => cases h
      · rw [List.mem_singleton.mp ha]
        match k, h with
        | 0, h =>
          cases h
          show q ∉ [p, d]
          simp [nqp, nqd]
        | 1, h => cases h
        | 2, h => cases h
        | 3, h => cases h
        | 4, h => cases h
        | 5, h => cases h
        | 6, h => cases h
        | 7, h => cases h
        | 8, h => cases h
        | k + 9, h => cases h
    refine (show GS K E _ [some (.inv (.ref p) (srIv K C_Search p d lo hi th done true)), some (.dat (.int lo)), some (.dat (.int hi)), some (.dat (.int th)), some (.inv (.ref q) (lsIv K q (done.map pdD) true)), none, none, none, none] (fun _ => False) (.ok (.bool true)) from ?_) B H B H _ (.refl bh) sl _ (fun _ _ _ _ _ _ z => z.elim) fn
    have sh := sh_fd lo hi th done
    refine GS.seq (GS.mkFd (x := .tuple [.int lo, .int hi]) (y := .int th) (ds := done.map pdD) (GE.mt0 (R := R_span) (p := p) (d := d) (lo := lo) (hi := hi) (th := th) (done := done) (ro := true) rfl rfl rfl) (GE.mt0 (R := R_left) (p := p) (d := d) (lo := lo) (hi := hi) (th := th) (done := done) (ro := true) rfl rfl rfl) (GE.mt0 (R := R_drops) (p := p) (d := d) (lo := lo) (hi := hi) (th := th) (done := done) (ro := true) rfl rfl rfl) fun f g => ?_)
    refine GS.seq (GS.ifs (b := false) ((GT.or (a := !true) (GT.not (GT.val (GE.call (GA.cons (GE.fd0 (f := f) (g := g) (x := .tuple [.int lo, .int hi]) (y := .int th) (ds := done.map pdD) rfl GE.int) GA.nil) ⟨_, _, rfl, rfl⟩))) fun _ => GT.or (a := !true) (GT.not (GT.val (GE.call (GA.cons (GE.fd1 (f := f) (g := g) (x := .tuple [.int lo, .int hi]) (y := .int th) (ds := done.map pdD) rfl GE.int) GA.nil) ⟨_, rfl, rfl⟩))) fun _ => GT.test (GE.opV (GV.fd (f := f) (g := g) (x := .tuple [.int lo, .int hi]) (y := .int th) (ds := done.map pdD) rfl) (GV.lst3 (GV.ok (GE.tup (ds := [.int lo, .int hi]) (GA.cons (GE.var rfl) (GA.cons (GE.var rfl) GA.nil)) (by simp))) (GV.ok (GE.var rfl)) (GV.ls (q := q) (ds := done.map pdD) (ro := true) rfl)) (rh_ne sh sh))).to (by rw [eqv_self sh] <;> rfl)) (fun z => nomatch z) fun _ => GS.next ?_)
    refine GS.seq (GS.fdApp (f := f) (g := g) (x := .tuple [.int lo, .int hi]) (y := .int th) (ds := done.map pdD) rfl GE.int (by rw [List.length_map]; omega) (GE.tup (ds := [.int 1, .bool true]) (GA.cons GE.int (GA.cons GE.bool GA.nil)) (by simp)) ?_)
    have es : (hi : Int) - lo = ((hi - lo : Nat) : Int) := by omega
    refine GS.seq (GS.ifs (b := decide ((th : Int) = 0) && decide ((lo : Int) < hi)) (GT.and (GT.test (GE.op (GE.var rfl) GE.int rd_eqI)) fun _ => GT.test (GE.op (GE.var rfl) (GE.var rfl) rd_bl)) (fun hb => ?_) fun hb => GS.next ?_)
    · have hc : (th : Int) = 0 ∧ (lo : Int) < hi := by simpa using hb
      have sb : SeqAt.shaped (.list (wd_ 0)) = true := sh_bools [true, false, false, false, true]
      refine GS.seq (GS.asgN (ds := wd_ 0) (GE.lst (GA.cons GE.bool (GA.cons GE.bool (GA.cons GE.bool (GA.cons GE.bool (GA.cons GE.bool GA.nil))))) (show 5 ≤ 1000 by omega)) ?_)
      refine GS.retD (GE.to (GE.andV (GE.opH (GE.callRf (p := p) (d := d) (lo := lo) (hi := hi) (th := th) (done := done) (ro := true) (k := 0) rfl (GA.cons GE.int (GA.cons GE.int (GA.cons GE.bool GA.nil))) (by omega) (.inr ⟨.inl rfl, hc.1, hc.2, rfl⟩)) (.new _) (GE.own rfl) (.ali _) (rh_eq sb sb)) fun _ => GE.opH (GE.callRf (p := p) (d := d) (lo := lo) (hi := hi) (th := th) (done := done) (ro := true) (k := 0) rfl (GA.cons GE.int (GA.cons GE.int (GA.cons GE.bool GA.nil))) (by omega) (.inr ⟨.inr rfl, hc.1, hc.2, rfl⟩)) (.new _) (GE.own rfl) (.ali _) (rh_eq sb sb)) ?_)
      rw [eqv_self sb]
      rfl
    · have hth : hi - lo = 0 ∨ 1 ≤ th := by
        by_cases a : th = 0
        · left
          subst a
          have : ¬ (lo : Int) < hi := by simpa using hb
          omega
        · right
          omega
      have hA : ¬ badA ((hi - lo : Nat) : Int) th = true := badA_of (by omega) c3 hth
      have hR : R_fewest C_NoCase [.int ((hi : Int) - lo), .int th] (.ok (.int (need th (hi - lo)))) := by
        rw [es]
        exact R_fewest_ok (by omega) c3 hth
      refine GS.seq (GS.asg (d := .int (need th (hi - lo))) (GE.mt0 (R := R_nd C_NoCase) (p := p) (d := d) (lo := lo) (hi := hi) (th := th) (done := done) (ro := true) rfl rfl hR) ?_)
      refine GS.seq (GS.ifs (b := false) ((GT.or (a := !true) (GT.not (GT.val (GE.call (GA.cons (GE.var rfl) GA.nil) ⟨_, rfl, rfl⟩))) fun _ => GT.test (GE.op (GE.var rfl) (GE.call (GA.cons (GE.op (GE.var rfl) (GE.var rfl) rd_int) (GA.cons (GE.var rfl) GA.nil)) hR) rd_neI)).to (by simp)) (fun z => nomatch z) fun _ => GS.next ?_)
      by_cases h0 : hi - lo = 0
      · have i0 : (hi : Int) - lo = 0 := by omega
        have hC : R_choices C_NoCase [.int ((hi : Int) - lo), .int th] (.ok .none) := ⟨_, _, rfl, by rw [es, if_neg hA, ← es, if_pos i0]⟩
        have hD : R_adv C_NoCase lo hi th done (.ok .none) := by
          unfold R_adv
          rw [es, if_neg hA, ← es, if_pos i0]
        refine GS.seq (GS.asg (d := .none) (GE.call (GA.cons (GE.op (GE.var rfl) (GE.var rfl) rd_int) (GA.cons (GE.var rfl) GA.nil)) hC) ?_)
        refine GS.seq (GS.ifs (b := false) (GT.test (GE.op (GE.var (d := .none) rfl) GE.non rd_noN)) (fun z => nomatch z) fun _ => GS.next ?_)
        exact GS.retD (GE.to (GE.op (GE.mt0 (R := R_adv C_NoCase) (p := p) (d := d) (lo := lo) (hi := hi) (th := th) (done := done) (ro := true) rfl rfl hD) (GE.var (d := .none) rfl) (rd_eqD rfl rfl)) rfl)
      · have i0 : ¬ (hi : Int) - lo = 0 := by omega
        obtain ⟨x, hx⟩ : ∃ x, loD th (hi - lo) = x := ⟨_, rfl⟩
        obtain ⟨y, hy⟩ : ∃ y, hiD th (hi - lo) = y := ⟨_, rfl⟩
        have hC : R_choices C_NoCase [.int ((hi : Int) - lo), .int th] (.ok (.tuple [.int x, .int y])) := ⟨_, _, rfl, by rw [es, if_neg hA, ← es, if_neg i0, es, Int.toNat_natCast, Int.toNat_natCast, hx, hy]⟩
        have hD : R_adv C_NoCase lo hi th done (.ok (.tuple [.int (lo + x), .int (lo + y)])) := by
          unfold R_adv
          rw [es, if_neg hA, ← es, if_neg i0, es, Int.toNat_natCast, Int.toNat_natCast, hx, hy]
        have ev : ∀ {ρ : Rho}, ρ[8]? = some (some (.dat (.tuple [.int x, .int y]))) → GE K E (tVar 8) ρ (.ok (.tuple [.int x, .int y])) := fun h => GE.var h
        refine GS.seq (GS.asg (d := .tuple [.int x, .int y]) (GE.call (GA.cons (GE.op (GE.var rfl) (GE.var rfl) rd_int) (GA.cons (GE.var rfl) GA.nil)) hC) ?_)
        refine GS.seq (GS.ifs (b := true) (GT.test (GE.op (GE.var (d := .tuple [.int x, .int y]) rfl) GE.non rd_noN)) (fun _ => ?_) fun z => nomatch z)
        refine GS.asg (d := .tuple [.int (lo + x), .int (lo + y)]) (GE.tup (GA.cons (GE.op (GE.var rfl) (GE.ixT (ev rfl) GE.int rfl) rd_int) (GA.cons (GE.op (GE.var rfl) (GE.ixT (ev rfl) GE.int rfl) rd_int) GA.nil)) (by simp)) ?_
        have s2 := sh_two (lo + x) (lo + y)
        exact GS.retD (GE.to (GE.op (GE.mt0 (R := R_adv C_NoCase) (p := p) (d := d) (lo := lo) (hi := hi) (th := th) (done := done) (ro := true) rfl rfl hD) (GE.var (d := .tuple [.int (lo + x), .int (lo + y)]) rfl) (rd_eqD s2 s2)) (by rw [eqv_self s2]))
theorem ok_law (C_law_cell_at : Fn P w K mg base 1 "_law_cell_at" R_cell) (C_law_whole : Fn P w K mg base 1 "_law_whole" R_whole) (C_law_gone : Fn P w K mg base 1 "_law_gone" R_gone) (C_law_refused : FnSp P w K mg base 5 "_law_refused" (spRf K C_Search wd_)) (C_law_stands : FnSp P w K mg base 6 "_law_stands" (spSt K C_Search)) (C_fewest : Fn P w K mg base 2 "fewest" (R_fewest C_NoCase)) (C_S_init : FnMk P w K mg base 2 C_Search (spI K C_Search)) (C_S_dropped : FnMt P w K mg base 1 C_Search "dropped" (spD K C_Search C_NoFloor)) (C_S_advice : FnMt P w K mg base 4 C_Search "advice" (spM K C_Search (R_adv C_NoCase))) {f : Addr} {fd : FuncData} (F : Fun K "law" "law" s_law f fd) : FnOk P w K mg base (L2.CX P w) 7 f fd ["script"] (spR K RLaw) := by
  refine ok_fnk F sc_law (fun ds r ⟨ns, e, _⟩ => by subst e; rfl) (fun cdv A outer s H E hr => ⟨_, (pss_cons (ps_set (i := 1) sc_law.nd rfl (Or.inl rfl) (pe_op op_mod (pe_f (E := E) C_law_cell_at hr (by omega) (fun σ => passAt (takes_of rfl rfl rfl rfl) σ) (pa_cons (pv 0) (pa_cons pe_int pa_nil))) pe_int))
      (pss_cons (ps_set (i := 2) sc_law.nd rfl (Or.inl rfl) (pe_op op_mod (pe_f (E := E) C_law_cell_at hr (by omega) (fun σ => passAt (takes_of rfl rfl rfl rfl) σ) (pa_cons (pv 0) (pa_cons pe_int pa_nil))) pe_int))
      (pss_cons (ps_if (pt_cmpR op_eq (pe_op op_mod (pe_f (E := E) C_law_cell_at hr (by omega) (fun σ => passAt (takes_of rfl rfl rfl rfl) σ) (pa_cons (pv 0) (pa_cons pe_int pa_nil))) pe_int) pe_int (nomark _)) (pss_cons (ps_set (i := 1) sc_law.nd rfl (Or.inl rfl) (pe_op op_mod (pe_f (E := E) C_law_cell_at hr (by omega) (fun σ => passAt (takes_of rfl rfl rfl rfl) σ) (pa_cons (pv 0) (pa_cons pe_int pa_nil))) pe_int))
      (pss_one (ps_set (i := 2) sc_law.nd rfl (Or.inl rfl) (pe_op op_mod (pe_f (E := E) C_law_cell_at hr (by omega) (fun σ => passAt (takes_of rfl rfl rfl rfl) σ) (pa_cons (pv 0) (pa_cons pe_int pa_nil))) pe_int)))) pss_nil)
      (pss_cons (ps_set (i := 2) sc_law.nd rfl (Or.inl rfl) (pe_callB (call_max' rfl) (by rfl) T.z_max (by decide +kernel) (pa_cons (pv 2) (pa_cons (pe_callTy cIntB (by rfl) T.z_int (by decide +kernel) (pa_cons (pe_cmpR op_gt (pv 1) pe_int (nomark _)) pa_nil)) pa_nil))))
      (pss_cons (ps_set (i := 3) sc_law.nd rfl (Or.inl rfl) (pe_op op_mod (pe_f (E := E) C_law_cell_at hr (by omega) (fun σ => passAt (takes_of rfl rfl rfl rfl) σ) (pa_cons (pv 0) (pa_cons pe_int pa_nil))) (pe_op op_add (pv 1) pe_int)))
      (pss_cons (ps_set (i := 4) sc_law.nd rfl (Or.inl rfl) (pe_mk (E := E) C_S_init T.g_Search hr (by omega) (passes_call (takes_of rfl rfl rfl rfl) (fun _ _ _ _ h => h)) (pa_cons (pv 1) (pa_cons (pv 2) pa_nil))))
      (pss_cons (ps_set (i := 5) sc_law.nd rfl (Or.inl rfl) (pe_mk (E := E) C_S_init T.g_Search hr (by omega) (passes_call (takes_of rfl rfl rfl rfl) (fun _ _ _ _ h => h)) (pa_cons (pv 1) (pa_cons (pv 2) pa_nil))))
      (pss_cons (ps_asg (pe_tup (pa_cons pe_int (pa_cons (pv 1) (pa_cons (pv 2) (pa_cons (pe_lst pa_nil) pa_nil))))) (pg_tup (by rfl) (pgs_cons (pg_name (i := 6) sc_law.nd rfl (Or.inl rfl)) (pgs_cons (pg_name (i := 7) sc_law.nd rfl (Or.inl rfl)) (pgs_cons (pg_name (i := 8) sc_law.nd rfl (Or.inl rfl)) (pgs_cons (pg_name (i := 9) sc_law.nd rfl (Or.inl rfl)) pgs_nil))))))
      (pss_cons (ps_for (passes_of rfl) rfl (pi_range1 (by rfl) T.z_range (pa_cons (pe_op op_mod (pe_f (E := E) C_law_cell_at hr (by omega) (fun σ => passAt (takes_of rfl rfl rfl rfl) σ) (pa_cons (pv 0) (pa_cons pe_int pa_nil))) (pe_ix (ixL K) (pe_lst (pa_cons pe_int (pa_cons pe_int pa_nil))) (pe_op op_mod (pe_op op_fdiv (pe_f (E := E) C_law_cell_at hr (by omega) (fun σ => passAt (takes_of rfl rfl rfl rfl) σ) (pa_cons (pv 0) (pa_cons pe_int pa_nil))) pe_int) pe_int) (fun _ _ => rfl))) pa_nil)) (pg_name (i := 10) sc_law.nd rfl (Or.inl rfl)) (pss_cons (ps_set (i := 11) sc_law.nd rfl (Or.inl rfl) (pe_op op_add (pe_f (E := E) C_law_cell_at hr (by omega) (fun σ => passAt (takes_of rfl rfl rfl rfl) σ) (pa_cons (pv 0) (pa_cons (pe_op op_add pe_int (pv 10)) pa_nil))) (pe_op op_mul (pe_op op_sub pe_int (pe_op op_mod (pe_f (E := E) C_law_cell_at hr (by omega) (fun σ => passAt (takes_of rfl rfl rfl rfl) σ) (pa_cons (pv 0) (pa_cons (pe_op op_add pe_int (pv 10)) pa_nil))) pe_int)) (pe_callTy cIntB (by rfl) T.z_int (by decide +kernel) (pa_cons (pe_cmpR op_gt (pv 10) pe_int (nomark _)) pa_nil)))))
      (pss_cons (ps_if (PW.pt (pw_or (pt_cmpR op_eq (pe_op op_mod (pv 11) pe_int) pe_int (nomark _)) (pw_or (pt_cmpR op_eq (pv 8) pe_int (nomark _)) (pw_or1 (pt_cmpR op_eq (pv 6) (pv 7) (nomark _)))))) (pss_cons (ps_set (i := 12) sc_law.nd rfl (Or.inl rfl) (pe_f (E := E) C_law_gone hr (by omega) (fun σ => passAt (takes_of rfl rfl rfl rfl) σ) (pa_cons (pe_op op_fdiv (pv 11) pe_int) (pa_cons (pv 6) (pa_cons (pv 7) (pa_cons (pv 8) pa_nil))))))
      (pss_one (ps_if (pt_cmpR (oNeD K hr.units) (pe_fs (E := E) C_law_refused hr (by omega) (fun σ => passAt (takes_of rfl rfl rfl rfl) σ) (pa_cons (pv 4) (pa_cons pe_int (pa_cons (pv 12) (pa_cons (pe_cmpR op_eq (pe_op op_mod (pv 11) pe_int) pe_int (nomark _)) pa_nil))))) (pe_lst (pa_cons pe_bl (pa_cons pe_bl (pa_cons pe_bl (pa_cons pe_bl (pa_cons pe_bl pa_nil)))))) (nomark _)) (pss_one (ps_ret pe_bl)) pss_nil))) (pss_cons (ps_set (i := 13) sc_law.nd rfl (Or.inl rfl) (pe_op op_add (pe_op op_add (pv 6) pe_int) (pe_op op_mul (pe_op op_mod (pe_op op_fdiv (pv 11) pe_int) (pe_op op_sub (pv 7) (pv 6))) (pe_callTy cIntB (by rfl) T.z_int (by decide +kernel) (pa_cons (pe_cmpR op_le (pv 10) pe_int (nomark _)) pa_nil)))))
      (pss_cons (ps_if (pt_cmpR op_lt (pe_op op_mod (pv 11) pe_int) pe_int (nomark _)) (pss_one (ps_set (i := 13) sc_law.nd rfl (Or.inl rfl) (pe_ix (ixT K) (pe_mt0 (E := fun _ => E) C_S_advice T.cl_Search hr (by omega) (fun σ => passAt (takes_of rfl rfl rfl rfl) σ) (pv 4)) (pe_op op_mod (pv 11) pe_int) (fun _ _ => rfl)))) pss_nil)
      (pss_cons (ps_set (i := 14) sc_law.nd rfl (Or.inl rfl) (pe_f (E := E) C_fewest hr (by omega) (fun σ => passAt (takes_of rfl rfl rfl rfl) σ) (pa_cons (pe_op op_sub (pv 7) (pv 6)) (pa_cons (pv 8) pa_nil))))
      (pss_cons (ps_set (i := 15) sc_law.nd rfl (Or.inl rfl) (pe_mt (E := fun _ => E) C_S_dropped T.cl_Search hr (by omega) (fun σ => passAt (takes_of rfl rfl rfl rfl) σ) (pv 4) (pa_cons (pv 13) (pa_cons (pe_cmpR op_gt (pv 13) (pv 3) (nomark _)) pa_nil))))
      (pss_cons (ps_expr (pe_bm PySem.F.plainAttrs_list PySem.F.slot_list_append PySem.F.type_list_append mt_append (pv 9) (pa_cons (pe_tup (pa_cons (pv 13) (pa_cons (pe_cmpR op_gt (pv 13) (pv 3) (nomark _)) pa_nil))) pa_nil)))
      (pss_cons (ps_if (PW.pt (pw_or (pt_not (pt_val (pe_f (E := E) C_law_whole hr (by omega) (fun σ => passAt (takes_of rfl rfl rfl rfl) σ) (pa_cons (pv 15) pa_nil)))) (pw_or1 (pt_cmpR op_ne (pv 15) (pe_callB (cLen K) (by rfl) T.z_len (by decide +kernel) (pa_cons (pv 9) pa_nil)) (nomark _))))) (pss_one (ps_ret pe_bl)) pss_nil)
      (pss_cons (ps_if (pt_cmpR op_gt (pv 13) (pv 3) (nomark _)) (pss_cons (ps_set (i := 7) sc_law.nd rfl (Or.inl rfl) (pe_op op_sub (pv 13) pe_int))
      (pss_one (ps_set (i := 8) sc_law.nd rfl (Or.inl rfl) (pe_op op_sub (pv 8) pe_int)))) (pss_one (ps_set (i := 6) sc_law.nd rfl (Or.inl rfl) (pv 13))))
      (pss_one (ps_if (PW.pt (pw_and (pt_cmpR op_lt (pe_op op_mod (pv 11) pe_int) pe_int (nomark _)) (pw_and (PW.pt (pw_or (pt_cmpR op_gt (pv 8) pe_int (nomark _)) (pw_or1 (pt_cmpR op_eq (pv 6) (pv 7) (nomark _))))) (pw_and1 (pt_cmpR op_ge (pe_f (E := E) C_fewest hr (by omega) (fun σ => passAt (takes_of rfl rfl rfl rfl) σ) (pa_cons (pe_op op_sub (pv 7) (pv 6)) (pa_cons (pv 8) pa_nil))) (pv 14) (nomark _)))))) (pss_one (ps_ret pe_bl)) pss_nil))))))))))
      (pss_one (ps_if (pt_not (pt_val (pe_fs (E := E) C_law_stands hr (by omega) (fun σ => passAt (takes_of rfl rfl rfl rfl) σ) (pa_cons (pv 4) (pa_cons (pv 6) (pa_cons (pv 7) (pa_cons (pv 8) (pa_cons (pv 9) pa_nil)))))))) (pss_one (ps_ret pe_bl)) pss_nil)))))
      (pss_one (ps_ret (pe_fs (E := E) C_law_stands hr (by omega) (fun σ => passAt (takes_of rfl rfl rfl rfl) σ) (pa_cons (pv 5) (pa_cons pe_int (pa_cons (pv 1) (pa_cons (pv 2) (pa_cons (pe_lst pa_nil) pa_nil))))))))))))))))), ?_⟩)
  rintro ds r ⟨ns, rfl, hl, rfl⟩
  show GS K E _ [some (.dat (.list (ns.map .int))), none, none, none, none, none, none, none, none, none, none, none, none, none, none, none] _ _
  obtain ⟨f0, hf0, ef0⟩ := mod_nat (cell ns 0) (m := 61) (by decide)
  obtain ⟨k0, hk0, ek0⟩ := mod_nat (cell ns 1) (m := 7) (by decide)
  obtain ⟨f1, hf1, ef1⟩ := mod_nat (cell ns 0) (m := 1001) (by decide)
  obtain ⟨k1, hk1, ek1⟩ := mod_nat (cell ns 1) (m := 13) (by decide)
  refine GS.seq (GS.asg (d := .int f0) (GE.to (GE.op (GE.call (GA.cons (GE.var rfl) (GA.cons GE.int GA.nil)) ⟨ns, 0, rfl, rfl⟩) GE.int (rd_intC (by decide))) (by rw [ef0])) ?_)
  refine GS.seq (GS.asg (d := .int k0) (GE.to (GE.op (GE.call (GA.cons (GE.var rfl) (GA.cons GE.int GA.nil)) ⟨ns, 1, rfl, rfl⟩) GE.int (rd_intC (by decide))) (by rw [ek0])) ?_)
  refine GS.seq (GS.mono (Nx := fun ρ' => ∃ F T : Nat, F ≤ 1000 ∧ T ≤ 12 ∧ ρ' = [some (.dat (.list (ns.map .int))), some (.dat (.int F)), some (.dat (.int T)), none, none, none, none, none, none, none, none, none, none, none, none, none]) (GS.ifs (b := decide (cell ns 2 % 4 = 1)) (GT.test (GE.op (GE.op (GE.call (GA.cons (GE.var rfl) (GA.cons GE.int GA.nil)) ⟨ns, 2, rfl, rfl⟩) GE.int (rd_intC (by decide))) GE.int rd_eqI)) (fun _ => ?_) fun _ => GS.next ⟨f0, k0, by omega, by omega, rfl⟩) ?_)
  · refine GS.seq (GS.asg (d := .int f1) (GE.to (GE.op (GE.call (GA.cons (GE.var rfl) (GA.cons GE.int GA.nil)) ⟨ns, 0, rfl, rfl⟩) GE.int (rd_intC (by decide))) (by rw [ef1])) ?_)
    exact GS.asg (d := .int k1) (GE.to (GE.op (GE.call (GA.cons (GE.var rfl) (GA.cons GE.int GA.nil)) ⟨ns, 1, rfl, rfl⟩) GE.int (rd_intC (by decide))) (by rw [ek1])) ⟨f1, k1, by omega, by omega, rfl⟩
  rintro ρ' ⟨F, T', hF, hT', rfl⟩
  obtain ⟨T, eT, hT, hFT⟩ : ∃ T : Nat, max (T' : Int) (if decide ((F : Int) > 0) then 1 else 0) = T ∧ T ≤ 12 ∧ (F = 0 ∨ 1 ≤ T) := by
    by_cases h : (F : Int) > 0
    · rw [decide_eq_true h, if_pos rfl]
      exact ⟨max T' 1, by omega, by omega, by omega⟩
    · rw [decide_eq_false h, if_neg (fun z => nomatch z)]
      exact ⟨T', by omega, hT', by omega⟩
  refine GS.seq (GS.asg (d := .int T) (GE.to (GE.max (GA.cons (GE.var rfl) (GA.cons (GE.intB (GE.op (GE.var rfl) GE.int rd_bl)) GA.nil))) (congrArg (fun z => Rs.ok (.int z)) eT)) ?_)
  obtain ⟨fl, hfl, efl⟩ := mod_nat (cell ns 3) (m := (F : Int) + 1) (by omega)
  refine GS.seq (GS.asg (d := .int fl) (GE.to (GE.op (GE.call (GA.cons (GE.var rfl) (GA.cons GE.int GA.nil)) ⟨ns, 3, rfl, rfl⟩) (GE.op (GE.var rfl) GE.int rd_int) (rd_intC (by omega))) (by rw [efl])) ?_)
  have hA : ¬ badA F T = true := badA_of hF hT hFT
  refine GS.seq (GS.mkSr (GA.cons (GE.var rfl) (GA.cons (GE.var rfl) GA.nil)) hA fun p d => ?_)
  refine GS.seq (GS.mkSr (GA.cons (GE.var rfl) (GA.cons (GE.var rfl) GA.nil)) hA fun p2 d2 => ?_)
  refine GS.seq (GS.asg4 (x := .int (0 : Nat)) (y := .int F) (z := .int T) GE.int (GE.var rfl) (GE.var rfl) ?_)
  obtain ⟨n, en, hn⟩ : ∃ n : Int, atI [PyData.int 21, .int 59] (cell ns 2 / 4 % 2) = some (.int n) ∧ (n = 21 ∨ n = 59) := by
    obtain ⟨m, hm2, em⟩ := mod_nat (cell ns 2 / 4) (m := 2) (by decide)
    rw [em]
    have : m = 0 ∨ m = 1 := by omega
    rcases this with rfl | rfl
    · exact ⟨21, rfl, .inl rfl⟩
    · exact ⟨59, rfl, .inr rfl⟩
  have hn0 := Int.emod_nonneg (cell ns 4) (show n ≠ 0 by omega)
  have hn1 := Int.emod_lt_of_pos (cell ns 4) (show 0 < n by omega)
  let St (lo hi th : Nat) (done : List (Int × Bool)) (a b c : Int) (x10 x11 x12 x13 x14 x15 : Option Cl) : Rho := [some (.dat (.list (ns.map .int))), some (.dat (.int F)), some (.dat (.int T)), some (.dat (.int fl)), some (.inv (.ref p) (srIv K C_Search p d lo hi th done false)), some (.inv (.ref p2) (srIv K C_Search p2 d2 (0 : Nat) F T [] false)), some (.dat (.int a)), some (.dat (.int b)), some (.dat (.int c)), some (.own (done.map pdD)), x10, x11, x12, x13, x14, x15]
  let Good (i : Nat) (ρ' : Rho) : Prop := ∃ (lo hi th : Nat) (done : List (Int × Bool)) (x10 x11 x12 x13 x14 x15 : Option Cl), lo ≤ fl ∧ fl ≤ hi ∧ hi ≤ F ∧ th ≤ T ∧ done.length ≤ i ∧ ρ' = St lo hi th done lo hi th x10 x11 x12 x13 x14 x15
  refine GS.seq (GS.forR1 (hi := cell ns 4 % n) (GA.cons (GE.op (GE.call (GA.cons (GE.var rfl) (GA.cons GE.int GA.nil)) ⟨ns, 4, rfl, rfl⟩) (GE.ixL (GE.lst (GA.cons GE.int (GA.cons GE.int GA.nil)) (by simp)) (.new _) (GE.op (GE.op (GE.call (GA.cons (GE.var rfl) (GA.cons GE.int GA.nil)) ⟨ns, 2, rfl, rfl⟩) GE.int (rd_intC ⟨by decide, by decide⟩)) GE.int (rd_intC (by decide))) en) (rd_intC (by omega))) GA.nil) (by omega) Good ⟨0, F, T, [], none, none, none, none, none, none, by omega, by omega, Nat.le_refl _, Nat.le_refl _, Nat.le_refl _, rfl⟩ ?_ ?_)
  · rintro i ρ' hi' ⟨lo, hi, th, done, x10, x11, x12, x13, x14, x15, h1, h2, h3, h4, h5, rfl⟩
    have hlen : done.length ≤ 100 := by omega
    -- the check at the turn's end
    have stands : ∀ (ρ' : Rho), Good (i + 1) ρ' → GS K E (tIfS (tNot (tB (tCallS (spSt K C_Search) (fun _ => E) (tCons (tVar 4) (tCons (tVar 6) (tCons (tVar 7) (tCons (tVar 8) (tCons (tVar 9) tNil)))))))) (tRet (tC (.bl false))) tNext) ρ' (Good (i + 1)) (.ok (.bool true)) := by
      rintro ρ' ⟨lo, hi, th, done, x10, x11, x12, x13, x14, x15, h1, h2, h3, h4, h5, rfl⟩
      exact GS.ifs (b := !true) (GT.not (GT.val (GE.callSt (p := p) (d := d) (done := done) (ro := false) rfl (GE.var rfl) (GE.var rfl) (GE.var rfl) rfl (by omega) (by omega) (by omega) (by omega)))) (fun z => nomatch z) fun _ => GS.next ⟨lo, hi, th, done, x10, x11, x12, x13, x14, x15, h1, h2, h3, h4, h5, rfl⟩
    have hm5 := Int.emod_nonneg (cell ns (5 + i)) (show (5 : Int) ≠ 0 by decide)
    have hm5' := Int.emod_lt_of_pos (cell ns (5 + i)) (show (0 : Int) < 5 by decide)
    have cl5 : ∀ {ρ : Rho}, ρ[0]? = some (some (.dat (.list (ns.map .int)))) → ρ[10]? = some (some (.dat (.int (i : Int)))) → GE K E (tCallS (spR K R_cell) (fun _ => E) (tCons (tVar 0) (tCons (tOp (rI0 fun i j => V.int (i + j)) (tC (.int 5)) (tVar 10)) tNil))) ρ (.ok (.int (cell ns (5 + i)))) := fun ha hb => GE.call (ds := [.list (ns.map .int), .int ((5 + i : Nat) : Int)]) (GA.cons (GE.var ha) (GA.cons (GE.to (GE.op GE.int (GE.var hb) rd_int) (congrArg (fun z => Rs.ok (.int z)) (by omega))) GA.nil)) ⟨ns, 5 + i, rfl, rfl⟩
    obtain ⟨c, ec⟩ : ∃ c : Int, cell ns (5 + i) + (3 - cell ns (5 + i) % 5) * (if decide ((i : Int) > 20) then 1 else 0) = c := ⟨_, rfl⟩
    refine GS.seq (GS.asg (d := .int c) (GE.to (GE.op (cl5 rfl rfl) (GE.op (GE.op GE.int (GE.op (cl5 rfl rfl) GE.int (rd_intC (by decide))) rd_int) (GE.intB (GE.op (GE.var rfl) GE.int rd_bl)) (rd_intC (.inl ⟨by omega, by omega⟩))) rd_int) (congrArg (fun z => Rs.ok (.int z)) ec)) ?_)
    have hc5 := Int.emod_nonneg c (show (5 : Int) ≠ 0 by decide)
    refine GS.seq (GS.mono (Nx := Good (i + 1)) (GS.ifs (b := decide (c % 5 = 4) || (decide ((th : Int) = 0) || decide ((lo : Int) = hi))) (GT.or (GT.test (GE.op (GE.op (GE.var rfl) GE.int (rd_intC (by decide))) GE.int rd_eqI)) fun _ => GT.or (GT.test (GE.op (GE.var rfl) GE.int rd_eqI)) fun _ => GT.test (GE.op (GE.var rfl) (GE.var rfl) rd_eqI)) (fun hb => ?_) fun hb => ?_) stands)
    · -- refused
      have sb : SeqAt.shaped (.list (wd_ 2)) = true := sh_bools [false, false, true, false, true]
      refine GS.seq (GS.asg (d := .int (goneV (c / 5) lo hi th)) (GE.call (GA.cons (GE.op (GE.var rfl) GE.int (rd_intC ⟨by decide, by decide⟩)) (GA.cons (GE.var rfl) (GA.cons (GE.var rfl) (GA.cons (GE.var rfl) GA.nil)))) ⟨_, _, _, _, rfl, rfl⟩) ?_)
      refine GS.ifs (b := false) ((GT.test (GE.opH (GE.callRf (p := p) (d := d) (lo := lo) (hi := hi) (th := th) (done := done) (ro := false) (k := 2) rfl (GA.cons GE.int (GA.cons (GE.var rfl) (GA.cons (GE.op (GE.op (GE.var rfl) GE.int (rd_intC (by decide))) GE.int rd_eqI) GA.nil))) (by omega) (.inl ⟨rfl, gone_bad (by omega) (by omega) trivial, rfl⟩)) (.new _) (GE.lst (ds := wd_ 2) (GA.cons GE.bool (GA.cons GE.bool (GA.cons GE.bool (GA.cons GE.bool (GA.cons GE.bool GA.nil))))) (show 5 ≤ 1000 by omega)) (.new _) (rh_ne sb sb))).to (by rw [eqv_self sb] <;> rfl)) (fun z => nomatch z) fun _ => GS.next ?_
      exact ⟨lo, hi, th, done, _, _, _, _, _, _, h1, h2, h3, h4, by omega, rfl⟩
    · have hcs : ¬ c % 5 = 4 ∧ ¬ (th : Int) = 0 ∧ ¬ (lo : Int) = hi := by simpa using hb
      have hth : 1 ≤ th := by omega
      have hlt : lo < hi := by omega
      have es : (hi : Int) - lo = ((hi - lo : Nat) : Int) := by omega
      have hAr : ¬ badA ((hi - lo : Nat) : Int) th = true := badA_of (by omega) (by omega) (.inr hth)
      have q0 := Int.emod_nonneg (c / 5) (show (hi : Int) - lo ≠ 0 by omega)
      have q1 := Int.emod_lt_of_pos (c / 5) (show (0 : Int) < (hi : Int) - lo by omega)
      obtain ⟨D0, eD0, l0, u0⟩ : ∃ D0 : Int, (lo : Int) + 1 + c / 5 % ((hi : Int) - lo) * (if decide ((i : Int) ≤ 20) then 1 else 0) = D0 ∧ (lo : Int) < D0 ∧ D0 ≤ hi := by
        refine ⟨_, rfl, ?_⟩
        split
        · omega
        · omega
      refine GS.seq (GS.asg (d := .int D0) (GE.to (GE.op (GE.op (GE.var rfl) GE.int rd_int) (GE.op (GE.op (GE.op (GE.var rfl) GE.int (rd_intC ⟨by decide, by decide⟩)) (GE.op (GE.var rfl) (GE.var rfl) rd_int) (rd_intC (by omega))) (GE.intB (GE.op (GE.var rfl) GE.int rd_bl)) (rd_intC (.inl ⟨by omega, by omega⟩))) rd_int) (congrArg (fun z => Rs.ok (.int z)) eD0)) ?_)
      refine GS.seq (GS.mono (Nx := fun ρ' => ∃ D : Nat, lo < D ∧ D ≤ hi ∧ (c % 5 < 2 → loD th (hi - lo) ≤ (D : Int) - lo ∧ (D : Int) - lo ≤ hiD th (hi - lo)) ∧ ρ' = St lo hi th done lo hi th (some (.dat (.int (i : Int)))) (some (.dat (.int c))) x12 (some (.dat (.int (D : Nat)))) x14 x15) (GS.ifs (b := decide (c % 5 < 2)) (GT.test (GE.op (GE.op (GE.var rfl) GE.int (rd_intC (by decide))) GE.int rd_bl)) (fun hb2 => ?_) fun hb2 => GS.next ?_) ?_)
      · have lh := lo_hi (k := th) (f := hi - lo) hth (by omega)
        have hD : R_adv C_NoCase lo hi th done (.ok (.tuple [.int (lo + loD th (hi - lo)), .int (lo + hiD th (hi - lo))])) := by
          unfold R_adv
          rw [es, if_neg hAr, ← es, if_neg (by omega), es, Int.toNat_natCast, Int.toNat_natCast]
        obtain ⟨m, hm2, em⟩ := mod_nat c (m := 2) (by decide)
        obtain ⟨D, eD, hD1, hD2⟩ : ∃ D : Nat, atI [PyData.int (lo + loD th (hi - lo)), .int (lo + hiD th (hi - lo))] (c % 2) = some (.int (D : Nat)) ∧ loD th (hi - lo) ≤ (D : Int) - lo ∧ (D : Int) - lo ≤ hiD th (hi - lo) := by
          rw [em]
          have : m = 0 ∨ m = 1 := by omega
          rcases this with rfl | rfl
          · exact ⟨(lo + loD th (hi - lo)).toNat, by rw [Int.toNat_of_nonneg (by omega)]; rfl, by omega, by omega⟩
          · exact ⟨(lo + hiD th (hi - lo)).toNat, by rw [Int.toNat_of_nonneg (by omega)]; rfl, by omega, by omega⟩
        exact GS.asg (d := .int (D : Nat)) (GE.ixT (GE.mt0 (R := R_adv C_NoCase) (p := p) (d := d) (lo := lo) (hi := hi) (th := th) (done := done) (ro := false) rfl rfl hD) (GE.op (GE.var rfl) GE.int (rd_intC (by decide))) eD) ⟨D, by omega, by omega, fun _ => ⟨hD1, hD2⟩, rfl⟩
      · exact ⟨D0.toNat, by omega, by omega, fun z => absurd z (of_decide_eq_false hb2), by rw [Int.toNat_of_nonneg (by omega)]; rfl⟩
      · rintro ρ' ⟨D, hD1, hD2, hadv, rfl⟩
        have hR : R_fewest C_NoCase [.int ((hi : Int) - lo), .int th] (.ok (.int (need th (hi - lo)))) := by
          rw [es]
          exact R_fewest_ok (by omega) (by omega) (.inr hth)
        refine GS.seq (GS.asg (d := .int (need th (hi - lo))) (GE.call (GA.cons (GE.op (GE.var rfl) (GE.var rfl) rd_int) (GA.cons (GE.var rfl) GA.nil)) hR) ?_)
        have nb : ¬ badD lo hi th D := by
          unfold badD
          omega
        refine GS.seq (GS.mtD (p := p) (d := d) (lo := lo) (hi := hi) (th := th) (done := done) (fl := D) (br := decide ((D : Int) > fl)) rfl (GA.cons (GE.var rfl) (GA.cons (GE.op (GE.var rfl) (GE.var rfl) rd_bl) GA.nil)) (by omega) nb ?_)
        refine GS.seq (GS.app (ds := done.map pdD) (d := pdD (D, decide ((D : Int) > fl))) rfl (GE.tup (GA.cons (GE.var rfl) (GA.cons (GE.op (GE.var rfl) (GE.var rfl) rd_bl) GA.nil)) (by simp)) (by rw [List.length_map]; omega) ?_)
        have em : done.map pdD ++ [pdD (D, decide ((D : Int) > fl))] = (done ++ [((D : Int), decide ((D : Int) > fl))]).map pdD := by
          rw [List.map_append] <;> rfl
        rw [em]
        refine GS.seq (GS.ifs (b := false) ((GT.or (a := !true) (GT.not (GT.val (GE.call (GA.cons (GE.var rfl) GA.nil) ⟨_, rfl, rfl⟩))) fun _ => GT.test (GE.op (GE.var rfl) (GE.len (GE.own rfl) (.ls (.ali _))) rd_neI)).to (by simp)) (fun z => nomatch z) fun _ => GS.next ?_)
        -- where the thing breaks, or not
        refine GS.seq (GS.mono (Nx := fun ρ' => ∃ (lo' hi' th' : Nat) (x10 x12 x13 x15 : Option Cl), lo' ≤ fl ∧ fl ≤ hi' ∧ hi' ≤ F ∧ th' ≤ T ∧ (c % 5 < 2 → (hi' - lo' = 0 ∨ 1 ≤ th') → need th' (hi' - lo') < need th (hi - lo)) ∧ ρ' = St lo' hi' th' (done ++ [((D : Int), decide ((D : Int) > fl))]) lo' hi' th' x10 (some (.dat (.int c))) x12 x13 (some (.dat (.int (need th (hi - lo))))) x15) (GS.ifs (b := decide ((D : Int) > fl)) (GT.test (GE.op (GE.var rfl) (GE.var rfl) rd_bl)) (fun hbr => ?_) fun hbr => ?_) ?_)
        · have hD3 : (D : Int) > fl := of_decide_eq_true hbr
          rw [hbr]
          refine GS.seq (GS.asg (d := .int ((D - 1 : Nat) : Int)) (GE.to (GE.op (GE.var rfl) GE.int rd_int) (congrArg (fun z => Rs.ok (.int z)) (by omega))) ?_)
          refine GS.asg (d := .int ((th - 1 : Nat) : Int)) (GE.to (GE.op (GE.var rfl) GE.int rd_int) (congrArg (fun z => Rs.ok (.int z)) (by omega))) ⟨lo, D - 1, th - 1, some (.dat (.int (i : Int))), x12, some (.dat (.int (D : Nat))), some (.dat (.int (done.length + 1))), h1, by omega, by omega, by omega, fun hc2 ho => ?_, ?_⟩
          · obtain ⟨a1, a2⟩ := hadv hc2
            have := adv_b (k := th) (f := hi - lo) (d := (D : Int) - lo) hth (by omega) a1 a2 (by rcases ho with z | z <;> omega)
            rw [show ((D : Int) - lo).toNat - 1 = D - 1 - lo by omega] at this
            exact this
          · have e1 : ((D - 1 : Nat) : Int) = (D : Int) - 1 := by omega
            have e2 : ((th - 1 : Nat) : Int) = (th : Int) - 1 := by omega
            show _ = St _ _ _ _ _ _ _ _ _ _ _ _ _
            simp only [St, e1, e2]
            rfl
        · have hD3 : ¬ (D : Int) > fl := of_decide_eq_false hbr
          rw [hbr]
          refine GS.asg (d := .int (D : Nat)) (GE.var rfl) ⟨D, hi, th, _, _, _, _, by omega, h2, h3, h4, fun hc2 _ => ?_, rfl⟩
          obtain ⟨a1, a2⟩ := hadv hc2
          have := adv_w (k := th) (f := hi - lo) (d := (D : Int) - lo) hth (by omega) a1 a2
          rw [show hi - lo - ((D : Int) - lo).toNat = hi - D by omega] at this
          exact this
        · rintro ρ' ⟨lo', hi', th', y10, y12, y13, y15, g1, g2, g3, g4, hless, rfl⟩
          have es' : (hi' : Int) - lo' = ((hi' - lo' : Nat) : Int) := by omega
          obtain ⟨z, ez⟩ : ∃ z : Bool, z = decide (th' > 0 ∨ lo' = hi') := ⟨_, rfl⟩
          refine GS.ifs (b := false) ((GT.and (a := decide (c % 5 < 2)) (b := false) (GT.test (GE.op (GE.op (GE.var rfl) GE.int (rd_intC (by decide))) GE.int rd_bl)) fun hc2 => (GT.and (a := decide ((th' : Int) > 0) || decide ((lo' : Int) = hi')) (b := false) (GT.or (GT.test (GE.op (GE.var rfl) GE.int rd_bl)) fun _ => GT.test (GE.op (GE.var rfl) (GE.var rfl) rd_eqI)) fun ho => ?_).to (Bool.and_false _)).to (Bool.and_false _)) (fun z => nomatch z) fun _ => GS.next ⟨lo', hi', th', _, _, _, _, _, _, _, g1, g2, g3, g4, by simp; omega, rfl⟩
          have ho' : hi' - lo' = 0 ∨ 1 ≤ th' := by
            simp only [Bool.or_eq_true, decide_eq_true_eq] at ho
            omega
          have hR2 : R_fewest C_NoCase [.int ((hi' : Int) - lo'), .int th'] (.ok (.int (need th' (hi' - lo')))) := by
            rw [es']
            exact R_fewest_ok (by omega) (by omega) ho'
          have hls := hless (of_decide_eq_true hc2) ho'
          exact (GT.test (GE.op (GE.call (GA.cons (GE.op (GE.var rfl) (GE.var rfl) rd_int) (GA.cons (GE.var rfl) GA.nil)) hR2) (GE.var rfl) rd_bl)).to (decide_eq_false (by omega))
  · rintro ρ' ⟨lo, hi, th, done, x10, x11, x12, x13, x14, x15, h1, h2, h3, h4, h5, rfl⟩
    exact GS.retD (GE.callSt0 (p := p2) (d := d2) (l := 0) (h' := F) (t := T) (ro := false) rfl GE.int (GE.var rfl) (GE.var rfl) (by omega) (by omega) (by omega))
end
theorem all_mk {P : Program} {w : World} {K : PySem.W.Frag} {h : Heap} {mg : Str → Option Value} {fa f0 f1 f2 f3 f4 f5 f6 f7 f8 f9 f10 f11 f12 f13 f14 f15 f16 f17 f18 f19 f20 C_FloorError C_NoCase C_NoPlan C_NoFloor C_BadLine C_Search : Addr} (X : K.In h) (G : h.Ns mainGlobals mg) (hfa : mg "law" = some (.ref fa))
    {od0 an0 od1 an1 od2 an2 od3 an3 od4 an4 od5 an5 od6 an6 od7 an7 od8 an8 od9 an9 od10 an10 od11 an11 od12 an12 od13 an13 od14 an14 od15 an15 od16 an16 od17 an17 od18 an18 od19 an19 od20 an20 : Option Addr} {sl0 sl1 sl2 sl3 sl4 sl5 sl6 sl7 sl8 sl9 sl10 sl11 sl12 sl13 sl14 sl15 sl16 sl17 sl18 sl19 sl20 : Array (Option Value)} {oc0 kV0 dc0 pm0 cd0 ct0 oc1 kV1 dc1 pm1 cd1 ct1 oc2 kV2 dc2 pm2 cd2 ct2 oc3 kV3 dc3 pm3 cd3 ct3 oc4 kV4 dc4 pm4 cd4 ct4 oc5 kV5 dc5 pm5 cd5 ct5 oc6 kV6 dc6 pm6 cd6 ct6 oc7 kV7 dc7 pm7 cd7 ct7 oc8 kV8 dc8 pm8 cd8 ct8 oc9 kV9 dc9 pm9 cd9 ct9 oc10 kV10 dc10 pm10 cd10 ct10 oc11 kV11 dc11 pm11 cd11 ct11 oc12 kV12 dc12 pm12 cd12 ct12 oc13 kV13 dc13 pm13 cd13 ct13 oc14 kV14 dc14 pm14 cd14 ct14 oc15 kV15 dc15 pm15 cd15 ct15 oc16 kV16 dc16 pm16 cd16 ct16 oc17 kV17 dc17 pm17 cd17 ct17 oc18 kV18 dc18 pm18 cd18 ct18 oc19 kV19 dc19 pm19 cd19 ct19 oc20 kV20 dc20 pm20 cd20 ct20 : Value} {t_MOST_FLOORS t_MOST_THINGS : Tok}
    (a0 : PySem.W.nsIn K mainGlobals "ask" = some (some (.ref f0))) (l0 : K.lookup f0 = some ⟨oc0, od0, .func (PySem.W.fnOf "ask" "ask" (defArgs s_ask) (defBody s_ask) (defScope s_ask) .none kV0 dc0 pm0 an0 cd0 ct0), sl0⟩) (c0 : PySem.W.codeIn K cd0 "ask" = true) (k0 : PySem.W.keepIn K (.ref f0) = true)
    (a1 : PySem.W.nsIn K mainGlobals "rows" = some (some (.ref f1))) (l1 : K.lookup f1 = some ⟨oc1, od1, .func (PySem.W.fnOf "rows" "rows" (defArgs s_rows) (defBody s_rows) (defScope s_rows) .none kV1 dc1 pm1 an1 cd1 ct1), sl1⟩) (c1 : PySem.W.codeIn K cd1 "rows" = true) (k1 : PySem.W.keepIn K (.ref f1) = true)
    (a2 : PySem.W.nsIn K mainGlobals "needed" = some (some (.ref f2))) (l2 : K.lookup f2 = some ⟨oc2, od2, .func (PySem.W.fnOf "needed" "needed" (defArgs s_needed) (defBody s_needed) (defScope s_needed) .none kV2 dc2 pm2 an2 cd2 ct2), sl2⟩) (c2 : PySem.W.codeIn K cd2 "needed" = true) (k2 : PySem.W.keepIn K (.ref f2) = true)
    (a3 : PySem.W.nsIn K mainGlobals "fewest" = some (some (.ref f3))) (l3 : K.lookup f3 = some ⟨oc3, od3, .func (PySem.W.fnOf "fewest" "fewest" (defArgs s_fewest) (defBody s_fewest) (defScope s_fewest) .none kV3 dc3 pm3 an3 cd3 ct3), sl3⟩) (c3 : PySem.W.codeIn K cd3 "fewest" = true) (k3 : PySem.W.keepIn K (.ref f3) = true)
    (a4 : PySem.W.nsIn K mainGlobals "first_drops" = some (some (.ref f4))) (l4 : K.lookup f4 = some ⟨oc4, od4, .func (PySem.W.fnOf "first_drops" "first_drops" (defArgs s_first_drops) (defBody s_first_drops) (defScope s_first_drops) .none kV4 dc4 pm4 an4 cd4 ct4), sl4⟩) (c4 : PySem.W.codeIn K cd4 "first_drops" = true) (k4 : PySem.W.keepIn K (.ref f4) = true)
    (a5 : PySem.W.nsIn K mainGlobals "choices" = some (some (.ref f5))) (l5 : K.lookup f5 = some ⟨oc5, od5, .func (PySem.W.fnOf "choices" "choices" (defArgs s_choices) (defBody s_choices) (defScope s_choices) .none kV5 dc5 pm5 an5 cd5 ct5), sl5⟩) (c5 : PySem.W.codeIn K cd5 "choices" = true) (k5 : PySem.W.keepIn K (.ref f5) = true)
    (a6 : PySem.W.findIn K (.ref C_Search) "__init__" = some (some (.ref f6))) (i6 : PySem.W.isFn K (.ref f6) = true) (l6 : K.lookup f6 = some ⟨oc6, od6, .func (PySem.W.fnOf "__init__" "Search.__init__" (defArgs s_S_init) (defBody s_S_init) (defScope s_S_init) .none kV6 dc6 pm6 an6 cd6 ct6), sl6⟩) (c6 : PySem.W.codeIn K cd6 "Search.__init__" = true) (k6 : PySem.W.keepIn K (.ref f6) = true)
    (a7 : PySem.W.findIn K (.ref C_Search) "dropped" = some (some (.ref f7))) (i7 : PySem.W.isFn K (.ref f7) = true) (l7 : K.lookup f7 = some ⟨oc7, od7, .func (PySem.W.fnOf "dropped" "Search.dropped" (defArgs s_S_dropped) (defBody s_S_dropped) (defScope s_S_dropped) .none kV7 dc7 pm7 an7 cd7 ct7), sl7⟩) (c7 : PySem.W.codeIn K cd7 "Search.dropped" = true) (k7 : PySem.W.keepIn K (.ref f7) = true)
    (a8 : PySem.W.findIn K (.ref C_Search) "span" = some (some (.ref f8))) (i8 : PySem.W.isFn K (.ref f8) = true) (l8 : K.lookup f8 = some ⟨oc8, od8, .func (PySem.W.fnOf "span" "Search.span" (defArgs s_S_span) (defBody s_S_span) (defScope s_S_span) .none kV8 dc8 pm8 an8 cd8 ct8), sl8⟩) (c8 : PySem.W.codeIn K cd8 "Search.span" = true) (k8 : PySem.W.keepIn K (.ref f8) = true)
    (a9 : PySem.W.findIn K (.ref C_Search) "left" = some (some (.ref f9))) (i9 : PySem.W.isFn K (.ref f9) = true) (l9 : K.lookup f9 = some ⟨oc9, od9, .func (PySem.W.fnOf "left" "Search.left" (defArgs s_S_left) (defBody s_S_left) (defScope s_S_left) .none kV9 dc9 pm9 an9 cd9 ct9), sl9⟩) (c9 : PySem.W.codeIn K cd9 "Search.left" = true) (k9 : PySem.W.keepIn K (.ref f9) = true)
    (a10 : PySem.W.findIn K (.ref C_Search) "drops" = some (some (.ref f10))) (i10 : PySem.W.isFn K (.ref f10) = true) (l10 : K.lookup f10 = some ⟨oc10, od10, .func (PySem.W.fnOf "drops" "Search.drops" (defArgs s_S_drops) (defBody s_S_drops) (defScope s_S_drops) .none kV10 dc10 pm10 an10 cd10 ct10), sl10⟩) (c10 : PySem.W.codeIn K cd10 "Search.drops" = true) (k10 : PySem.W.keepIn K (.ref f10) = true)
    (a11 : PySem.W.findIn K (.ref C_Search) "need" = some (some (.ref f11))) (i11 : PySem.W.isFn K (.ref f11) = true) (l11 : K.lookup f11 = some ⟨oc11, od11, .func (PySem.W.fnOf "need" "Search.need" (defArgs s_S_need) (defBody s_S_need) (defScope s_S_need) .none kV11 dc11 pm11 an11 cd11 ct11), sl11⟩) (c11 : PySem.W.codeIn K cd11 "Search.need" = true) (k11 : PySem.W.keepIn K (.ref f11) = true)
    (a12 : PySem.W.findIn K (.ref C_Search) "advice" = some (some (.ref f12))) (i12 : PySem.W.isFn K (.ref f12) = true) (l12 : K.lookup f12 = some ⟨oc12, od12, .func (PySem.W.fnOf "advice" "Search.advice" (defArgs s_S_advice) (defBody s_S_advice) (defScope s_S_advice) .none kV12 dc12 pm12 an12 cd12 ct12), sl12⟩) (c12 : PySem.W.codeIn K cd12 "Search.advice" = true) (k12 : PySem.W.keepIn K (.ref f12) = true)
    (a13 : PySem.W.nsIn K mainGlobals "_law_cell_at" = some (some (.ref f13))) (l13 : K.lookup f13 = some ⟨oc13, od13, .func (PySem.W.fnOf "_law_cell_at" "_law_cell_at" (defArgs s_law_cell_at) (defBody s_law_cell_at) (defScope s_law_cell_at) .none kV13 dc13 pm13 an13 cd13 ct13), sl13⟩) (c13 : PySem.W.codeIn K cd13 "_law_cell_at" = true) (k13 : PySem.W.keepIn K (.ref f13) = true)
    (a14 : PySem.W.nsIn K mainGlobals "_law_whole" = some (some (.ref f14))) (l14 : K.lookup f14 = some ⟨oc14, od14, .func (PySem.W.fnOf "_law_whole" "_law_whole" (defArgs s_law_whole) (defBody s_law_whole) (defScope s_law_whole) .none kV14 dc14 pm14 an14 cd14 ct14), sl14⟩) (c14 : PySem.W.codeIn K cd14 "_law_whole" = true) (k14 : PySem.W.keepIn K (.ref f14) = true)
    (a15 : PySem.W.nsIn K mainGlobals "_law_pair" = some (some (.ref f15))) (l15 : K.lookup f15 = some ⟨oc15, od15, .func (PySem.W.fnOf "_law_pair" "_law_pair" (defArgs s_law_pair) (defBody s_law_pair) (defScope s_law_pair) .none kV15 dc15 pm15 an15 cd15 ct15), sl15⟩) (c15 : PySem.W.codeIn K cd15 "_law_pair" = true) (k15 : PySem.W.keepIn K (.ref f15) = true)
    (a16 : PySem.W.nsIn K mainGlobals "_law_which" = some (some (.ref f16))) (l16 : K.lookup f16 = some ⟨oc16, od16, .func (PySem.W.fnOf "_law_which" "_law_which" (defArgs s_law_which) (defBody s_law_which) (defScope s_law_which) .none kV16 dc16 pm16 an16 cd16 ct16), sl16⟩) (c16 : PySem.W.codeIn K cd16 "_law_which" = true) (k16 : PySem.W.keepIn K (.ref f16) = true)
    (a17 : PySem.W.nsIn K mainGlobals "_law_gone" = some (some (.ref f17))) (l17 : K.lookup f17 = some ⟨oc17, od17, .func (PySem.W.fnOf "_law_gone" "_law_gone" (defArgs s_law_gone) (defBody s_law_gone) (defScope s_law_gone) .none kV17 dc17 pm17 an17 cd17 ct17), sl17⟩) (c17 : PySem.W.codeIn K cd17 "_law_gone" = true) (k17 : PySem.W.keepIn K (.ref f17) = true)
    (a18 : PySem.W.nsIn K mainGlobals "_law_refused" = some (some (.ref f18))) (l18 : K.lookup f18 = some ⟨oc18, od18, .func (PySem.W.fnOf "_law_refused" "_law_refused" (defArgs s_law_refused) (defBody s_law_refused) (defScope s_law_refused) .none kV18 dc18 pm18 an18 cd18 ct18), sl18⟩) (c18 : PySem.W.codeIn K cd18 "_law_refused" = true) (k18 : PySem.W.keepIn K (.ref f18) = true)
    (a19 : PySem.W.nsIn K mainGlobals "_law_stands" = some (some (.ref f19))) (l19 : K.lookup f19 = some ⟨oc19, od19, .func (PySem.W.fnOf "_law_stands" "_law_stands" (defArgs s_law_stands) (defBody s_law_stands) (defScope s_law_stands) .none kV19 dc19 pm19 an19 cd19 ct19), sl19⟩) (c19 : PySem.W.codeIn K cd19 "_law_stands" = true) (k19 : PySem.W.keepIn K (.ref f19) = true)
    (a20 : PySem.W.nsIn K mainGlobals "law" = some (some (.ref f20))) (l20 : K.lookup f20 = some ⟨oc20, od20, .func (PySem.W.fnOf "law" "law" (defArgs s_law) (defBody s_law) (defScope s_law) .none kV20 dc20 pm20 an20 cd20 ct20), sl20⟩) (c20 : PySem.W.codeIn K cd20 "law" = true) (k20 : PySem.W.keepIn K (.ref f20) = true)
    (z_ValueError : PySem.W.nsIn K mainGlobals "ValueError" = some none)
    (z_bool : PySem.W.nsIn K mainGlobals "bool" = some none)
    (z_int : PySem.W.nsIn K mainGlobals "int" = some none)
    (z_isinstance : PySem.W.nsIn K mainGlobals "isinstance" = some none)
    (z_len : PySem.W.nsIn K mainGlobals "len" = some none)
    (z_list : PySem.W.nsIn K mainGlobals "list" = some none)
    (z_max : PySem.W.nsIn K mainGlobals "max" = some none)
    (z_min : PySem.W.nsIn K mainGlobals "min" = some none)
    (z_range : PySem.W.nsIn K mainGlobals "range" = some none)
    (z_tuple : PySem.W.nsIn K mainGlobals "tuple" = some none)
    (m_MOST_FLOORS : PySem.W.nsIn K mainGlobals "MOST_FLOORS" = some (some (.int 1000 t_MOST_FLOORS)))
    (m_MOST_THINGS : PySem.W.nsIn K mainGlobals "MOST_THINGS" = some (some (.int 12 t_MOST_THINGS)))
    (g_FloorError : PySem.W.nsIn K mainGlobals "FloorError" = some (some (.ref C_FloorError))) (x_FloorError : PySem.W.excIn K C_FloorError [.type "ValueError", .type "Exception", .type "BaseException", .type "object"] "ValueError.__new__" = true) (kk_FloorError : PySem.W.keepIn K (.ref C_FloorError) = true) (b_FloorError : PySem.W.subIn K (.ref C_FloorError) (.type "BaseException") = some true) (t_FloorError : PySem.W.typeIn K (.ref C_FloorError) = some (.type "type"))
    (g_NoCase : PySem.W.nsIn K mainGlobals "NoCase" = some (some (.ref C_NoCase))) (x_NoCase : PySem.W.excIn K C_NoCase [.type "ValueError", .type "Exception", .type "BaseException", .type "object"] "ValueError.__new__" = true) (kk_NoCase : PySem.W.keepIn K (.ref C_NoCase) = true) (b_NoCase : PySem.W.subIn K (.ref C_NoCase) (.type "BaseException") = some true) (t_NoCase : PySem.W.typeIn K (.ref C_NoCase) = some (.type "type"))
    (g_NoPlan : PySem.W.nsIn K mainGlobals "NoPlan" = some (some (.ref C_NoPlan))) (x_NoPlan : PySem.W.excIn K C_NoPlan [.type "ValueError", .type "Exception", .type "BaseException", .type "object"] "ValueError.__new__" = true) (kk_NoPlan : PySem.W.keepIn K (.ref C_NoPlan) = true) (b_NoPlan : PySem.W.subIn K (.ref C_NoPlan) (.type "BaseException") = some true) (t_NoPlan : PySem.W.typeIn K (.ref C_NoPlan) = some (.type "type"))
    (g_NoFloor : PySem.W.nsIn K mainGlobals "NoFloor" = some (some (.ref C_NoFloor))) (x_NoFloor : PySem.W.excIn K C_NoFloor [.type "ValueError", .type "Exception", .type "BaseException", .type "object"] "ValueError.__new__" = true) (kk_NoFloor : PySem.W.keepIn K (.ref C_NoFloor) = true) (b_NoFloor : PySem.W.subIn K (.ref C_NoFloor) (.type "BaseException") = some true) (t_NoFloor : PySem.W.typeIn K (.ref C_NoFloor) = some (.type "type"))
    (g_BadLine : PySem.W.nsIn K mainGlobals "BadLine" = some (some (.ref C_BadLine))) (x_BadLine : PySem.W.excIn K C_BadLine [.type "ValueError", .type "Exception", .type "BaseException", .type "object"] "ValueError.__new__" = true) (kk_BadLine : PySem.W.keepIn K (.ref C_BadLine) = true) (b_BadLine : PySem.W.subIn K (.ref C_BadLine) (.type "BaseException") = some true) (t_BadLine : PySem.W.typeIn K (.ref C_BadLine) = some (.type "type"))
    (g_Search : PySem.W.nsIn K mainGlobals "Search" = some (some (.ref C_Search))) (pg_Search : PySem.W.plainGet K C_Search Str.empty = true) (hd_Search : PySem.W.hasDictIn K C_Search = true) (po_Search : PySem.W.plainOver K C_Search = true) (sa_Search : PySem.W.findIn K (.ref C_Search) "__setattr__" = some (some (.builtin "object.__setattr__"))) (mk_Search : PySem.W.makesIn K C_Search = true) (kk_Search : PySem.W.keepIn K (.ref C_Search) = true)
    (na_low : PySem.W.findIn K (.ref C_Search) "low" = some none)
    (na_high : PySem.W.findIn K (.ref C_Search) "high" = some none)
    (na_things : PySem.W.findIn K (.ref C_Search) "things" = some none)
    (na_done : PySem.W.findIn K (.ref C_Search) "done" = some none)
    (sp_ : PySem.W.specialIn K (.builtin "object.__class__") "__get__" = some (some (.builtin "getset_descriptor.__get__"))) (tk_ : PySem.W.takesIn K (.builtin "object.__class__") = some true)
    (hd_FloorError : PySem.W.hasDictIn K C_FloorError = true)
    (hd_NoCase : PySem.W.hasDictIn K C_NoCase = true)
    (hd_NoPlan : PySem.W.hasDictIn K C_NoPlan = true)
    (hd_NoFloor : PySem.W.hasDictIn K C_NoFloor = true)
    (hd_BadLine : PySem.W.hasDictIn K C_BadLine = true)
    (h1_NoCase : PySem.W.findIn K (.ref C_NoCase) "__getattribute__" = some (some (.builtin "BaseException.__getattribute__"))) (h2_NoCase : PySem.W.findIn K (.ref C_NoCase) "__getattr__" = some none) (h3_NoCase : PySem.W.findIn K (.ref C_NoCase) "__class__" = some (some (.builtin "object.__class__"))) (h4_NoCase : PySem.W.mroIn K C_NoCase (.type "object") = some true)
    (s_NoCase_FloorError : PySem.W.subIn K (.ref C_NoCase) (.ref C_FloorError) = some true) (s_NoCase_ValueError : PySem.W.subIn K (.ref C_NoCase) (.type "ValueError") = some true)
    (s_NoCase_NoCase : PySem.W.subIn K (.ref C_NoCase) (.ref C_NoCase) = some true)
    (s_NoCase_NoPlan : PySem.W.subIn K (.ref C_NoCase) (.ref C_NoPlan) = some false)
    (n_NoCase_NoPlan : (Value.ref C_NoCase == Value.ref C_NoPlan) = false)
    (s_NoCase_NoFloor : PySem.W.subIn K (.ref C_NoCase) (.ref C_NoFloor) = some false)
    (n_NoCase_NoFloor : (Value.ref C_NoCase == Value.ref C_NoFloor) = false)
    (s_NoCase_BadLine : PySem.W.subIn K (.ref C_NoCase) (.ref C_BadLine) = some false)
    (n_NoCase_BadLine : (Value.ref C_NoCase == Value.ref C_BadLine) = false)
    (h1_NoPlan : PySem.W.findIn K (.ref C_NoPlan) "__getattribute__" = some (some (.builtin "BaseException.__getattribute__"))) (h2_NoPlan : PySem.W.findIn K (.ref C_NoPlan) "__getattr__" = some none) (h3_NoPlan : PySem.W.findIn K (.ref C_NoPlan) "__class__" = some (some (.builtin "object.__class__"))) (h4_NoPlan : PySem.W.mroIn K C_NoPlan (.type "object") = some true)
    (s_NoPlan_FloorError : PySem.W.subIn K (.ref C_NoPlan) (.ref C_FloorError) = some true) (s_NoPlan_ValueError : PySem.W.subIn K (.ref C_NoPlan) (.type "ValueError") = some true)
    (s_NoPlan_NoCase : PySem.W.subIn K (.ref C_NoPlan) (.ref C_NoCase) = some false)
    (n_NoPlan_NoCase : (Value.ref C_NoPlan == Value.ref C_NoCase) = false)
    (s_NoPlan_NoPlan : PySem.W.subIn K (.ref C_NoPlan) (.ref C_NoPlan) = some true)
    (s_NoPlan_NoFloor : PySem.W.subIn K (.ref C_NoPlan) (.ref C_NoFloor) = some false)
    (n_NoPlan_NoFloor : (Value.ref C_NoPlan == Value.ref C_NoFloor) = false)
    (s_NoPlan_BadLine : PySem.W.subIn K (.ref C_NoPlan) (.ref C_BadLine) = some false)
    (n_NoPlan_BadLine : (Value.ref C_NoPlan == Value.ref C_BadLine) = false)
    (h1_NoFloor : PySem.W.findIn K (.ref C_NoFloor) "__getattribute__" = some (some (.builtin "BaseException.__getattribute__"))) (h2_NoFloor : PySem.W.findIn K (.ref C_NoFloor) "__getattr__" = some none) (h3_NoFloor : PySem.W.findIn K (.ref C_NoFloor) "__class__" = some (some (.builtin "object.__class__"))) (h4_NoFloor : PySem.W.mroIn K C_NoFloor (.type "object") = some true)
    (s_NoFloor_FloorError : PySem.W.subIn K (.ref C_NoFloor) (.ref C_FloorError) = some true) (s_NoFloor_ValueError : PySem.W.subIn K (.ref C_NoFloor) (.type "ValueError") = some true)
    (s_NoFloor_NoCase : PySem.W.subIn K (.ref C_NoFloor) (.ref C_NoCase) = some false)
    (n_NoFloor_NoCase : (Value.ref C_NoFloor == Value.ref C_NoCase) = false)
    (s_NoFloor_NoPlan : PySem.W.subIn K (.ref C_NoFloor) (.ref C_NoPlan) = some false)
    (n_NoFloor_NoPlan : (Value.ref C_NoFloor == Value.ref C_NoPlan) = false)
    (s_NoFloor_NoFloor : PySem.W.subIn K (.ref C_NoFloor) (.ref C_NoFloor) = some true)
    (s_NoFloor_BadLine : PySem.W.subIn K (.ref C_NoFloor) (.ref C_BadLine) = some false)
    (n_NoFloor_BadLine : (Value.ref C_NoFloor == Value.ref C_BadLine) = false)
    (h1_BadLine : PySem.W.findIn K (.ref C_BadLine) "__getattribute__" = some (some (.builtin "BaseException.__getattribute__"))) (h2_BadLine : PySem.W.findIn K (.ref C_BadLine) "__getattr__" = some none) (h3_BadLine : PySem.W.findIn K (.ref C_BadLine) "__class__" = some (some (.builtin "object.__class__"))) (h4_BadLine : PySem.W.mroIn K C_BadLine (.type "object") = some true)
    (s_BadLine_FloorError : PySem.W.subIn K (.ref C_BadLine) (.ref C_FloorError) = some true) (s_BadLine_ValueError : PySem.W.subIn K (.ref C_BadLine) (.type "ValueError") = some true)
    (s_BadLine_NoCase : PySem.W.subIn K (.ref C_BadLine) (.ref C_NoCase) = some false)
    (n_BadLine_NoCase : (Value.ref C_BadLine == Value.ref C_NoCase) = false)
    (s_BadLine_NoPlan : PySem.W.subIn K (.ref C_BadLine) (.ref C_NoPlan) = some false)
    (n_BadLine_NoPlan : (Value.ref C_BadLine == Value.ref C_NoPlan) = false)
    (s_BadLine_NoFloor : PySem.W.subIn K (.ref C_BadLine) (.ref C_NoFloor) = some false)
    (n_BadLine_NoFloor : (Value.ref C_BadLine == Value.ref C_NoFloor) = false)
    (s_BadLine_BadLine : PySem.W.subIn K (.ref C_BadLine) (.ref C_BadLine) = some true)
    : ∃ fd : FuncData, (∀ (s : Shared) (v : Value), BindsTo s fd ⟨[v], []⟩ [("script", v)]) ∧ ∀ base : Heap, K.In base → base.Ns mainGlobals mg → FnOk P w K mg base (L2.CX P w) 7 fa fd ["script"] (spR K RLaw) := by
  have e := hfa.symm.trans (PySem.W.mg_of X G a20)
  cases e
  have T : Tx K mg C_FloorError C_NoCase C_NoPlan C_NoFloor C_BadLine C_Search := ⟨PySem.W.mg_none_of X G z_ValueError, PySem.W.mg_none_of X G z_bool, PySem.W.mg_none_of X G z_int, PySem.W.mg_none_of X G z_isinstance, PySem.W.mg_none_of X G z_len, PySem.W.mg_none_of X G z_list, PySem.W.mg_none_of X G z_max, PySem.W.mg_none_of X G z_min, PySem.W.mg_none_of X G z_range, PySem.W.mg_none_of X G z_tuple, ⟨_, PySem.W.mg_of X G m_MOST_FLOORS, ⟨_, rfl⟩⟩, ⟨_, PySem.W.mg_of X G m_MOST_THINGS, ⟨_, rfl⟩⟩, ⟨PySem.W.mg_of X G g_FloorError, x_FloorError, kk_FloorError, b_FloorError, t_FloorError⟩, ⟨PySem.W.mg_of X G g_NoCase, x_NoCase, kk_NoCase, b_NoCase, t_NoCase⟩, ⟨PySem.W.mg_of X G g_NoPlan, x_NoPlan, kk_NoPlan, b_NoPlan, t_NoPlan⟩, ⟨PySem.W.mg_of X G g_NoFloor, x_NoFloor, kk_NoFloor, b_NoFloor, t_NoFloor⟩, ⟨PySem.W.mg_of X G g_BadLine, x_BadLine, kk_BadLine, b_BadLine, t_BadLine⟩, PySem.W.mg_of X G g_Search, ⟨pg_Search, hd_Search, po_Search, sa_Search⟩, na_low, na_high, na_things, na_done, ⟨h1_NoCase, h2_NoCase, b_NoCase, hd_NoCase, h3_NoCase, sp_, tk_, h4_NoCase⟩, PySem.W.exm_ref b_FloorError hd_FloorError t_FloorError s_NoCase_FloorError, kit_own hd_NoCase t_NoCase s_NoCase_NoCase (fun h => nomatch h), kit_own hd_NoPlan t_NoPlan s_NoCase_NoPlan (fun _ => n_NoCase_NoPlan), kit_own hd_NoFloor t_NoFloor s_NoCase_NoFloor (fun _ => n_NoCase_NoFloor), kit_own hd_BadLine t_BadLine s_NoCase_BadLine (fun _ => n_NoCase_BadLine), kit_val (by decide +kernel) s_NoCase_ValueError rfl, ⟨h1_NoPlan, h2_NoPlan, b_NoPlan, hd_NoPlan, h3_NoPlan, sp_, tk_, h4_NoPlan⟩, PySem.W.exm_ref b_FloorError hd_FloorError t_FloorError s_NoPlan_FloorError, kit_own hd_NoCase t_NoCase s_NoPlan_NoCase (fun _ => n_NoPlan_NoCase), kit_own hd_NoPlan t_NoPlan s_NoPlan_NoPlan (fun h => nomatch h), kit_own hd_NoFloor t_NoFloor s_NoPlan_NoFloor (fun _ => n_NoPlan_NoFloor), kit_own hd_BadLine t_BadLine s_NoPlan_BadLine (fun _ => n_NoPlan_BadLine), kit_val (by decide +kernel) s_NoPlan_ValueError rfl, ⟨h1_NoFloor, h2_NoFloor, b_NoFloor, hd_NoFloor, h3_NoFloor, sp_, tk_, h4_NoFloor⟩, PySem.W.exm_ref b_FloorError hd_FloorError t_FloorError s_NoFloor_FloorError, kit_own hd_NoCase t_NoCase s_NoFloor_NoCase (fun _ => n_NoFloor_NoCase), kit_own hd_NoPlan t_NoPlan s_NoFloor_NoPlan (fun _ => n_NoFloor_NoPlan), kit_own hd_NoFloor t_NoFloor s_NoFloor_NoFloor (fun h => nomatch h), kit_own hd_BadLine t_BadLine s_NoFloor_BadLine (fun _ => n_NoFloor_BadLine), kit_val (by decide +kernel) s_NoFloor_ValueError rfl, ⟨h1_BadLine, h2_BadLine, b_BadLine, hd_BadLine, h3_BadLine, sp_, tk_, h4_BadLine⟩, PySem.W.exm_ref b_FloorError hd_FloorError t_FloorError s_BadLine_FloorError, kit_own hd_NoCase t_NoCase s_BadLine_NoCase (fun _ => n_BadLine_NoCase), kit_own hd_NoPlan t_NoPlan s_BadLine_NoPlan (fun _ => n_BadLine_NoPlan), kit_own hd_NoFloor t_NoFloor s_BadLine_NoFloor (fun _ => n_BadLine_NoFloor), kit_own hd_BadLine t_BadLine s_BadLine_BadLine (fun h => nomatch h), kit_val (by decide +kernel) s_BadLine_ValueError rfl⟩
  refine ⟨PySem.W.fnOf "law" "law" (defArgs s_law) (defBody s_law) (defScope s_law) .none kV20 dc20 pm20 an20 cd20 ct20, fun s v => .of_eq rfl, fun base _ _ => ?_⟩
  have F_ask := fun_mk (st := s_ask) l0 c0 k0
  have M_ask := PySem.W.mg_of X G a0
  have b_ask := F_ask.binds (ps := ["floors", "things"]) fun _ _ _ _ _ _ us hl => match us, hl with | [_, _], _ => rfl
  have C_ask := ok_ask (P := P) (w := w) (base := base) T  F_ask M_ask b_ask
  have F_rows := fun_mk (st := s_rows) l1 c1 k1
  have M_rows := PySem.W.mg_of X G a1
  have b_rows := F_rows.binds (ps := ["things", "drops"]) fun _ _ _ _ _ _ us hl => match us, hl with | [_, _], _ => rfl
  have C_rows := ok_rows (P := P) (w := w) (base := base) T  F_rows M_rows b_rows
  have F_needed := fun_mk (st := s_needed) l2 c2 k2
  have M_needed := PySem.W.mg_of X G a2
  have b_needed := F_needed.binds (ps := ["floors", "things"]) fun _ _ _ _ _ _ us hl => match us, hl with | [_, _], _ => rfl
  have C_needed := ok_needed (P := P) (w := w) (base := base) T  F_needed M_needed b_needed
  have F_fewest := fun_mk (st := s_fewest) l3 c3 k3
  have M_fewest := PySem.W.mg_of X G a3
  have b_fewest := F_fewest.binds (ps := ["floors", "things"]) fun _ _ _ _ _ _ us hl => match us, hl with | [_, _], _ => rfl
  have C_fewest := ok_fewest (P := P) (w := w) (base := base) T C_ask C_needed F_fewest M_fewest b_fewest
  have F_first_drops := fun_mk (st := s_first_drops) l4 c4 k4
  have M_first_drops := PySem.W.mg_of X G a4
  have b_first_drops := F_first_drops.binds (ps := ["floors", "things"]) fun _ _ _ _ _ _ us hl => match us, hl with | [_, _], _ => rfl
  have C_first_drops := ok_first_drops (P := P) (w := w) (base := base) T C_needed C_rows F_first_drops M_first_drops b_first_drops
  have F_choices := fun_mk (st := s_choices) l5 c5 k5
  have M_choices := PySem.W.mg_of X G a5
  have b_choices := F_choices.binds (ps := ["floors", "things"]) fun _ _ _ _ _ _ us hl => match us, hl with | [_, _], _ => rfl
  have C_choices := ok_choices (P := P) (w := w) (base := base) T C_ask C_first_drops F_choices M_choices b_choices
  have F_S_init := fun_mk (st := s_S_init) l6 c6 k6
  have M_S_init : Mk K C_Search f6 := ⟨mk_Search, a6, i6, kk_Search⟩
  have b_S_init := F_S_init.binds (ps := ["self", "floors", "things"]) fun _ _ _ _ _ _ us hl => match us, hl with | [_, _, _], _ => rfl
  have C_S_init := ok_S_init (P := P) (w := w) (base := base) T C_ask F_S_init M_S_init b_S_init
  have F_S_dropped := fun_mk (st := s_S_dropped) l7 c7 k7
  have M_S_dropped : Meth K C_Search "dropped" f7 := ⟨a7, i7, k7⟩
  have b_S_dropped := F_S_dropped.binds (ps := ["self", "floor", "broken"]) fun _ _ _ _ _ _ us hl => match us, hl with | [_, _, _], _ => rfl
  have C_S_dropped := ok_S_dropped (P := P) (w := w) (base := base) T  F_S_dropped M_S_dropped b_S_dropped
  have F_S_span := fun_mk (st := s_S_span) l8 c8 k8
  have M_S_span : Meth K C_Search "span" f8 := ⟨a8, i8, k8⟩
  have b_S_span := F_S_span.binds (ps := ["self"]) fun _ _ _ _ _ _ us hl => match us, hl with | [_], _ => rfl
  have C_S_span := ok_S_span (P := P) (w := w) (base := base) T  F_S_span M_S_span b_S_span
  have F_S_left := fun_mk (st := s_S_left) l9 c9 k9
  have M_S_left : Meth K C_Search "left" f9 := ⟨a9, i9, k9⟩
  have b_S_left := F_S_left.binds (ps := ["self"]) fun _ _ _ _ _ _ us hl => match us, hl with | [_], _ => rfl
  have C_S_left := ok_S_left (P := P) (w := w) (base := base) T  F_S_left M_S_left b_S_left
  have F_S_drops := fun_mk (st := s_S_drops) l10 c10 k10
  have M_S_drops : Meth K C_Search "drops" f10 := ⟨a10, i10, k10⟩
  have b_S_drops := F_S_drops.binds (ps := ["self"]) fun _ _ _ _ _ _ us hl => match us, hl with | [_], _ => rfl
  have C_S_drops := ok_S_drops (P := P) (w := w) (base := base) T  F_S_drops M_S_drops b_S_drops
  have F_S_need := fun_mk (st := s_S_need) l11 c11 k11
  have M_S_need : Meth K C_Search "need" f11 := ⟨a11, i11, k11⟩
  have b_S_need := F_S_need.binds (ps := ["self"]) fun _ _ _ _ _ _ us hl => match us, hl with | [_], _ => rfl
  have C_S_need := ok_S_need (P := P) (w := w) (base := base) T C_fewest F_S_need M_S_need b_S_need
  have F_S_advice := fun_mk (st := s_S_advice) l12 c12 k12
  have M_S_advice : Meth K C_Search "advice" f12 := ⟨a12, i12, k12⟩
  have b_S_advice := F_S_advice.binds (ps := ["self"]) fun _ _ _ _ _ _ us hl => match us, hl with | [_], _ => rfl
  have C_S_advice := ok_S_advice (P := P) (w := w) (base := base) T C_choices F_S_advice M_S_advice b_S_advice
  have F_law_cell_at := fun_mk (st := s_law_cell_at) l13 c13 k13
  have M_law_cell_at := PySem.W.mg_of X G a13
  have b_law_cell_at := F_law_cell_at.binds (ps := ["script", "k"]) fun _ _ _ _ _ _ us hl => match us, hl with | [_, _], _ => rfl
  have C_law_cell_at := ok_law_cell_at (P := P) (w := w) (base := base) T  F_law_cell_at M_law_cell_at b_law_cell_at
  have F_law_whole := fun_mk (st := s_law_whole) l14 c14 k14
  have M_law_whole := PySem.W.mg_of X G a14
  have b_law_whole := F_law_whole.binds (ps := ["found"]) fun _ _ _ _ _ _ us hl => match us, hl with | [_], _ => rfl
  have C_law_whole := ok_law_whole (P := P) (w := w) (base := base) T  F_law_whole M_law_whole b_law_whole
  have F_law_pair := fun_mk (st := s_law_pair) l15 c15 k15
  have M_law_pair := PySem.W.mg_of X G a15
  have b_law_pair := F_law_pair.binds (ps := ["found"]) fun _ _ _ _ _ _ us hl => match us, hl with | [_], _ => rfl
  have C_law_pair := ok_law_pair (P := P) (w := w) (base := base) T C_law_whole F_law_pair M_law_pair b_law_pair
  have F_law_which := fun_mk (st := s_law_which) l16 c16 k16
  have M_law_which := PySem.W.mg_of X G a16
  have b_law_which := F_law_which.binds (ps := ["e"]) fun _ _ _ _ _ _ us hl => match us, hl with | [_], _ => rfl
  have C_law_which := ok_law_which (P := P) (w := w) (base := base) T  F_law_which M_law_which b_law_which
  have F_law_gone := fun_mk (st := s_law_gone) l17 c17 k17
  have M_law_gone := PySem.W.mg_of X G a17
  have b_law_gone := F_law_gone.binds (ps := ["cell", "low", "high", "left"]) fun _ _ _ _ _ _ us hl => match us, hl with | [_, _, _, _], _ => rfl
  have C_law_gone := ok_law_gone (P := P) (w := w) (base := base) T  F_law_gone M_law_gone b_law_gone
  have F_law_refused := fun_mk (st := s_law_refused) l18 c18 k18
  have M_law_refused := PySem.W.mg_of X G a18
  have b_law_refused := F_law_refused.binds (ps := ["search", "way", "floor", "broken"]) fun _ _ _ _ _ _ us hl => match us, hl with | [_, _, _, _], _ => rfl
  have C_law_refused := ok_law_refused (P := P) (w := w) (base := base) T C_law_which C_S_dropped C_S_need C_S_advice F_law_refused M_law_refused b_law_refused
  have F_law_stands := fun_mk (st := s_law_stands) l19 c19 k19
  have M_law_stands := PySem.W.mg_of X G a19
  have b_law_stands := F_law_stands.binds (ps := ["search", "low", "high", "things", "done"]) fun _ _ _ _ _ _ us hl => match us, hl with | [_, _, _, _, _], _ => rfl
  have C_law_stands := ok_law_stands (P := P) (w := w) (base := base) T C_law_whole C_law_pair C_law_refused C_fewest C_choices C_S_span C_S_left C_S_drops C_S_need C_S_advice F_law_stands M_law_stands b_law_stands
  have F_law := fun_mk (st := s_law) l20 c20 k20
  exact ok_law (P := P) (w := w) (base := base) T C_law_cell_at C_law_whole C_law_gone C_law_refused C_law_stands C_fewest C_S_init C_S_dropped C_S_advice F_law
end Eg
open PySem PySem.W PyProof.Rows
set_option maxHeartbeats 0 in
theorem PySem.Challenge.cw_eggfloors_k10_whole_search_holds : PySem.Challenge.rw_eggfloors_k10_whole_search.Holds := by
  w_on; o_law; k_head; (case hw => w_witness2)
  k_fill
  refine Eg.walkE (l := PySem.Challenge.rw_eggfloors_k10_whole_search) (k := 7) rfl rfl ⟨rfl, by decide, by decide⟩ (fun w h Y => PySem.W.kIn_of Y) ?F
  case F =>
    intro w mg fa h KX G hmg
    refine' Eg.all_mk KX G hmg ?a0 ?l0 ?c0 ?k0 ?a1 ?l1 ?c1 ?k1 ?a2 ?l2 ?c2 ?k2 ?a3 ?l3 ?c3 ?k3 ?a4 ?l4 ?c4 ?k4 ?a5 ?l5 ?c5 ?k5 ?a6 ?i6 ?l6 ?c6 ?k6 ?a7 ?i7 ?l7 ?c7 ?k7 ?a8 ?i8 ?l8 ?c8 ?k8 ?a9 ?i9 ?l9 ?c9 ?k9 ?a10 ?i10 ?l10 ?c10 ?k10 ?a11 ?i11 ?l11 ?c11 ?k11 ?a12 ?i12 ?l12 ?c12 ?k12 ?a13 ?l13 ?c13 ?k13 ?a14 ?l14 ?c14 ?k14 ?a15 ?l15 ?c15 ?k15 ?a16 ?l16 ?c16 ?k16 ?a17 ?l17 ?c17 ?k17 ?a18 ?l18 ?c18 ?k18 ?a19 ?l19 ?c19 ?k19 ?a20 ?l20 ?c20 ?k20 ?z_ValueError ?z_bool ?z_int ?z_isinstance ?z_len ?z_list ?z_max ?z_min ?z_range ?z_tuple ?m_MOST_FLOORS ?m_MOST_THINGS ?g_FloorError ?x_FloorError ?kk_FloorError ?b_FloorError ?t_FloorError ?g_NoCase ?x_NoCase ?kk_NoCase ?b_NoCase ?t_NoCase ?g_NoPlan ?x_NoPlan ?kk_NoPlan ?b_NoPlan ?t_NoPlan ?g_NoFloor ?x_NoFloor ?kk_NoFloor ?b_NoFloor ?t_NoFloor ?g_BadLine ?x_BadLine ?kk_BadLine ?b_BadLine ?t_BadLine ?g_Search ?pg_Search ?hd_Search ?po_Search ?sa_Search ?mk_Search ?kk_Search ?na_low ?na_high ?na_things ?na_done ?sp_ ?tk_ ?hd_FloorError ?hd_NoCase ?hd_NoPlan ?hd_NoFloor ?hd_BadLine ?h1_NoCase ?h2_NoCase ?h3_NoCase ?h4_NoCase ?s_NoCase_FloorError ?s_NoCase_ValueError ?s_NoCase_NoCase ?s_NoCase_NoPlan ?n_NoCase_NoPlan ?s_NoCase_NoFloor ?n_NoCase_NoFloor ?s_NoCase_BadLine ?n_NoCase_BadLine ?h1_NoPlan ?h2_NoPlan ?h3_NoPlan ?h4_NoPlan ?s_NoPlan_FloorError ?s_NoPlan_ValueError ?s_NoPlan_NoCase ?n_NoPlan_NoCase ?s_NoPlan_NoPlan ?s_NoPlan_NoFloor ?n_NoPlan_NoFloor ?s_NoPlan_BadLine ?n_NoPlan_BadLine ?h1_NoFloor ?h2_NoFloor ?h3_NoFloor ?h4_NoFloor ?s_NoFloor_FloorError ?s_NoFloor_ValueError ?s_NoFloor_NoCase ?n_NoFloor_NoCase ?s_NoFloor_NoPlan ?n_NoFloor_NoPlan ?s_NoFloor_NoFloor ?s_NoFloor_BadLine ?n_NoFloor_BadLine ?h1_BadLine ?h2_BadLine ?h3_BadLine ?h4_BadLine ?s_BadLine_FloorError ?s_BadLine_ValueError ?s_BadLine_NoCase ?n_BadLine_NoCase ?s_BadLine_NoPlan ?n_BadLine_NoPlan ?s_BadLine_NoFloor ?n_BadLine_NoFloor ?s_BadLine_BadLine
    (case g_FloorError => k_is)
    (case g_NoCase => k_is)
    (case g_NoPlan => k_is)
    (case g_NoFloor => k_is)
    (case g_BadLine => k_is)
    (case g_Search => k_is)
    (case a0 => k_is)
    (case l0 => k_is)
    (case c0 => k_is)
    (case k0 => k_is)
    (case a1 => k_is)
    (case l1 => k_is)
    (case c1 => k_is)
    (case k1 => k_is)
    (case a2 => k_is)
    (case l2 => k_is)
    (case c2 => k_is)
    (case k2 => k_is)
    (case a3 => k_is)
    (case l3 => k_is)
    (case c3 => k_is)
    (case k3 => k_is)
    (case a4 => k_is)
    (case l4 => k_is)
    (case c4 => k_is)
    (case k4 => k_is)
    (case a5 => k_is)
    (case l5 => k_is)
    (case c5 => k_is)
    (case k5 => k_is)
    (case a6 => k_is)
    (case i6 => k_is)
    (case l6 => k_is)
    (case c6 => k_is)
    (case k6 => k_is)
    (case a7 => k_is)
    (case i7 => k_is)
    (case l7 => k_is)
    (case c7 => k_is)
    (case k7 => k_is)
    (case a8 => k_is)
    (case i8 => k_is)
    (case l8 => k_is)
    (case c8 => k_is)
    (case k8 => k_is)
    (case a9 => k_is)
    (case i9 => k_is)
    (case l9 => k_is)
    (case c9 => k_is)
    (case k9 => k_is)
    (case a10 => k_is)
    (case i10 => k_is)
    (case l10 => k_is)
    (case c10 => k_is)
    (case k10 => k_is)
    (case a11 => k_is)
    (case i11 => k_is)
    (case l11 => k_is)
    (case c11 => k_is)
    (case k11 => k_is)
    (case a12 => k_is)
    (case i12 => k_is)
    (case l12 => k_is)
    (case c12 => k_is)
    (case k12 => k_is)
    (case a13 => k_is)
    (case l13 => k_is)
    (case c13 => k_is)
    (case k13 => k_is)
    (case a14 => k_is)
    (case l14 => k_is)
    (case c14 => k_is)
    (case k14 => k_is)
    (case a15 => k_is)
    (case l15 => k_is)
    (case c15 => k_is)
    (case k15 => k_is)
    (case a16 => k_is)
    (case l16 => k_is)
    (case c16 => k_is)
    (case k16 => k_is)
    (case a17 => k_is)
    (case l17 => k_is)
    (case c17 => k_is)
    (case k17 => k_is)
    (case a18 => k_is)
    (case l18 => k_is)
    (case c18 => k_is)
    (case k18 => k_is)
    (case a19 => k_is)
    (case l19 => k_is)
    (case c19 => k_is)
    (case k19 => k_is)
    (case a20 => k_is)
    (case l20 => k_is)
    (case c20 => k_is)
    (case k20 => k_is)
    (case z_ValueError => k_is)
    (case z_bool => k_is)
    (case z_int => k_is)
    (case z_isinstance => k_is)
    (case z_len => k_is)
    (case z_list => k_is)
    (case z_max => k_is)
    (case z_min => k_is)
    (case z_range => k_is)
    (case z_tuple => k_is)
    (case m_MOST_FLOORS => k_is)
    (case m_MOST_THINGS => k_is)
    (case x_FloorError => k_exc)
    (case kk_FloorError => k_is)
    (case b_FloorError => k_is)
    (case t_FloorError => k_is)
    (case x_NoCase => k_exc)
    (case kk_NoCase => k_is)
    (case b_NoCase => k_is)
    (case t_NoCase => k_is)
    (case x_NoPlan => k_exc)
    (case kk_NoPlan => k_is)
    (case b_NoPlan => k_is)
    (case t_NoPlan => k_is)
    (case x_NoFloor => k_exc)
    (case kk_NoFloor => k_is)
    (case b_NoFloor => k_is)
    (case t_NoFloor => k_is)
    (case x_BadLine => k_exc)
    (case kk_BadLine => k_is)
    (case b_BadLine => k_is)
    (case t_BadLine => k_is)
    (case pg_Search => k_is)
    (case hd_Search => k_is)
    (case po_Search => k_is)
    (case sa_Search => k_is)
    (case mk_Search => k_is)
    (case kk_Search => k_is)
    (case na_low => k_is)
    (case na_high => k_is)
    (case na_things => k_is)
    (case na_done => k_is)
    (case sp_ => k_is)
    (case tk_ => k_is)
    (case hd_FloorError => k_is)
    (case hd_NoCase => k_is)
    (case hd_NoPlan => k_is)
    (case hd_NoFloor => k_is)
    (case hd_BadLine => k_is)
    (case h1_NoCase => k_is)
    (case h2_NoCase => k_is)
    (case h3_NoCase => k_is)
    (case h4_NoCase => k_is)
    (case s_NoCase_FloorError => k_is)
    (case s_NoCase_ValueError => k_is)
    (case s_NoCase_NoCase => k_is)
    (case s_NoCase_NoPlan => k_is)
    (case n_NoCase_NoPlan => rfl)
    (case s_NoCase_NoFloor => k_is)
    (case n_NoCase_NoFloor => rfl)
    (case s_NoCase_BadLine => k_is)
    (case n_NoCase_BadLine => rfl)
    (case h1_NoPlan => k_is)
    (case h2_NoPlan => k_is)
    (case h3_NoPlan => k_is)
    (case h4_NoPlan => k_is)
    (case s_NoPlan_FloorError => k_is)
    (case s_NoPlan_ValueError => k_is)
    (case s_NoPlan_NoCase => k_is)
    (case n_NoPlan_NoCase => rfl)
    (case s_NoPlan_NoPlan => k_is)
    (case s_NoPlan_NoFloor => k_is)
    (case n_NoPlan_NoFloor => rfl)
    (case s_NoPlan_BadLine => k_is)
    (case n_NoPlan_BadLine => rfl)
    (case h1_NoFloor => k_is)
    (case h2_NoFloor => k_is)
    (case h3_NoFloor => k_is)
    (case h4_NoFloor => k_is)
    (case s_NoFloor_FloorError => k_is)
    (case s_NoFloor_ValueError => k_is)
    (case s_NoFloor_NoCase => k_is)
    (case n_NoFloor_NoCase => rfl)
    (case s_NoFloor_NoPlan => k_is)
    (case n_NoFloor_NoPlan => rfl)
    (case s_NoFloor_NoFloor => k_is)
    (case s_NoFloor_BadLine => k_is)
    (case n_NoFloor_BadLine => rfl)
    (case h1_BadLine => k_is)
    (case h2_BadLine => k_is)
    (case h3_BadLine => k_is)
    (case h4_BadLine => k_is)
    (case s_BadLine_FloorError => k_is)
    (case s_BadLine_ValueError => k_is)
    (case s_BadLine_NoCase => k_is)
    (case n_BadLine_NoCase => rfl)
    (case s_BadLine_NoPlan => k_is)
    (case n_BadLine_NoPlan => rfl)
    (case s_BadLine_NoFloor => k_is)
    (case n_BadLine_NoFloor => rfl)
    (case s_BadLine_BadLine => k_is)
