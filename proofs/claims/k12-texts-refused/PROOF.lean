import PyProof.Rows.All
import Wide.All
import OpenK.AllK
import Wide.FinOn
import HandS.ForMost
import HandS.Exc
import HandS.TryOnly
import HandS.ExcOwn
import HandS.WordsExc
import HandS.Evl
import HandS.IsInst
import HandS.Deep
import HandS.Conv
import HandS.HotCalls
import HandS.ExcIs
import PySem.Challenge.RW_eggfloors_k12_texts_refused
set_option Elab.async false
set_option linter.all false
set_option maxRecDepth 100000
set_option maxHeartbeats 4000000
/-! Values as data, and the defs of a program as functions of data. -/
namespace Eg
open PySem PySem.Spec PyProof.Rows L2
open Evl (Ex fresh_back ex_l ex_t ex_rd)

/-! ### data under a growing heap -/
mutual
theorem dpM {K : PySem.W.Frag} {H H' : Hp} (e : Ex H H') : ∀ {v : V} {d : PyData}, Dp K H v d → Dp K H' v d
  | _, _, .non => .non
  | _, _, .bl b => .bl b
  | _, _, .int i => .int i
  | _, _, .str x => .str x
  | _, _, .lst hs ha => .lst (ex_l e hs) (dpsM e ha)
  | _, _, .tup hs ha => .tup (ex_t e hs) (dpsM e ha)
theorem dpsM {K : PySem.W.Frag} {H H' : Hp} (e : Ex H H') : ∀ {vs : List V} {ds : List PyData}, DpAll K H vs ds → DpAll K H' vs ds
  | _, _, .nil => .nil
  | _, _, .cons h t => .cons (dpM e h) (dpsM e t)
end
theorem dps_len {K : PySem.W.Frag} {H : Hp} : ∀ {vs : List V} {ds : List PyData}, DpAll K H vs ds → vs.length = ds.length
  | _, _, .nil => rfl
  | _, _, .cons _ t => congrArg Nat.succ (dps_len t)
theorem dps_get {K : PySem.W.Frag} {H : Hp} : ∀ {vs : List V} {ds : List PyData}, DpAll K H vs ds → ∀ {i : Nat} {d : PyData}, ds[i]? = some d → ∃ v, vs[i]? = some v ∧ Dp K H v d
  | _, _, .nil, i, d, h => by simp at h
  | _, _, .cons h t, 0, d, e => by
    simp at e
    subst e
    exact ⟨_, rfl, h⟩
  | _, _, .cons h t, i + 1, d, e => by
    obtain ⟨v, e1, e2⟩ := dps_get t (i := i) (d := d) (by simpa using e)
    exact ⟨v, by simpa using e1, e2⟩
theorem dps_app {K : PySem.W.Frag} {H : Hp} : ∀ {vs ws : List V} {ds es : List PyData}, DpAll K H vs ds → DpAll K H ws es → DpAll K H (vs ++ ws) (ds ++ es)
  | _, _, _, _, .nil, s => s
  | _, _, _, _, .cons h t, s => .cons h (dps_app t s)
theorem dps_flat {K : PySem.W.Frag} {H : Hp} {vs : List V} {ds : List PyData} (h : DpAll K H vs ds) : ∀ n : Nat, DpAll K H (List.replicate n vs).flatten (List.replicate n ds).flatten
  | 0 => .nil
  | n + 1 => by
    rw [List.replicate_succ, List.replicate_succ, List.flatten_cons, List.flatten_cons]
    exact dps_app h (dps_flat h n)
theorem dps_ints {K : PySem.W.Frag} {H : Hp} : ∀ {vs : List V} {ns : List Int}, DpAll K H vs (ns.map PyData.int) → vs = ns.map V.int
  | _, [], h => by cases h; rfl
  | _, n :: ns, h => by
    cases h with
    | cons h1 h2 =>
      cases h1
      rw [dps_ints h2] <;> rfl
theorem dps_of_ints {K : PySem.W.Frag} {H : Hp} : ∀ (ns : List Int), DpAll K H (ns.map V.int) (ns.map PyData.int)
  | [] => .nil
  | n :: ns => .cons (.int n) (dps_of_ints ns)
theorem dps_at {K : PySem.W.Frag} {H : Hp} {vs : List V} {ds : List PyData} (h : DpAll K H vs ds) {i : Int} {d : PyData} (e : atI ds i = some d) : ∃ v, atI vs i = some v ∧ Dp K H v d := by
  unfold atI at e ⊢
  rw [dps_len h]
  cases q : ixN ds.length i with
  | none => rw [q] at e; cases e
  | some j =>
    rw [q] at e
    exact dps_get h (show ds[j]? = some d from e)

/-! ### what a step of the walk leaves: B the heap of the data, H the whole -/
structure Step (B H B' H' : Hp) : Prop where
  d : Ex B B'
  h : Ex H H'
  dh : Ex B' H'
  fr : ∀ a, H a ≠ none → B a = none → B' a = none
theorem Step.refl {B H : Hp} (e : Ex B H) : Step B H B H := ⟨Ex.refl B, Ex.refl H, e, fun _ _ h => h⟩
theorem ex_some {H H' : Hp} (e : Ex H H') {a : Addr} (h : H a ≠ none) : H' a ≠ none := by
  cases q : H a with
  | none => exact absurd q h
  | some o => rw [e a o q]; exact fun z => nomatch z
theorem Step.trans {B H B1 H1 B2 H2 : Hp} (s : Step B H B1 H1) (t : Step B1 H1 B2 H2) : Step B H B2 H2 :=
  ⟨s.d.trans t.d, s.h.trans t.h, t.dh, fun a h n => t.fr a (ex_some s.h h) (s.fr a h n)⟩
theorem none_of {B H : Hp} (e : Ex B H) {p : Addr} (h : H p = none) : B p = none := fresh_back e h
/-- a new thing of the data -/
theorem Step.dat {B H : Hp} (e : Ex B H) {p : Addr} (h : H p = none) (o : HO) : Step B H (upd B p o) (upd H p o) := by
  refine ⟨Ex.new (none_of e h), Ex.new h, fun a u q => ?_, fun a ha hb => ?_⟩
  · by_cases z : a = p
    · subst z; rw [upd_same] at q ⊢; exact q
    · rw [upd_ne z] at q ⊢; exact e a u q
  · rw [upd_ne (fun z => ha (by rw [z]; exact h))]
    exact hb
/-- a new list of one's own -/
theorem Step.own {B H : Hp} (e : Ex B H) {p : Addr} (h : H p = none) (o : HO) : Step B H B (upd H p o) :=
  ⟨Ex.refl B, Ex.new h, fun a u q => by rw [upd_ne (ne_of_none (e a u q) h)]; exact e a u q, fun _ _ n => n⟩
/-- it becomes data -/
theorem Step.frz {B H B1 H1 : Hp} (s : Step B H B1 H1) {p : Addr} {o : HO} (h0 : H p = none) (hb : B1 p = none) (h1 : H1 p = some o) : Step B H (upd B1 p o) H1 := by
  refine ⟨s.d.trans (Ex.new hb), s.h, fun a u q => ?_, fun a ha hn => ?_⟩
  · by_cases z : a = p
    · subst z; rw [upd_same] at q; rw [h1]; exact q
    · rw [upd_ne z] at q; exact s.dh a u q
  · rw [upd_ne (fun z => ha (by rw [z]; exact h0))]
    exact s.fr a ha hn

/-- what an expression comes to: data; a new list of one's own; a list of one's own that a name holds; an error of the class at C -/
inductive Rs where
  | ok (d : PyData)
  | new (ds : List PyData)
  | ali (ds : List PyData)
  | exc (C : Addr)
/-- v is r, in the heaps B, H1; H the heap at the start -/
def Vok (K : PySem.W.Frag) (H B H1 : Hp) (v : V) : Rs → Prop
  | .ok d => Dp K B v d
  | .new ds => ∃ a xs, v = .ref a ∧ H a = none ∧ B a = none ∧ H1 a = some (.lst xs) ∧ DpAll K B xs ds
  | .ali ds => ∃ a xs, v = .ref a ∧ H1 a = some (.lst xs) ∧ DpAll K B xs ds
  | .exc _ => False
theorem Vok.mono {K : PySem.W.Frag} {H B H1 B' H' : Hp} {v : V} (s : Step B H1 B' H') : ∀ {r : Rs}, Vok K H B H1 v r → Vok K H B' H' v r
  | .ok _, h => dpM s.d h
  | .new _, ⟨a, xs, e, h0, hb, h1, hd⟩ => ⟨a, xs, e, h0, s.fr a (by rw [h1]; exact fun z => nomatch z) hb, s.h a _ h1, dpsM s.d hd⟩
  | .ali _, ⟨a, xs, e, h1, hd⟩ => ⟨a, xs, e, s.h a _ h1, dpsM s.d hd⟩
theorem Vok.back {K : PySem.W.Frag} {H0 H B H1 : Hp} {v : V} (e : Ex H0 H) : ∀ {r : Rs}, Vok K H B H1 v r → Vok K H0 B H1 v r
  | .ok _, h => h
  | .new _, ⟨a, xs, e1, h0, r⟩ => ⟨a, xs, e1, fresh_back e h0, r⟩
  | .ali _, h => h

/-! ### the names of a frame -/
/-- things of one's own that change: where they lie, what is so of them -/
structure Iv where
  fp : List Addr
  I : Hp → Hp → Prop
  stab : ∀ B H B' H' : Hp, Ex B B' → (∀ a ∈ fp, H' a = H a) → I B H → I B' H'
inductive Cl where
  | dat (d : PyData)
  | own (ds : List PyData)
  | fix (v : V)
  | inv (v : V) (iv : Iv)
abbrev Rho := List (Option Cl)
structure Sl (K : PySem.W.Frag) (H0 B H : Hp) (σ : L2.St) (ρ : Rho) : Prop where
  len : σ.length = ρ.length
  dat : ∀ (i : Nat) (d : PyData), ρ[i]? = some (some (.dat d)) → ∃ v, σ[i]? = some (some v) ∧ Dp K B v d
  own : ∀ (i : Nat) (ds : List PyData), ρ[i]? = some (some (.own ds)) → ∃ a xs, σ[i]? = some (some (.ref a)) ∧ H0 a = none ∧ B a = none ∧ H a = some (.lst xs) ∧ DpAll K B xs ds
  sep : ∀ (i j : Nat) (di dj : List PyData), i ≠ j → ρ[i]? = some (some (.own di)) → ρ[j]? = some (some (.own dj)) → σ[i]? ≠ σ[j]?
  fix : ∀ (i : Nat) (v : V), ρ[i]? = some (some (.fix v)) → σ[i]? = some (some v)
  inv : ∀ (i : Nat) (v : V) (iv : Iv), ρ[i]? = some (some (.inv v iv)) → σ[i]? = some (some v) ∧ iv.I B H ∧ ∀ a ∈ iv.fp, H0 a = none ∧ B a = none ∧ H a ≠ none
  isep : ∀ (i j : Nat) (v : V) (iv : Iv) (ds : List PyData) (b : Addr), ρ[i]? = some (some (.inv v iv)) → ρ[j]? = some (some (.own ds)) → σ[j]? = some (some (.ref b)) → b ∉ iv.fp
  iisep : ∀ (i j : Nat) (v v' : V) (iv iv' : Iv), i ≠ j → ρ[i]? = some (some (.inv v iv)) → ρ[j]? = some (some (.inv v' iv')) → ∀ a ∈ iv.fp, a ∉ iv'.fp
theorem Sl.mono {K : PySem.W.Frag} {H0 B H B' H' : Hp} {σ : L2.St} {ρ : Rho} (s : Sl K H0 B H σ ρ) (t : Step B H B' H') : Sl K H0 B' H' σ ρ where
  len := s.len
  dat := fun i d h => by
    obtain ⟨v, e, q⟩ := s.dat i d h
    exact ⟨v, e, dpM t.d q⟩
  own := fun i ds h => by
    obtain ⟨a, xs, e, h0, hb, h1, q⟩ := s.own i ds h
    exact ⟨a, xs, e, h0, t.fr a (by rw [h1]; exact fun z => nomatch z) hb, t.h a _ h1, dpsM t.d q⟩
  sep := s.sep
  fix := s.fix
  inv := fun i v iv h => by
    obtain ⟨e, f, g⟩ := s.inv i v iv h
    have same : ∀ a ∈ iv.fp, H' a = H a := fun a ha => by
      cases q : H a with
      | none => exact absurd q (g a ha).2.2
      | some o => exact t.h a o q
    exact ⟨e, iv.stab _ _ _ _ t.d same f, fun a ha => ⟨(g a ha).1, t.fr a (g a ha).2.2 (g a ha).2.1, by rw [same a ha]; exact (g a ha).2.2⟩⟩
  isep := s.isep
  iisep := s.iisep
theorem set_get {α : Type} {l : List (Option α)} {i j : Nat} {x : Option α} {y : α} (h : (l.set i x)[j]? = some (some y)) : (i = j ∧ x = some y) ∨ (i ≠ j ∧ l[j]? = some (some y)) := by
  by_cases e : i = j
  · subst e
    by_cases hi : i < l.length
    · rw [List.getElem?_set_self hi] at h
      exact .inl ⟨rfl, Option.some.inj h⟩
    · rw [List.getElem?_eq_none (by simpa using hi)] at h
      cases h
  · rw [List.getElem?_set_ne e] at h
    exact .inr ⟨e, h⟩
theorem lt_of_get {α : Type} {l : List (Option α)} {j : Nat} {y : Option α} (h : l[j]? = some y) : j < l.length := by
  obtain ⟨q, _⟩ := List.getElem?_eq_some_iff.mp h
  exact q
theorem set_lt {α : Type} {l : List (Option α)} {i j : Nat} {x : Option α} {y : α} (h : (l.set i x)[j]? = some (some y)) : j < l.length := by
  have q := lt_of_get h
  simpa using q
/-- a name is given data -/
theorem Sl.setD {K : PySem.W.Frag} {H0 B H : Hp} {σ : L2.St} {ρ : Rho} (s : Sl K H0 B H σ ρ) (i : Nat) {v : V} {d : PyData} (hv : Dp K B v d) : Sl K H0 B H (σ.set i (some v)) (ρ.set i (some (.dat d))) where
  len := by rw [List.length_set, List.length_set, s.len]
  dat := fun j e h => by
    rcases set_get h with ⟨rfl, q⟩ | ⟨n, q⟩
    · cases q
      have hl := set_lt h
      rw [← s.len] at hl
      exact ⟨v, List.getElem?_set_self hl, hv⟩
    · rw [List.getElem?_set_ne n]
      exact s.dat j e q
  own := fun j ds h => by
    rcases set_get h with ⟨rfl, q⟩ | ⟨n, q⟩
    · cases q
    · rw [List.getElem?_set_ne n]
      exact s.own j ds q
  sep := fun j k dj dk hjk hj hk => by
    rcases set_get hj with ⟨rfl, q⟩ | ⟨n, q⟩
    · cases q
    · rcases set_get hk with ⟨rfl, q'⟩ | ⟨n', q'⟩
      · cases q'
      · rw [List.getElem?_set_ne n, List.getElem?_set_ne n']
        exact s.sep j k dj dk hjk q q'
  fix := fun j u h => by
    rcases set_get h with ⟨rfl, q⟩ | ⟨n, q⟩
    · cases q
    · rw [List.getElem?_set_ne n]
      exact s.fix j u q
  inv := fun j u iv h => by
    rcases set_get h with ⟨rfl, q⟩ | ⟨n, q⟩
    · cases q
    · rw [List.getElem?_set_ne n]
      exact s.inv j u iv q
  isep := fun j k u iv es b hj hk hb => by
    rcases set_get hj with ⟨rfl, q⟩ | ⟨n, q⟩
    · cases q
    · rcases set_get hk with ⟨rfl, q'⟩ | ⟨n', q'⟩
      · cases q'
      · rw [List.getElem?_set_ne n'] at hb
        exact s.isep j k u iv es b q q' hb
  iisep := fun j k u u' iv iv' hjk hj hk => by
    rcases set_get hj with ⟨rfl, q⟩ | ⟨n, q⟩
    · cases q
    · rcases set_get hk with ⟨rfl, q'⟩ | ⟨n', q'⟩
      · cases q'
      · exact s.iisep j k u u' iv iv' hjk q q'
/-- a name is given a list of its own -/
theorem Sl.setN {K : PySem.W.Frag} {H0 B H : Hp} {σ : L2.St} {ρ : Rho} (s : Sl K H0 B H σ ρ) (i : Nat) {a : Addr} {xs : List V} {ds : List PyData} (h0 : H0 a = none) (hb : B a = none) (h1 : H a = some (.lst xs)) (hd : DpAll K B xs ds)
    (nw : ∀ (j : Nat) (dj : List PyData), ρ[j]? = some (some (.own dj)) → σ[j]? ≠ some (some (.ref a))) (nwI : ∀ (j : Nat) (u : V) (iv : Iv), ρ[j]? = some (some (.inv u iv)) → a ∉ iv.fp) : Sl K H0 B H (σ.set i (some (.ref a))) (ρ.set i (some (.own ds))) where
  len := by rw [List.length_set, List.length_set, s.len]
  dat := fun j e h => by
    rcases set_get h with ⟨rfl, q⟩ | ⟨n, q⟩
    · cases q
    · rw [List.getElem?_set_ne n]
      exact s.dat j e q
  own := fun j es h => by
    rcases set_get h with ⟨rfl, q⟩ | ⟨n, q⟩
    · cases q
      have hl := set_lt h
      rw [← s.len] at hl
      exact ⟨a, xs, List.getElem?_set_self hl, h0, hb, h1, hd⟩
    · rw [List.getElem?_set_ne n]
      exact s.own j es q
  sep := fun j k dj dk hjk hj hk => by
    rcases set_get hj with ⟨rfl, q⟩ | ⟨n, q⟩
    · rcases set_get hk with ⟨rfl, q'⟩ | ⟨n', q'⟩
      · exact absurd rfl hjk
      · have hl := set_lt hj
        rw [← s.len] at hl
        rw [List.getElem?_set_self hl, List.getElem?_set_ne n']
        exact fun z => nw k dk q' z.symm
    · rcases set_get hk with ⟨rfl, q'⟩ | ⟨n', q'⟩
      · have hl := set_lt hk
        rw [← s.len] at hl
        rw [List.getElem?_set_self hl, List.getElem?_set_ne n]
        exact nw j dj q
      · rw [List.getElem?_set_ne n, List.getElem?_set_ne n']
        exact s.sep j k dj dk hjk q q'
  fix := fun j u h => by
    rcases set_get h with ⟨rfl, q⟩ | ⟨n, q⟩
    · cases q
    · rw [List.getElem?_set_ne n]
      exact s.fix j u q
  inv := fun j u iv h => by
    rcases set_get h with ⟨rfl, q⟩ | ⟨n, q⟩
    · cases q
    · rw [List.getElem?_set_ne n]
      exact s.inv j u iv q
  isep := fun j k u iv es b hj hk hb => by
    rcases set_get hj with ⟨rfl, q⟩ | ⟨n, q⟩
    · cases q
    · rcases set_get hk with ⟨rfl, q'⟩ | ⟨n', q'⟩
      · have hl := set_lt hk
        rw [← s.len] at hl
        rw [List.getElem?_set_self hl] at hb
        cases hb
        exact nwI j u iv q
      · rw [List.getElem?_set_ne n'] at hb
        exact s.isep j k u iv es b q q' hb
  iisep := fun j k u u' iv iv' hjk hj hk => by
    rcases set_get hj with ⟨rfl, q⟩ | ⟨n, q⟩
    · cases q
    · rcases set_get hk with ⟨rfl, q'⟩ | ⟨n', q'⟩
      · cases q'
      · exact s.iisep j k u u' iv iv' hjk q q'
/-- a name is forgotten -/
theorem Sl.forget {K : PySem.W.Frag} {H0 B H : Hp} {σ : L2.St} {ρ : Rho} (s : Sl K H0 B H σ ρ) (i : Nat) {x : Option V} : Sl K H0 B H (σ.set i x) (ρ.set i none) where
  len := by rw [List.length_set, List.length_set, s.len]
  dat := fun j e h => by
    rcases set_get h with ⟨rfl, q⟩ | ⟨n, q⟩
    · cases q
    · rw [List.getElem?_set_ne n]
      exact s.dat j e q
  own := fun j ds h => by
    rcases set_get h with ⟨rfl, q⟩ | ⟨n, q⟩
    · cases q
    · rw [List.getElem?_set_ne n]
      exact s.own j ds q
  sep := fun j k dj dk hjk hj hk => by
    rcases set_get hj with ⟨rfl, q⟩ | ⟨n, q⟩
    · cases q
    · rcases set_get hk with ⟨rfl, q'⟩ | ⟨n', q'⟩
      · cases q'
      · rw [List.getElem?_set_ne n, List.getElem?_set_ne n']
        exact s.sep j k dj dk hjk q q'
  fix := fun j u h => by
    rcases set_get h with ⟨rfl, q⟩ | ⟨n, q⟩
    · cases q
    · rw [List.getElem?_set_ne n]
      exact s.fix j u q
  inv := fun j u iv h => by
    rcases set_get h with ⟨rfl, q⟩ | ⟨n, q⟩
    · cases q
    · rw [List.getElem?_set_ne n]
      exact s.inv j u iv q
  isep := fun j k u iv es b hj hk hb => by
    rcases set_get hj with ⟨rfl, q⟩ | ⟨n, q⟩
    · cases q
    · rcases set_get hk with ⟨rfl, q'⟩ | ⟨n', q'⟩
      · cases q'
      · rw [List.getElem?_set_ne n'] at hb
        exact s.isep j k u iv es b q q' hb
  iisep := fun j k u u' iv iv' hjk hj hk => by
    rcases set_get hj with ⟨rfl, q⟩ | ⟨n, q⟩
    · cases q
    · rcases set_get hk with ⟨rfl, q'⟩ | ⟨n', q'⟩
      · cases q'
      · exact s.iisep j k u u' iv iv' hjk q q'
def wipeR (ρ : Rho) : List Nat → Rho
  | [] => ρ
  | v :: vs => (wipeR ρ vs).set v none
theorem Sl.wipe {K : PySem.W.Frag} {H0 B H : Hp} {σ : L2.St} {ρ : Rho} (s : Sl K H0 B H σ ρ) : ∀ vs : List Nat, Sl K H0 B H (L2.wipe σ vs) (wipeR ρ vs)
  | [] => s
  | v :: vs => (Sl.wipe s vs).forget v
/-- the own list in slot i becomes data -/
theorem Sl.freeze {K : PySem.W.Frag} {H0 B H : Hp} {σ : L2.St} {ρ : Rho} (s : Sl K H0 B H σ ρ) {i : Nat} {ds : List PyData} (hi : ρ[i]? = some (some (.own ds))) {a : Addr} {xs : List V} (ha : σ[i]? = some (some (.ref a))) (hb : B a = none) (h1 : H a = some (.lst xs)) (hd : DpAll K B xs ds) :
    Sl K H0 (upd B a (.lst xs)) H σ (ρ.set i (some (.dat (.list ds)))) where
  len := by rw [List.length_set, s.len]
  dat := fun j e h => by
    have ex : Ex B (upd B a (.lst xs)) := Ex.new hb
    rcases set_get h with ⟨rfl, q⟩ | ⟨n, q⟩
    · cases q
      exact ⟨.ref a, ha, .lst (.inl (.inl upd_same)) (dpsM ex hd)⟩
    · obtain ⟨v, e1, e2⟩ := s.dat j e q
      exact ⟨v, e1, dpM ex e2⟩
  own := fun j es h => by
    have ex : Ex B (upd B a (.lst xs)) := Ex.new hb
    rcases set_get h with ⟨rfl, q⟩ | ⟨n, q⟩
    · cases q
    · obtain ⟨b, ys, e1, e2, e3, e4, e5⟩ := s.own j es q
      refine ⟨b, ys, e1, e2, ?_, e4, dpsM ex e5⟩
      rw [upd_ne (fun z => ?_)]
      · exact e3
      · subst z
        exact s.sep i j ds es n hi q (by rw [ha, e1])
  sep := fun j k dj dk hjk hj hk => by
    rcases set_get hj with ⟨rfl, q⟩ | ⟨n, q⟩
    · cases q
    · rcases set_get hk with ⟨rfl, q'⟩ | ⟨n', q'⟩
      · cases q'
      · exact s.sep j k dj dk hjk q q'
  fix := fun j u h => by
    rcases set_get h with ⟨rfl, q⟩ | ⟨n, q⟩
    · cases q
    · exact s.fix j u q
  inv := fun j u iv h => by
    rcases set_get h with ⟨rfl, q⟩ | ⟨n, q⟩
    · cases q
    · obtain ⟨e1, e2, e3⟩ := s.inv j u iv q
      have na := s.isep j i u iv ds a q hi ha
      refine ⟨e1, iv.stab _ _ _ _ (Ex.new hb) (fun _ _ => rfl) e2, fun b hb' => ⟨(e3 b hb').1, ?_, (e3 b hb').2.2⟩⟩
      rw [upd_ne (fun z : b = a => na (z ▸ hb'))]
      exact (e3 b hb').2.1
  isep := fun j k u iv es b hj hk hb => by
    rcases set_get hj with ⟨rfl, q⟩ | ⟨n, q⟩
    · cases q
    · rcases set_get hk with ⟨rfl, q'⟩ | ⟨n', q'⟩
      · cases q'
      · exact s.isep j k u iv es b q q' hb
  iisep := fun j k u u' iv iv' hjk hj hk => by
    rcases set_get hj with ⟨rfl, q⟩ | ⟨n, q⟩
    · cases q
    · rcases set_get hk with ⟨rfl, q'⟩ | ⟨n', q'⟩
      · cases q'
      · exact s.iisep j k u u' iv iv' hjk q q'
/-- an item is put behind the own list in slot i -/
theorem Sl.push {K : PySem.W.Frag} {H0 B H : Hp} {σ : L2.St} {ρ : Rho} (s : Sl K H0 B H σ ρ) {i : Nat} {ds : List PyData} (hi : ρ[i]? = some (some (.own ds))) {a : Addr} {xs : List V} {v : V} {d : PyData} (ha : σ[i]? = some (some (.ref a))) (h0 : H0 a = Option.none) (hb : B a = Option.none) (hd : DpAll K B xs ds) (hv : Dp K B v d) :
    Sl K H0 B (upd H a (.lst (xs ++ [v]))) σ (ρ.set i (some (.own (ds ++ [d])))) where
  len := by rw [List.length_set, s.len]
  dat := fun j e h => by
    rcases set_get h with ⟨rfl, q⟩ | ⟨n, q⟩
    · cases q
    · exact s.dat j e q
  own := fun j es h => by
    rcases set_get h with ⟨rfl, q⟩ | ⟨n, q⟩
    · cases q
      exact ⟨a, _, ha, h0, hb, upd_same, dps_app hd (.cons hv .nil)⟩
    · obtain ⟨b, ys, e1, e2, e3, e4, e5⟩ := s.own j es q
      refine ⟨b, ys, e1, e2, e3, ?_, e5⟩
      rw [upd_ne (fun z => ?_)]
      · exact e4
      · subst z
        exact s.sep i j ds es n hi q (by rw [ha, e1])
  sep := fun j k dj dk hjk hj hk => by
    have inv : ∀ {m : Nat} {dm : List PyData}, (ρ.set i (some (Cl.own (ds ++ [d]))))[m]? = some (some (.own dm)) → ∃ dm', ρ[m]? = some (some (.own dm')) := fun {m dm} h => by
      rcases set_get h with ⟨rfl, _⟩ | ⟨_, q⟩
      · exact ⟨ds, hi⟩
      · exact ⟨dm, q⟩
    obtain ⟨dj', qj⟩ := inv hj
    obtain ⟨dk', qk⟩ := inv hk
    exact s.sep j k dj' dk' hjk qj qk
  fix := fun j u h => by
    rcases set_get h with ⟨rfl, q⟩ | ⟨n, q⟩
    · cases q
    · exact s.fix j u q
  inv := fun j u iv h => by
    rcases set_get h with ⟨rfl, q⟩ | ⟨n, q⟩
    · cases q
    · obtain ⟨e1, e2, e3⟩ := s.inv j u iv q
      have na := s.isep j i u iv ds a q hi ha
      have same : ∀ b ∈ iv.fp, (upd H a (.lst (xs ++ [v]))) b = H b := fun b hb' => upd_ne (fun z : b = a => na (z ▸ hb'))
      exact ⟨e1, iv.stab _ _ _ _ (Ex.refl B) same e2, fun b hb' => ⟨(e3 b hb').1, (e3 b hb').2.1, by rw [same b hb']; exact (e3 b hb').2.2⟩⟩
  isep := fun j k u iv es b hj hk hb => by
    rcases set_get hj with ⟨rfl, q⟩ | ⟨n, q⟩
    · cases q
    · rcases set_get hk with ⟨rfl, q'⟩ | ⟨n', q'⟩
      · exact s.isep j i u iv ds b q hi hb
      · exact s.isep j k u iv es b q q' hb
  iisep := fun j k u u' iv iv' hjk hj hk => by
    rcases set_get hj with ⟨rfl, q⟩ | ⟨n, q⟩
    · cases q
    · rcases set_get hk with ⟨rfl, q'⟩ | ⟨n', q'⟩
      · cases q'
      · exact s.iisep j k u u' iv iv' hjk q q'
/-- less known -/
theorem Sl.weak {K : PySem.W.Frag} {H0 B H : Hp} {σ : L2.St} {ρ ρ' : Rho} (s : Sl K H0 B H σ ρ) (hl : ρ'.length = ρ.length) (hw : ∀ (i : Nat) c, ρ'[i]? = some (some c) → ρ[i]? = some (some c)) : Sl K H0 B H σ ρ' where
  len := by rw [hl, s.len]
  dat := fun i d h => s.dat i d (hw i _ h)
  own := fun i ds h => s.own i ds (hw i _ h)
  sep := fun i j di dj hij h1 h2 => s.sep i j di dj hij (hw i _ h1) (hw j _ h2)
  fix := fun i v h => s.fix i v (hw i _ h)
  inv := fun i v iv h => s.inv i v iv (hw i _ h)
  isep := fun i j v iv ds b h1 h2 => s.isep i j v iv ds b (hw i _ h1) (hw j _ h2)
  iisep := fun i j v v' iv iv' h h1 h2 => s.iisep i j v v' iv iv' h (hw i _ h1) (hw j _ h2)

/-! ### expressions -/
structure Fin (K : PySem.W.Frag) (E : XK) (B H : Hp) (r : Rs) (Q : VK) : Prop where
  go : ∀ v B' H', Step B H B' H' → Vok K H B' H' v r → Q v H'
  up : ∀ C, r = .exc C → ∀ B' H', Step B H B' H' → ∀ d, d = none → E (.ref C) d H'
def GE (K : PySem.W.Frag) (E : XK) (te : TE) (ρ : Rho) (r : Rs) : Prop := ∀ H0 B H σ, Ex B H → Sl K H0 B H σ ρ → ∀ Q, Fin K E B H r Q → te σ H Q
def GA (K : PySem.W.Frag) (E : XK) (ta : TA) (ρ : Rho) (ds : List PyData) : Prop := ∀ H0 B H σ, Ex B H → Sl K H0 B H σ ρ → ∀ Q : List V → Hp → Prop, (∀ vs B' H', Step B H B' H' → DpAll K B' vs ds → Q vs H') → ta σ H Q
/-- an argument raises -/
def GAx (K : PySem.W.Frag) (E : XK) (ta : TA) (ρ : Rho) (C : Addr) : Prop := ∀ H0 B H σ, Ex B H → Sl K H0 B H σ ρ → ∀ Q : List V → Hp → Prop, (∀ B' H', Step B H B' H' → ∀ d, d = none → E (.ref C) d H') → ta σ H Q
def GT (K : PySem.W.Frag) (E : XK) (tc : TT) (ρ : Rho) (b : Bool) : Prop := ∀ H0 B H σ, Ex B H → Sl K H0 B H σ ρ → ∀ Q : Bool → Hp → Prop, (∀ B' H', Step B H B' H' → Q b H') → tc σ H Q
section
variable {K : PySem.W.Frag} {E : XK} {B H : Hp} {Q : VK} {ρ : Rho} {ta tb te : TE} {x y z d : PyData} {ds es : List PyData} {r : Rs}
theorem fin_ok (h : ∀ v B' H', Step B H B' H' → Dp K B' v d → Q v H') : Fin K E B H (.ok d) Q := ⟨h, fun _ e => nomatch e⟩
theorem fin_new (h : ∀ v B' H', Step B H B' H' → Vok K H B' H' v (.new ds) → Q v H') : Fin K E B H (.new ds) Q := ⟨h, fun _ e => nomatch e⟩
theorem fin_ali (h : ∀ v B' H', Step B H B' H' → Vok K H B' H' v (.ali ds) → Q v H') : Fin K E B H (.ali ds) Q := ⟨h, fun _ e => nomatch e⟩
theorem fin_exc {C : Addr} (h : ∀ B' H', Step B H B' H' → ∀ d, d = none → E (.ref C) d H') : Fin K E B H (.exc C) Q := ⟨fun _ _ _ _ f => f.elim, fun C' e B' H' s d => by cases e; exact h B' H' s d⟩
theorem Fin.back {B1 H1 : Hp} (s : Step B H B1 H1) (q : Fin K E B H r Q) : Fin K E B1 H1 r Q :=
  ⟨fun v B' H' t f => q.go v B' H' (s.trans t) (f.back s.h), fun C e B' H' t d => q.up C e B' H' (s.trans t) d⟩
theorem GE.var {i : Nat} (h : ρ[i]? = some (some (.dat d))) : GE K E (tVar i) ρ (.ok d) := fun H0 B H σ bh s Q q => by
  obtain ⟨v, e, f⟩ := s.dat i d h
  exact ⟨v, e, q.go v B H (.refl bh) f⟩
theorem GE.own {i : Nat} (h : ρ[i]? = some (some (.own ds))) : GE K E (tVar i) ρ (.ali ds) := fun H0 B H σ bh s Q q => by
  obtain ⟨a, xs, e, h0, hb, h1, f⟩ := s.own i ds h
  exact ⟨.ref a, e, q.go _ B H (.refl bh) ⟨a, xs, rfl, h1, f⟩⟩
theorem GE.c {v : V} (h : ∀ B, Dp K B v d) : GE K E (tC v) ρ (.ok d) := fun H0 B H σ bh s Q q => q.go v B H (.refl bh) (h B)
theorem GE.int {i : Int} : GE K E (tC (.int i)) ρ (.ok (.int i)) := GE.c fun _ => .int i
theorem GE.str {x : Str} : GE K E (tC (.str x)) ρ (.ok (.str x)) := GE.c fun _ => .str x
theorem GE.bool {b : Bool} : GE K E (tC (.bl b)) ρ (.ok (.bool b)) := GE.c fun _ => .bl b
theorem GE.non : GE K E (tC .non) ρ (.ok .none) := GE.c fun _ => .non
/-- a new list becomes data -/
theorem GE.frz (h : GE K E te ρ (.new ds)) : GE K E te ρ (.ok (.list ds)) := fun H0 B H σ bh s Q q => h H0 B H σ bh s Q (fin_new fun v B' H' t f => by
  obtain ⟨a, xs, rfl, h0, hb, h1, hd⟩ := f
  exact q.go _ _ H' (t.frz h0 hb h1) (.lst (.inl (.inl upd_same)) (dpsM (Ex.new hb) hd)))
/-- two values by a rule that makes nothing -/
def RD (K : PySem.W.Frag) (r : R2) (x y z : PyData) : Prop := ∀ B v w, Dp K B v x → Dp K B w y → ∀ H, Ex B H → ∀ Q : VK, (∀ u, Dp K B u z → Q u H) → r v w H Q
theorem GE.op {r : R2} (ha : GE K E ta ρ (.ok x)) (hb : GE K E tb ρ (.ok y)) (hr : RD K r x y z) : GE K E (tOp r ta tb) ρ (.ok z) := fun H0 B H σ bh s Q q =>
  ha H0 B H σ bh s _ (fin_ok fun v B1 H1 s1 d1 => hb H0 B1 H1 σ s1.dh (s.mono s1) _ (fin_ok fun w B2 H2 s2 d2 =>
    hr B2 v w (dpM s2.d d1) d2 H2 s2.dh Q fun u du => q.go u B2 H2 (s1.trans s2) du))
theorem rd_int {g : Int → Int → Int} {i j : Int} : RD K (rI0 fun i j => .int (g i j)) (.int i) (.int j) (.int (g i j)) := fun B v w h1 h2 H bh Q q => by
  cases h1; cases h2
  exact ⟨i, j, rfl, rfl, q _ (.int _)⟩
theorem rd_bl {g : Int → Int → Bool} {i j : Int} : RD K (rI0 fun i j => .bl (g i j)) (.int i) (.int j) (.bool (g i j)) := fun B v w h1 h2 H bh Q q => by
  cases h1; cases h2
  exact ⟨i, j, rfl, rfl, q _ (.bl _)⟩
theorem rd_intC {C : Int → Int → Prop} {g : Int → Int → Int} {i j : Int} (c : C i j) : RD K (rI C fun i j => .int (g i j)) (.int i) (.int j) (.int (g i j)) := fun B v w h1 h2 H bh Q q => by
  cases h1; cases h2
  exact ⟨i, j, rfl, rfl, c, q _ (.int _)⟩
theorem dec_int {i j : Int} : decide ((V.int i) = V.int j) = decide (i = j) := by
  by_cases h : i = j
  · subst h; rw [decide_eq_true rfl, decide_eq_true rfl]
  · rw [decide_eq_false h, decide_eq_false fun z => h (V.int.inj z)]
theorem dec_str {i j : Str} : decide ((V.str i) = V.str j) = decide (i = j) := by
  by_cases h : i = j
  · subst h; rw [decide_eq_true rfl, decide_eq_true rfl]
  · rw [decide_eq_false h, decide_eq_false fun z => h (V.str.inj z)]
theorem rd_eqI {i j : Int} : RD K rEq (.int i) (.int j) (.bool (decide (i = j))) := fun B v w h1 h2 H bh Q q => by
  cases h1; cases h2
  exact ⟨rfl, by rw [dec_int]; exact q _ (.bl _)⟩
theorem rd_neI {i j : Int} : RD K rNe (.int i) (.int j) (.bool (!decide (i = j))) := fun B v w h1 h2 H bh Q q => by
  cases h1; cases h2
  exact ⟨rfl, by rw [dec_int]; exact q _ (.bl _)⟩
theorem rd_eqS {i j : Str} : RD K rEq (.str i) (.str j) (.bool (decide (i = j))) := fun B v w h1 h2 H bh Q q => by
  cases h1; cases h2
  exact ⟨rfl, by rw [dec_str]; exact q _ (.bl _)⟩
theorem rd_neS {i j : Str} : RD K rNe (.str i) (.str j) (.bool (!decide (i = j))) := fun B v w h1 h2 H bh Q q => by
  cases h1; cases h2
  exact ⟨rfl, by rw [dec_str]; exact q _ (.bl _)⟩
theorem rd_neNI {j : Int} : RD K rNe .none (.int j) (.bool true) := fun B v w h1 h2 H bh Q q => by
  cases h1; cases h2
  exact ⟨rfl, q _ (.bl _)⟩
def rIsN : R2 := fun x y H Q => y = .non ∧ Q (.bl (decide (x = .non))) H
def rNoN : R2 := fun x y H Q => y = .non ∧ Q (.bl (!decide (x = .non))) H
theorem op_isN' {X : Cx} : OpR X (compareOp .Is) rIsN := op_isN
theorem op_noN' {X : Cx} : OpR X (compareOp .IsNot) rNoN := op_notN
def isNone : PyData → Bool
  | .none => true
  | _ => false
theorem dp_none {v : V} (h : Dp K B v d) : decide (v = .non) = isNone d := by
  cases h <;> rfl
theorem rd_isN : RD K rIsN x .none (.bool (isNone x)) := fun B v w h1 h2 H bh Q q => by
  cases h2
  exact ⟨rfl, by rw [dp_none h1]; exact q _ (.bl _)⟩
theorem rd_noN : RD K rNoN x .none (.bool (!isNone x)) := fun B v w h1 h2 H bh Q q => by
  cases h2
  exact ⟨rfl, by rw [dp_none h1]; exact q _ (.bl _)⟩
theorem rd_eqD (hx : SeqAt.shaped x = true) (hy : SeqAt.shaped y = true) : RD K (rEqD K) x y (.bool (PyData.eqv x y)) := fun B v w h1 h2 H bh Q q =>
  ⟨x, y, dpM bh h1, dpM bh h2, hx, hy, q _ (.bl _)⟩
theorem rd_neD (hx : SeqAt.shaped x = true) (hy : SeqAt.shaped y = true) : RD K (rNeD K) x y (.bool (!PyData.eqv x y)) := fun B v w h1 h2 H bh Q q =>
  ⟨x, y, dpM bh h1, dpM bh h2, hx, hy, q _ (.bl _)⟩
theorem rd_ixT {i : Int} (h : atI ds i = some d) : RD K (rIxT K) (.tuple ds) (.int i) d := fun B v w h1 h2 H bh Q q => by
  cases h2
  cases h1 with
  | tup hs ha =>
    obtain ⟨u, e, f⟩ := dps_at ha h
    exact ⟨_, _, i, u, rfl, rfl, ex_t bh hs, e, q u f⟩
theorem GE.un {g : Int → Int} {i : Int} (h : GE K E ta ρ (.ok (.int i))) : GE K E (tUn (rU fun i => .int (g i)) ta) ρ (.ok (.int (g i))) := fun H0 B H σ bh s Q q =>
  h H0 B H σ bh s _ (fin_ok fun v B1 H1 s1 d1 => by
    cases d1
    exact ⟨i, rfl, q.go _ B1 H1 s1 (.int _)⟩)

/-! ### lists and tuples read -/
inductive IsLs : Rs → List PyData → Prop
  | ok (ds : List PyData) : IsLs (.ok (.list ds)) ds
  | new (ds : List PyData) : IsLs (.new ds) ds
  | ali (ds : List PyData) : IsLs (.ali ds) ds
inductive IsSq : Rs → List PyData → Prop
  | ls {r : Rs} {ds : List PyData} (h : IsLs r ds) : IsSq r ds
  | tup (ds : List PyData) : IsSq (.ok (.tuple ds)) ds
inductive IsOw : Rs → List PyData → Prop
  | new (ds : List PyData) : IsOw (.new ds) ds
  | ali (ds : List PyData) : IsOw (.ali ds) ds
theorem ls_at {H0 H1 : Hp} {v : V} (i : IsLs r ds) (bh : Ex B H) (f : Vok K H0 B H v r) : ∃ a xs, v = .ref a ∧ SqL K H a xs ∧ DpAll K B xs ds := by
  cases i with
  | ok =>
    cases f with
    | lst hs ha => exact ⟨_, _, rfl, ex_l bh hs, ha⟩
  | new =>
    obtain ⟨a, xs, e, h0, hb, h1, hd⟩ := f
    exact ⟨a, xs, e, .inl (.inl h1), hd⟩
  | ali =>
    obtain ⟨a, xs, e, h1, hd⟩ := f
    exact ⟨a, xs, e, .inl (.inl h1), hd⟩
theorem sq_at {H0 : Hp} {v : V} (i : IsSq r ds) (bh : Ex B H) (f : Vok K H0 B H v r) : ∃ a xs, v = .ref a ∧ (SqL K H a xs ∨ SqT K H a xs) ∧ DpAll K B xs ds := by
  cases i with
  | ls h =>
    obtain ⟨a, xs, e, hs, ha⟩ := ls_at (H1 := H) h bh f
    exact ⟨a, xs, e, .inl hs, ha⟩
  | tup =>
    cases f with
    | tup hs ha => exact ⟨_, _, rfl, .inr (ex_t bh hs), ha⟩
theorem ow_at {H0 : Hp} {v : V} (i : IsOw r ds) (f : Vok K H0 B H v r) : ∃ a xs, v = .ref a ∧ H a = some (.lst xs) ∧ DpAll K B xs ds := by
  cases i with
  | new =>
    obtain ⟨a, xs, e, h0, hb, h1, hd⟩ := f
    exact ⟨a, xs, e, h1, hd⟩
  | ali => exact f
theorem IsLs.fin (i : IsLs r ds) (h : ∀ v B' H', Step B H B' H' → Vok K H B' H' v r → Q v H') : Fin K E B H r Q := ⟨h, fun C e => by cases i <;> cases e⟩
theorem IsSq.fin (i : IsSq r ds) (h : ∀ v B' H', Step B H B' H' → Vok K H B' H' v r → Q v H') : Fin K E B H r Q := ⟨h, fun C e => by
  cases i with
  | ls i => cases i <;> cases e
  | tup => cases e⟩
theorem IsOw.fin (i : IsOw r ds) (h : ∀ v B' H', Step B H B' H' → Vok K H B' H' v r → Q v H') : Fin K E B H r Q := ⟨h, fun C e => by cases i <;> cases e⟩
theorem GE.ixL {i : Int} (ha : GE K E ta ρ r) (hl : IsLs r ds) (hb : GE K E tb ρ (.ok (.int i))) (h : atI ds i = some d) : GE K E (tOp (rIxL K) ta tb) ρ (.ok d) := fun H0 B H σ bh s Q q =>
  ha H0 B H σ bh s _ (hl.fin fun v B1 H1 s1 d1 => hb H0 B1 H1 σ s1.dh (s.mono s1) _ (fin_ok fun w B2 H2 s2 d2 => by
    cases d2
    obtain ⟨a, xs, rfl, hs, hd⟩ := ls_at (H1 := H) hl s2.dh (d1.mono s2)
    obtain ⟨u, e, f⟩ := dps_at hd h
    exact ⟨a, xs, i, u, rfl, rfl, hs, e, q.go u B2 H2 (s1.trans s2) f⟩))
theorem GE.ixT {i : Int} (ha : GE K E ta ρ (.ok (.tuple ds))) (hb : GE K E tb ρ (.ok (.int i))) (h : atI ds i = some d) : GE K E (tOp (rIxT K) ta tb) ρ (.ok d) := GE.op ha hb (rd_ixT h)
theorem GE.cat {r1 r2 : Rs} (ha : GE K E ta ρ r1) (h1 : IsOw r1 ds) (hb : GE K E tb ρ r2) (h2 : IsOw r2 es) (hz : ds.length + es.length ≤ 100000) : GE K E (tOp rCat ta tb) ρ (.new (ds ++ es)) := fun H0 B H σ bh s Q q =>
  ha H0 B H σ bh s _ (h1.fin fun v B1 H1 s1 d1 => hb H0 B1 H1 σ s1.dh (s.mono s1) _ (h2.fin fun w B2 H2 s2 d2 => by
    obtain ⟨a, xs, rfl, e1, f1⟩ := ow_at h1 (d1.mono s2)
    obtain ⟨b, ys, rfl, e2, f2⟩ := ow_at h2 d2
    refine ⟨a, b, xs, ys, rfl, rfl, e1, e2, Evl.sz_of (by rw [dps_len f1, dps_len f2]; exact hz), fun p hp => ?_⟩
    have s3 := s1.trans s2
    exact q.go _ B2 _ (s3.trans (.own s2.dh hp _)) ⟨p, _, rfl, fresh_back s3.h hp, none_of s2.dh hp, upd_same, dps_app f1 f2⟩))
theorem GE.rep {k : Int} {r1 : Rs} (ha : GE K E ta ρ r1) (h1 : IsOw r1 ds) (hb : GE K E tb ρ (.ok (.int k))) (hk : -100000 ≤ k ∧ k ≤ 100000) (hz : ds.length * k.toNat ≤ 100000) : GE K E (tOp rRep ta tb) ρ (.new (List.replicate k.toNat ds).flatten) := fun H0 B H σ bh s Q q =>
  ha H0 B H σ bh s _ (h1.fin fun v B1 H1 s1 d1 => hb H0 B1 H1 σ s1.dh (s.mono s1) _ (fin_ok fun w B2 H2 s2 d2 => by
    cases d2
    obtain ⟨a, xs, rfl, e1, f1⟩ := ow_at h1 (d1.mono s2)
    refine ⟨a, k, xs, rfl, rfl, e1, by omega, by omega, Evl.sz_of (by rw [dps_len f1]; exact hz), fun p hp => ?_⟩
    have s3 := s1.trans s2
    exact q.go _ B2 _ (s3.trans (.own s2.dh hp _)) ⟨p, _, rfl, fresh_back s3.h hp, none_of s2.dh hp, upd_same, dps_flat f1 _⟩))

/-! ### arguments, displays -/
theorem GA.nil : GA K E tNil ρ [] := fun H0 B H σ bh s Q q => q [] B H (.refl bh) .nil
theorem GA.cons {ts : TA} (h : GE K E te ρ (.ok d)) (ht : GA K E ts ρ ds) : GA K E (tCons te ts) ρ (d :: ds) := fun H0 B H σ bh s Q q =>
  h H0 B H σ bh s _ (fin_ok fun v B1 H1 s1 d1 => ht H0 B1 H1 σ s1.dh (s.mono s1) _ fun vs B2 H2 s2 d2 => q (v :: vs) B2 H2 (s1.trans s2) (.cons (dpM s2.d d1) d2))
theorem GAx.here {ts : TA} {C : Addr} (h : GE K E te ρ (.exc C)) : GAx K E (tCons te ts) ρ C := fun H0 B H σ bh s Q q => h H0 B H σ bh s _ (fin_exc q)
theorem GAx.there {ts : TA} {C : Addr} (h : GE K E te ρ (.ok d)) (ht : GAx K E ts ρ C) : GAx K E (tCons te ts) ρ C := fun H0 B H σ bh s Q q =>
  h H0 B H σ bh s _ (fin_ok fun v B1 H1 s1 d1 => ht H0 B1 H1 σ s1.dh (s.mono s1) _ fun B2 H2 s2 => q B2 H2 (s1.trans s2))
theorem GE.tup {ts : TA} (h : GA K E ts ρ ds) (hz : ds.length ≤ 1000) : GE K E (tTup ts) ρ (.ok (.tuple ds)) := fun H0 B H σ bh s Q q =>
  h H0 B H σ bh s _ fun vs B1 H1 s1 d1 => ⟨Evl.sz_of (by rw [dps_len d1]; omega), fun p hp => q.go _ _ _ (s1.trans (.dat s1.dh hp (.tup vs))) (.tup (.inl (.inl upd_same)) (dpsM (Ex.new (none_of s1.dh hp)) d1))⟩
theorem GE.tupx {ts : TA} {C : Addr} (h : GAx K E ts ρ C) : GE K E (tTup ts) ρ (.exc C) := fun H0 B H σ bh s Q q => h H0 B H σ bh s _ (q.up C rfl)
theorem GE.lst {ts : TA} (h : GA K E ts ρ ds) (hz : ds.length ≤ 1000) : GE K E (tLst ts) ρ (.new ds) := fun H0 B H σ bh s Q q =>
  h H0 B H σ bh s _ fun vs B1 H1 s1 d1 => ⟨Evl.sz_of (by rw [dps_len d1]; omega), fun p hp => q.go _ _ _ (s1.trans (.own s1.dh hp (.lst vs))) ⟨p, vs, rfl, fresh_back s1.h hp, none_of s1.dh hp, upd_same, d1⟩⟩

/-! ### built-ins -/
def rLenQ (K : PySem.W.Frag) : List V → Hp → VK → Prop := fun xs H Q => ∃ p ys, xs = [.ref p] ∧ (SqL K H p ys ∨ SqT K H p ys) ∧ Q (.int ys.length) H
theorem call_lenQ {X : Cx} : CallR X (.builtin "len") (rLenQ X.K) := call_len_seq
theorem GE.len (h : GE K E te ρ r) (i : IsSq r ds) : GE K E (tCB (rLenQ K) (tCons te tNil)) ρ (.ok (.int ds.length)) := fun H0 B H σ bh s Q q =>
  h H0 B H σ bh s _ (i.fin fun v B1 H1 s1 d1 => by
    obtain ⟨a, xs, rfl, hs, hd⟩ := sq_at i s1.dh d1
    refine ⟨a, xs, rfl, hs, ?_⟩
    rw [dps_len hd]
    exact q.go _ B1 H1 s1 (.int _))
def rMax2 : List V → Hp → VK → Prop := fun xs H Q => ∃ i j, xs = [.int i, .int j] ∧ Q (.int (if j > i then j else i)) H
def rMin2 : List V → Hp → VK → Prop := fun xs H Q => ∃ i j, xs = [.int i, .int j] ∧ Q (.int (if j < i then j else i)) H
theorem call_max' {X : Cx} (hc : X.calm = true) : CallR X (.builtin "max") rMax2 := call_max2 hc
theorem call_min' {X : Cx} (hc : X.calm = true) : CallR X (.builtin "min") rMin2 := call_min2 hc
theorem GE.cb {rr : List V → Hp → VK → Prop} {ts : TA} (h : GA K E ts ρ ds) (hr : ∀ B vs H, Ex B H → DpAll K B vs ds → ∀ Q : VK, (∀ u, Dp K B u d → Q u H) → rr vs H Q) : GE K E (tCB rr ts) ρ (.ok d) := fun H0 B H σ bh s Q q =>
  h H0 B H σ bh s _ fun vs B1 H1 s1 d1 => hr B1 vs H1 s1.dh d1 Q fun u du => q.go u B1 H1 s1 du
theorem GE.max {ts : TA} {i j : Int} (h : GA K E ts ρ [.int i, .int j]) : GE K E (tCB rMax2 ts) ρ (.ok (.int (Max.max i j))) := GE.cb h fun B vs H bh hd Q q => by
  cases hd with
  | cons h1 t =>
    cases h1
    cases t with
    | cons h2 t =>
      cases h2; cases t
      refine ⟨i, j, rfl, ?_⟩
      have e : (if j > i then j else i) = Max.max i j := by
        rw [Int.max_def]
        split <;> split <;> omega
      rw [e]
      exact q _ (.int _)
theorem GE.min {ts : TA} {i j : Int} (h : GA K E ts ρ [.int i, .int j]) : GE K E (tCB rMin2 ts) ρ (.ok (.int (Min.min i j))) := GE.cb h fun B vs H bh hd Q q => by
  cases hd with
  | cons h1 t =>
    cases h1
    cases t with
    | cons h2 t =>
      cases h2; cases t
      refine ⟨i, j, rfl, ?_⟩
      have e : (if j < i then j else i) = Min.min i j := by
        rw [Int.min_def]
        split <;> split <;> omega
      rw [e]
      exact q _ (.int _)
theorem GE.sum {ns : List Int} (h : GE K E te ρ r) (i : IsLs r (ns.map PyData.int)) : GE K E (tCB (rSum K) (tCons te tNil)) ρ (.ok (.int ns.sum)) := fun H0 B H σ bh s Q q =>
  h H0 B H σ bh s _ (i.fin fun v B1 H1 s1 d1 => by
    obtain ⟨a, xs, rfl, hs, hd⟩ := ls_at (H1 := H) i s1.dh d1
    rw [dps_ints hd] at hs
    exact ⟨a, ns, rfl, hs, q.go _ B1 H1 s1 (.int _)⟩)
theorem GE.minL {ns : List Int} {m : Int} (h : GE K E te ρ r) (i : IsLs r (ns.map PyData.int)) (hm : m ∈ ns) (hl : ∀ y ∈ ns, m ≤ y) : GE K E (tCB (rMin K) (tCons te tNil)) ρ (.ok (.int m)) := fun H0 B H σ bh s Q q =>
  h H0 B H σ bh s _ (i.fin fun v B1 H1 s1 d1 => by
    obtain ⟨a, xs, rfl, hs, hd⟩ := ls_at (H1 := H) i s1.dh d1
    rw [dps_ints hd] at hs
    refine ⟨a, ns, rfl, hs, List.length_pos_of_mem hm, fun m' hm' hl' => ?_⟩
    have e : m' = m := Int.le_antisymm (hl' m hm) (hl m' hm')
    rw [e]
    exact q.go _ B1 H1 s1 (.int _))
/-- type names of data -/
def tyD : PyData → String
  | .none => "NoneType"
  | .bool _ => "bool"
  | .int _ => "int"
  | .str _ => "str"
  | .list _ => "list"
  | .tuple _ => "tuple"
  | .dict _ => "dict"
theorem ty_dp {v : V} (h : Dp K H v d) : TyX K H v (.type (tyD d)) := by
  cases h with
  | non => exact .base .non
  | bl b => exact .base (.bl b)
  | int i => exact .base (.int i)
  | str x => exact .base (.str x)
  | lst hs ha =>
    rcases hs with (h | ⟨o, h⟩) | ⟨o, its, n, h, c, _⟩
    · exact .base (.lst h)
    · exact .base (.frz h)
    · exact .kList h c
  | tup hs ha =>
    rcases hs with (h | ⟨o, h⟩) | ⟨o, its, n, h, c, _⟩
    · exact .base (.tup h)
    · exact .fTuple h
    · exact .kTuple h c
def tyR : Rs → String
  | .ok d => tyD d
  | .exc _ => ""
  | _ => "list"
theorem ty_vok {H0 H1 : Hp} {v : V} (bh : Ex B H) (f : Vok K H0 B H v r) : TyX K H v (.type (tyR r)) := by
  cases r with
  | ok d => exact ty_dp (dpM bh f)
  | new ds =>
    obtain ⟨a, xs, rfl, h0, hb, h1, hd⟩ := f
    exact .base (.lst h1)
  | ali ds =>
    obtain ⟨a, xs, rfl, h1, hd⟩ := f
    exact .base (.lst h1)
  | exc C => exact f.elim
def NoX : Rs → Prop
  | .exc _ => False
  | _ => True
theorem NoX.fin (n : NoX r) (h : ∀ v B' H', Step B H B' H' → Vok K H B' H' v r → Q v H') : Fin K E B H r Q := ⟨h, fun C e => by subst e; exact n.elim⟩
/-- isinstance(e, T), T a built-in class -/
theorem GE.isi {n : String} {b : Bool} (h : GE K E te ρ r) (nx : NoX r) (hk : kitB (tyR r) n = some b) : GE K E (tCB (rIsi K) (tCons te (tCons (tC (.ty n)) tNil))) ρ (.ok (.bool b)) := fun H0 B H σ bh s Q q =>
  h H0 B H σ bh s _ (nx.fin fun v B1 H1 s1 d1 => ⟨v, .ty n, .type (tyR r), .type n, b, rfl, .ty n, ty_vok (H1 := H1) s1.dh d1, kit_ty hk, q.go _ B1 H1 s1 (.bl b)⟩)

/-! ### tests -/
theorem GT.test {b : Bool} (h : GE K E te ρ (.ok (.bool b))) : GT K E (tTest te) ρ b := fun H0 B H σ bh s Q q =>
  h H0 B H σ bh s _ (fin_ok fun v B1 H1 s1 d1 => by
    cases d1
    exact ⟨b, rfl, q B1 H1 s1⟩)
theorem GT.val {b : Bool} (h : GE K E te ρ (.ok (.bool b))) : GT K E (tB te) ρ b := fun H0 B H σ bh s Q q =>
  h H0 B H σ bh s _ (fin_ok fun v B1 H1 s1 d1 => by
    cases d1
    exact ⟨b, rfl, q B1 H1 s1⟩)
theorem GT.yes : GT K E tYes ρ true := fun H0 B H σ bh s Q q => q B H (.refl bh)
theorem GT.not {tc : TT} {b : Bool} (h : GT K E tc ρ b) : GT K E (tNot tc) ρ (!b) := fun H0 B H σ bh s Q q => h H0 B H σ bh s _ q
theorem GT.and {tc tu : TT} {a b : Bool} (h : GT K E tc ρ a) (h2 : a = true → GT K E tu ρ b) : GT K E (tAnd tc tu) ρ (a && b) := fun H0 B H σ bh s Q q =>
  h H0 B H σ bh s _ fun B1 H1 s1 => by
    cases a with
    | true => exact h2 rfl H0 B1 H1 σ s1.dh (s.mono s1) Q fun B2 H2 s2 => q B2 H2 (s1.trans s2)
    | false => exact q B1 H1 s1
theorem GT.or {tc tu : TT} {a b : Bool} (h : GT K E tc ρ a) (h2 : a = false → GT K E tu ρ b) : GT K E (tOr tc tu) ρ (a || b) := fun H0 B H σ bh s Q q =>
  h H0 B H σ bh s _ fun B1 H1 s1 => by
    cases a with
    | true => exact q B1 H1 s1
    | false => exact h2 rfl H0 B1 H1 σ s1.dh (s.mono s1) Q fun B2 H2 s2 => q B2 H2 (s1.trans s2)
theorem GT.to {tc : TT} {a b : Bool} (h : GT K E tc ρ a) (e : a = b) : GT K E tc ρ b := e ▸ h
theorem GE.to {r r' : Rs} (h : GE K E te ρ r) (e : r = r') : GE K E te ρ r' := e ▸ h
theorem GT.chain {rr rr' : R2} {tc : TE} {w : PyData} {a b : Bool} (ha : GE K E ta ρ (.ok x)) (hb : GE K E tb ρ (.ok y)) (hc : GE K E tc ρ (.ok w)) (h1 : RD K rr x y (.bool a)) (h2 : RD K rr' y w (.bool b)) : GT K E (tTest (tChain rr rr' ta tb tc)) ρ (a && b) := fun H0 B H σ bh s Q q =>
  ha H0 B H σ bh s _ (fin_ok fun v B1 H1 s1 d1 => hb H0 B1 H1 σ s1.dh (s.mono s1) _ (fin_ok fun u B2 H2 s2 d2 =>
    h1 B2 v u (dpM s2.d d1) d2 H2 s2.dh _ fun z dz => by
      cases dz
      refine ⟨a, rfl, ?_⟩
      have s3 := s1.trans s2
      cases a with
      | true =>
        refine hc H0 B2 H2 σ s2.dh (s.mono s3) _ (fin_ok fun w' B3 H3 s4 d4 => h2 B3 u w' (dpM s4.d d2) d4 H3 s4.dh _ fun z dz => ?_)
        cases dz
        exact ⟨b, rfl, q B3 H3 (s3.trans s4)⟩
      | false => exact ⟨false, rfl, q B2 H2 s3⟩))
theorem GE.andV {a b : Bool} (h : GE K E ta ρ (.ok (.bool a))) (h2 : a = true → GE K E tb ρ (.ok (.bool b))) : GE K E (tAndV ta tb) ρ (.ok (.bool (a && b))) := fun H0 B H σ bh s Q q =>
  h H0 B H σ bh s _ (fin_ok fun v B1 H1 s1 d1 => by
    cases d1
    refine ⟨a, rfl, ?_⟩
    cases a with
    | true => exact h2 rfl H0 B1 H1 σ s1.dh (s.mono s1) Q (q.back s1)
    | false => exact q.go _ B1 H1 s1 (.bl false))
theorem GE.orV {a b : Bool} (h : GE K E ta ρ (.ok (.bool a))) (h2 : a = false → GE K E tb ρ (.ok (.bool b))) : GE K E (tOrV ta tb) ρ (.ok (.bool (a || b))) := fun H0 B H σ bh s Q q =>
  h H0 B H σ bh s _ (fin_ok fun v B1 H1 s1 d1 => by
    cases d1
    refine ⟨a, rfl, ?_⟩
    cases a with
    | true => exact q.go _ B1 H1 s1 (.bl true)
    | false => exact h2 rfl H0 B1 H1 σ s1.dh (s.mono s1) Q (q.back s1))
theorem GE.notV {a : Bool} (h : GE K E ta ρ (.ok (.bool a))) : GE K E (tNotV ta) ρ (.ok (.bool (!a))) := fun H0 B H σ bh s Q q =>
  h H0 B H σ bh s _ (fin_ok fun v B1 H1 s1 d1 => by
    cases d1
    exact ⟨a, rfl, q.go _ B1 H1 s1 (.bl _)⟩)
theorem GE.ifx {tc : TT} {a : Bool} (h : GT K E tc ρ a) (h1 : a = true → GE K E ta ρ r) (h2 : a = false → GE K E tb ρ r) : GE K E (tIf tc ta tb) ρ r := fun H0 B H σ bh s Q q =>
  h H0 B H σ bh s _ fun B1 H1 s1 => by
    cases a with
    | true => exact h1 rfl H0 B1 H1 σ s1.dh (s.mono s1) Q (q.back s1)
    | false => exact h2 rfl H0 B1 H1 σ s1.dh (s.mono s1) Q (q.back s1)

/-! ### comprehensions -/
def given (n : Nat) (f : Nat → Bool) (g : Nat → PyData) : List PyData := ((List.range n).filter f).map g
theorem given_yes {n : Nat} {f : Nat → Bool} {g : Nat → PyData} (h : f n = true) : given (n + 1) f g = given n f g ++ [g n] := by
  unfold given
  rw [List.range_succ, List.filter_append, List.map_append, List.filter_cons, if_pos h] <;> rfl
theorem given_no {n : Nat} {f : Nat → Bool} {g : Nat → PyData} (h : f n = false) : given (n + 1) f g = given n f g := by
  unfold given
  rw [List.range_succ, List.filter_append, List.map_append, List.filter_cons, if_neg (by rw [h]; decide)]
  show _ ++ [] = _
  rw [List.append_nil]
theorem given_len (n : Nat) (f : Nat → Bool) (g : Nat → PyData) : (given n f g).length ≤ n := by
  unfold given
  rw [List.length_map]
  have h := List.length_filter_le f (List.range n)
  rw [List.length_range] at h
  exact h
theorem given_all (n : Nat) (g : Nat → PyData) : given n (fun _ => true) g = (List.range n).map g := by
  unfold given
  rw [List.filter_eq_self.mpr (fun _ _ => rfl)]
/-- the state of a comprehension that fills the list at D -/
def Cw (K : PySem.W.Frag) (B1 H1 : Hp) (D : Addr) (ds : List PyData) (H' : Hp) : Prop := ∃ B' xs, Step B1 H1 B' H' ∧ B' D = none ∧ H' D = some (.lst xs) ∧ DpAll K B' xs ds
theorem cw_start {B1 H1 : Hp} {D : Addr} (bh : Ex B1 H1) (hD : H1 D = none) : Cw K B1 H1 D [] (upd H1 D (.lst [])) := ⟨B1, [], .own bh hD _, none_of bh hD, upd_same, .nil⟩
theorem wipe1 {σ : L2.St} {j : Nat} {x : V} : L2.wipe ((L2.wipe σ [j]).set j (some x)) [j] = L2.wipe σ [j] := by
  show ((σ.set j none).set j (some x)).set j none = σ.set j none
  rw [List.set_set, List.set_set]
theorem cw_turn {E' : XK} {H0 B1 H1 : Hp} {D : Addr} {σ : L2.St} {j : Nat} {tt : TT} {v : V} {dv : PyData} {f : Nat → Bool} {g : Nat → PyData} {i : Nat} {H' : Hp} (s : Sl K H0 B1 H1 σ ρ) (hD : H1 D = none) (w : Cw K B1 H1 D (given i f g) H') (hi : i < 50000) (hv : Dp K B1 v dv)
    (ht : GT K E' tt ((wipeR ρ [j]).set j (some (.dat dv))) (f i)) (he : f i = true → GE K E' te ((wipeR ρ [j]).set j (some (.dat dv))) (.ok (g i))) :
    tt ((L2.wipe σ [j]).set j (some v)) H' fun b H3 => if b = true then te ((L2.wipe σ [j]).set j (some v)) H3 fun y H4 => ∃ acc, H4 D = some (.lst acc) ∧ acc.length < sizeLine ∧ Cw K B1 H1 D (given (i + 1) f g) (upd H4 D (.lst (acc ++ [y]))) else Cw K B1 H1 D (given (i + 1) f g) H3 := by
  obtain ⟨B', xs, st, hb, hd, ha⟩ := w
  have sl : Sl K H0 B' H' ((L2.wipe σ [j]).set j (some v)) ((wipeR ρ [j]).set j (some (.dat dv))) := ((s.mono st).wipe [j]).setD j (dpM st.d hv)
  refine ht H0 B' H' _ st.dh sl _ fun B3 H3 s3 => ?_
  have fre : ∀ {B4 H4 : Hp}, Step B' H' B4 H4 → B4 D = none := fun {B4 H4} t => t.fr D (by rw [hd]; exact fun z => nomatch z) hb
  cases hf : f i with
  | true =>
    refine he hf H0 B3 H3 _ s3.dh (sl.mono s3) _ (fin_ok fun y B4 H4 s4 d4 => ?_)
    have s5 := s3.trans s4
    have e4 : H4 D = some (.lst xs) := s5.h D _ hd
    have n4 : B4 D = none := fre s5
    refine ⟨xs, e4, Evl.sz_lt (by rw [dps_len ha]; have := given_len i f g; omega), B4, xs ++ [y], ?_, n4, upd_same, ?_⟩
    · have t := st.trans s5
      refine ⟨t.d, Evl.Ex.mut t.h hD, fun a o q => ?_, t.fr⟩
      rw [upd_ne (ne_of_none q n4)]
      exact t.dh a o q
    · rw [given_yes hf]
      exact dps_app (dpsM s5.d ha) (.cons d4 .nil)
  | false =>
    refine ⟨B3, xs, st.trans s3, fre s3, s3.h D _ hd, ?_⟩
    rw [given_no hf]
    exact dpsM s3.d ha
theorem cw_end {B1 H1 : Hp} {D : Addr} {H' : Hp} (s1 : Step B H B1 H1) (hD : H1 D = none) (w : Cw K B1 H1 D ds H') (q : Fin K E B H (.new ds) Q) : Q (.ref D) H' := by
  obtain ⟨B', xs, st, hb, hd, ha⟩ := w
  exact q.go _ B' H' (s1.trans st) ⟨D, xs, rfl, fresh_back s1.h hD, hb, hd, ha⟩
theorem GE.lcR2 {E' : XK} {ts : TA} {j : Nat} {tt : TT} {lo hi : Int} (f : Nat → Bool) (g : Nat → PyData) (h : GA K E ts ρ [.int lo, .int hi]) (hb : (-100000 ≤ lo ∧ lo ≤ 100000) ∧ -100000 ≤ hi ∧ hi ≤ 100000) (hn : hi - lo < 50000)
    (ht : ∀ i : Nat, lo + (i : Int) < hi → GT K E' tt ((wipeR ρ [j]).set j (some (.dat (.int (lo + i))))) (f i)) (he : ∀ i : Nat, lo + (i : Int) < hi → f i = true → GE K E' te ((wipeR ρ [j]).set j (some (.dat (.int (lo + i))))) (.ok (g i))) :
    GE K E (tLc (iRng2 ts) (gName j) tt te [j]) ρ (.new (given (hi - lo).toNat f g)) := fun H0 B H σ bh s Q q =>
  h H0 B H σ bh s _ fun vs B1 H1 s1 d1 => by
    cases d1 with
    | cons h1 t =>
      cases h1
      cases t with
      | cons h2 t =>
        cases h2; cases t
        refine ⟨lo, hi, rfl, ⟨by omega, by omega, by omega, by omega⟩, fun D hD => ?_⟩
        exact lc_range (lo := lo) (n := (hi - lo).toNat) (fun i H' => Cw K B1 H1 D (given i f g) H') (cw_start s1.dh hD) (fun i H' hi' w => ⟨wipe1, cw_turn (v := .int (lo + (i : Int))) (dv := .int (lo + (i : Int))) (s.mono s1) hD w (by omega) (.int _) (ht i (by omega)) (he i (by omega))⟩) (fun H' w => cw_end s1 hD w q)
theorem GE.lcR1 {E' : XK} {ts : TA} {j : Nat} {tt : TT} {hi : Int} (f : Nat → Bool) (g : Nat → PyData) (h : GA K E ts ρ [.int hi]) (hb : -100000 ≤ hi ∧ hi < 50000)
    (ht : ∀ i : Nat, (i : Int) < hi → GT K E' tt ((wipeR ρ [j]).set j (some (.dat (.int (i : Int))))) (f i)) (he : ∀ i : Nat, (i : Int) < hi → f i = true → GE K E' te ((wipeR ρ [j]).set j (some (.dat (.int (i : Int))))) (.ok (g i))) :
    GE K E (tLc (iRng1 ts) (gName j) tt te [j]) ρ (.new (given hi.toNat f g)) := fun H0 B H σ bh s Q q =>
  h H0 B H σ bh s _ fun vs B1 H1 s1 d1 => by
    cases d1 with
    | cons h1 t =>
      cases h1; cases t
      refine ⟨hi, rfl, by omega, by omega, fun D hD => ?_⟩
      refine lc_range (lo := 0) (n := hi.toNat) (fun i H' => Cw K B1 H1 D (given i f g) H') (cw_start s1.dh hD) (fun i H' hi' w => ?_) (fun H' w => cw_end s1 hD w q)
      rw [show (0 : Int) + (i : Int) = (i : Int) from Int.zero_add _]
      exact ⟨wipe1, cw_turn (v := .int (i : Int)) (dv := .int (i : Int)) (s.mono s1) hD w (by omega) (.int _) (ht i (by omega)) (he i (by omega))⟩
/-- over a list -/
theorem GE.lcL {E' : XK} {j : Nat} {tt : TT} {tl : TE} (f : Nat → Bool) (g : Nat → PyData) (h : GE K E tl ρ r) (hl : IsLs r ds) (hn : ds.length < 50000)
    (ht : ∀ i x, ds[i]? = some x → GT K E' tt ((wipeR ρ [j]).set j (some (.dat x))) (f i)) (he : ∀ i x, ds[i]? = some x → f i = true → GE K E' te ((wipeR ρ [j]).set j (some (.dat x))) (.ok (g i))) :
    GE K E (tLc (iList K tl) (gName j) tt te [j]) ρ (.new (given ds.length f g)) := fun H0 B H σ bh s Q q =>
  h H0 B H σ bh s _ (hl.fin fun v B1 H1 s1 d1 => by
    obtain ⟨a, xs, rfl, hs, ha⟩ := ls_at (H1 := H1) hl s1.dh d1
    have el := dps_len ha
    refine ⟨a, rfl, ⟨xs, hs⟩, fun D hD => ?_⟩
    refine lc_list (xs := xs) (fun i H' => Cw K B1 H1 D (given i f g) H') (cw_start s1.dh hD) (fun i H' _ w => ?_) (fun i x H' hx w => ?_) (fun H' w => ?_)
    · obtain ⟨B', ys, st, _⟩ := w
      exact ex_l st.h hs
    · have hi : i < xs.length := (List.getElem?_eq_some_iff.mp hx).1
      have hd : ds[i]? = some (ds[i]'(by omega)) := List.getElem?_eq_getElem _
      obtain ⟨u, e1, e2⟩ := dps_get ha hd
      rw [hx] at e1
      cases e1
      exact ⟨wipe1, cw_turn (s.mono s1) hD w (by omega) e2 (ht i _ hd) (he i _ hd)⟩
    · rw [el] at w
      exact cw_end s1 hD w q)

/-! ### a def as a relation of data -/
def spR (K : PySem.W.Frag) (R : List PyData → Rs → Prop) : Sp := fun vs H Q E => ∃ B ds r, Ex B H ∧ DpAll K B vs ds ∧ R ds r ∧ Fin K E B H r Q
theorem GE.call {R : List PyData → Rs → Prop} {ts : TA} (ha : GA K E ts ρ ds) (hr : R ds r) : GE K E (tCallS (spR K R) (fun _ => E) ts) ρ r := fun H0 B H σ bh s Q q =>
  ha H0 B H σ bh s _ fun vs B1 H1 s1 d1 => ⟨B1, ds, r, s1.dh, d1, hr, q.back s1⟩
theorem GE.callx {R : List PyData → Rs → Prop} {ts : TA} {C : Addr} (ha : GAx K E ts ρ C) : GE K E (tCallS (spR K R) (fun _ => E) ts) ρ (.exc C) := fun H0 B H σ bh s Q q =>
  ha H0 B H σ bh s _ (q.up C rfl)
end

/-! ### statements -/
def GS (K : PySem.W.Frag) (E : XK) (ts : TS) (ρ : Rho) (Nx : Rho → Prop) (r : Rs) : Prop := ∀ B0 H0 B H σ, Step B0 H0 B H → Sl K H0 B H σ ρ → ∀ D : Ends,
  (∀ σ' B' H' ρ', Step B0 H0 B' H' → Sl K H0 B' H' σ' ρ' → Nx ρ' → D.nx σ' H') → Fin K E B0 H0 r D.rt → ts D σ H
section
variable {K : PySem.W.Frag} {E : XK} {ρ : Rho} {Nx : Rho → Prop} {r : Rs} {te : TE} {d : PyData} {ds : List PyData} {t u : TS} {tc : TT}
theorem GS.seq (h : GS K E t ρ (fun ρ' => GS K E u ρ' Nx r) r) : GS K E (tSeq t u) ρ Nx r := fun B0 H0 B H σ st s D nx fn =>
  h B0 H0 B H σ st s { D with nx := u D } (fun σ' B' H' ρ' st' s' g => g B0 H0 B' H' σ' st' s' D nx fn) fn
theorem GS.next (h : Nx ρ) : GS K E tNext ρ Nx r := fun B0 H0 B H σ st s D nx fn => nx σ B H ρ st s h
theorem GS.mono {Nx' : Rho → Prop} (h : GS K E t ρ Nx r) (hn : ∀ ρ', Nx ρ' → Nx' ρ') : GS K E t ρ Nx' r := fun B0 H0 B H σ st s D nx fn => h B0 H0 B H σ st s D (fun σ' B' H' ρ' a b c => nx σ' B' H' ρ' a b (hn ρ' c)) fn
theorem GS.ret (h : GE K E te ρ r) (hr : NoX r) (ha : ∀ ds, r ≠ .ali ds) : GS K E (tRet te) ρ Nx r := fun B0 H0 B H σ st s D nx fn =>
  h H0 B H σ st.dh s D.rt (hr.fin fun v B' H' st' f => fn.go v B' H' (st.trans st') (f.back st.h))
theorem GS.retD (h : GE K E te ρ (.ok d)) : GS K E (tRet te) ρ Nx (.ok d) := GS.ret h trivial fun _ e => nomatch e
theorem GS.retN (h : GE K E te ρ (.new ds)) : GS K E (tRet te) ρ Nx (.new ds) := GS.ret h trivial fun _ e => nomatch e
theorem GS.retX {C : Addr} (h : GE K E te ρ (.exc C)) : GS K E (tRet te) ρ Nx (.exc C) := fun B0 H0 B H σ st s D nx fn =>
  h H0 B H σ st.dh s D.rt (fin_exc fun B' H' st' => fn.up C rfl B' H' (st.trans st'))
theorem GS.retOwn {i : Nat} (h : ρ[i]? = some (some (.own ds))) : GS K E (tRet (tVar i)) ρ Nx (.new ds) := fun B0 H0 B H σ st s D nx fn => by
  obtain ⟨a, xs, e, h0, hb, h1, hd⟩ := s.own i ds h
  exact ⟨.ref a, e, fn.go _ B H st ⟨a, xs, rfl, h0, hb, h1, hd⟩⟩
theorem GS.retNone : GS K E tRetN ρ Nx (.ok .none) := fun B0 H0 B H σ st s D nx fn => fn.go _ B H st .non
theorem GS.asg {i : Nat} (h : GE K E te ρ (.ok d)) (n : Nx (ρ.set i (some (.dat d)))) : GS K E (tAsg te (gName i)) ρ Nx r := fun B0 H0 B H σ st s D nx fn =>
  h H0 B H σ st.dh s _ (fin_ok fun v B' H' st' dv => nx _ B' H' _ (st.trans st') ((s.mono st').setD i dv) n)
theorem GS.asgN {i : Nat} (h : GE K E te ρ (.new ds)) (n : Nx (ρ.set i (some (.own ds)))) : GS K E (tAsg te (gName i)) ρ Nx r := fun B0 H0 B H σ st s D nx fn =>
  h H0 B H σ st.dh s _ (fin_new fun v B' H' st' f => by
    obtain ⟨a, xs, rfl, h0, hb, h1, hd⟩ := f
    refine nx _ B' H' _ (st.trans st') ((s.mono st').setN i (fresh_back st.h h0) hb h1 hd (fun j dj q z => ?_) fun j u iv q z => ((s.inv j u iv q).2.2 a z).2.2 h0) n
    obtain ⟨b, ys, e1, _, _, e2, _⟩ := s.own j dj q
    rw [e1] at z
    cases z
    rw [h0] at e2
    cases e2)
theorem GS.asgX {C : Addr} {g : TG} (h : GE K E te ρ (.exc C)) : GS K E (tAsg te g) ρ Nx (.exc C) := fun B0 H0 B H σ st s D nx fn =>
  h H0 B H σ st.dh s _ (fin_exc fun B' H' st' => fn.up C rfl B' H' (st.trans st'))
/-- a, b = e -/
theorem GS.asg2 {i j : Nat} {x y : PyData} (h : GE K E te ρ (.ok (.tuple [x, y]))) (n : Nx ((ρ.set i (some (.dat x))).set j (some (.dat y)))) : GS K E (tAsg te (gTup K 2 (gCons (gName i) (gCons (gName j) gNil)))) ρ Nx r := fun B0 H0 B H σ st s D nx fn =>
  h H0 B H σ st.dh s _ (fin_ok fun v B' H' st' dv => by
    cases dv with
    | @tup a xs ds hs ha =>
      cases ha with
      | @cons v1 vs1 _ _ h1 t =>
        cases t with
        | @cons v2 vs2 _ _ h2 t =>
          cases t
          exact ⟨a, [v1, v2], rfl, ex_t st'.dh hs, rfl, v1, [v2], rfl, v2, [], rfl, rfl, nx _ B' H' _ (st.trans st') (((s.mono st').setD i h1).setD j h2) n⟩)
theorem GS.drop (h : GE K E te ρ (.ok d)) (n : Nx ρ) : GS K E (tDrop te) ρ Nx r := fun B0 H0 B H σ st s D nx fn =>
  h H0 B H σ st.dh s _ (fin_ok fun v B' H' st' dv => nx σ B' H' ρ (st.trans st') (s.mono st') n)
theorem GS.dropN (h : GE K E te ρ (.new ds)) (n : Nx ρ) : GS K E (tDrop te) ρ Nx r := GS.drop h.frz n
theorem GS.dropX {C : Addr} (h : GE K E te ρ (.exc C)) : GS K E (tDrop te) ρ Nx (.exc C) := fun B0 H0 B H σ st s D nx fn =>
  h H0 B H σ st.dh s _ (fin_exc fun B' H' st' => fn.up C rfl B' H' (st.trans st'))
theorem GS.ifs {b : Bool} (h : GT K E tc ρ b) (h1 : b = true → GS K E t ρ Nx r) (h2 : b = false → GS K E u ρ Nx r) : GS K E (tIfS tc t u) ρ Nx r := fun B0 H0 B H σ st s D nx fn =>
  h H0 B H σ st.dh s _ fun B' H' st' => by
    cases b with
    | true => exact h1 rfl B0 H0 B' H' σ (st.trans st') (s.mono st') D nx fn
    | false => exact h2 rfl B0 H0 B' H' σ (st.trans st') (s.mono st') D nx fn
/-- xs.append(e), xs a list of one's own -/
theorem GS.app {i : Nat} (hi : ρ[i]? = some (some (.own ds))) (h : GE K E te ρ (.ok d)) (hz : ds.length < 100000) (n : Nx (ρ.set i (some (.own (ds ++ [d]))))) : GS K E (tDrop (tBM K "list" rAppend (tVar i) (tCons te tNil))) ρ Nx r := fun B0 H0 B H σ st s D nx fn => by
  obtain ⟨a, xs, e, h0, hb, h1, hd⟩ := s.own i ds hi
  refine ⟨.ref a, e, .inl ⟨rfl, xs, .inl (.inl h1)⟩, h H0 B H σ st.dh s _ (fin_ok fun v B' H' st' dv => ?_)⟩
  have nb : B' a = none := st'.fr a (by rw [h1]; exact fun z => nomatch z) hb
  have t := st.trans st'
  refine ⟨a, xs, v, rfl, rfl, st'.h a _ h1, Evl.sz_lt (by rw [dps_len hd]; exact hz), nx σ B' _ _ ⟨t.d, Evl.Ex.mut t.h h0, fun b o q => ?_, t.fr⟩ ((s.mono st').push hi e h0 nb (dpsM st'.d hd) dv) n⟩
  rw [upd_ne (ne_of_none q nb)]
  exact t.dh b o q
/-- a list of one's own becomes data -/
theorem GS.freeze (i : Nat) (hi : ρ[i]? = some (some (.own ds))) (h : GS K E t (ρ.set i (some (.dat (.list ds)))) Nx r) : GS K E t ρ Nx r := fun B0 H0 B H σ st s D nx fn => by
  obtain ⟨a, xs, e, h0, hb, h1, hd⟩ := s.own i ds hi
  exact h B0 H0 (upd B a (.lst xs)) H σ (st.frz h0 hb h1) (s.freeze hi e hb h1 hd) D nx fn
theorem GS.weak {ρ' : Rho} (h : GS K E t ρ' Nx r) (hl : ρ'.length = ρ.length) (hw : ∀ (i : Nat) c, ρ'[i]? = some (some c) → ρ[i]? = some (some c)) : GS K E t ρ Nx r := fun B0 H0 B H σ st s D nx fn => h B0 H0 B H σ st (s.weak hl hw) D nx fn
/-- raise C(..) -/
def tRaise (E : XK) (C : Addr) : TS := fun _ _ H => E (.ref C) none H
theorem GS.raise {C : Addr} : GS K E (tRaise E C) ρ Nx (.exc C) := fun B0 H0 B H σ st s D nx fn => fn.up C rfl B H st none rfl

/-! ### loops -/
theorem GS.forR2 {ta : TA} {j : Nat} {tb : TS} {lo hi : Int} (h : GA K E ta ρ [.int lo, .int hi]) (hb : (-100000 ≤ lo ∧ lo ≤ 100000) ∧ -100000 ≤ hi ∧ hi ≤ 100000) (Inv : Nat → Rho → Prop) (h0 : Inv 0 ρ)
    (hs : ∀ (i : Nat) ρ', lo + (i : Int) < hi → Inv i ρ' → GS K E tb (ρ'.set j (some (.dat (.int (lo + i))))) (Inv (i + 1)) r) (hd : ∀ ρ', Inv (hi - lo).toNat ρ' → Nx ρ') : GS K E (tFor (iRng2 ta) (gName j) tb) ρ Nx r := fun B0 H0 B H σ st s D nx fn =>
  h H0 B H σ st.dh s _ fun vs B1 H1 s1 d1 => by
    cases d1 with
    | cons h1 t =>
      cases h1
      cases t with
      | cons h2 t =>
        cases h2; cases t
        refine ⟨lo, hi, rfl, ⟨by omega, by omega, by omega, by omega⟩, for_range (lo := lo) (n := (hi - lo).toNat) (fun i σ' H' => ∃ B' ρ', Step B0 H0 B' H' ∧ Sl K H0 B' H' σ' ρ' ∧ Inv i ρ') ⟨B1, ρ, st.trans s1, s.mono s1, h0⟩ ?_ ?_⟩
        · rintro i σ' H' hi' ⟨B', ρ', st', s', iv⟩
          exact hs i ρ' (by omega) iv B0 H0 B' H' _ st' (s'.setD j (.int _)) _ (fun σ2 B2 H2 ρ2 a b c => ⟨B2, ρ2, a, b, c⟩) fn
        · rintro σ' H' ⟨B', ρ', st', s', iv⟩
          exact nx σ' B' H' ρ' st' s' (hd ρ' iv)
theorem GS.forR1 {ta : TA} {j : Nat} {tb : TS} {hi : Int} (h : GA K E ta ρ [.int hi]) (hb : -100000 ≤ hi ∧ hi ≤ 100000) (Inv : Nat → Rho → Prop) (h0 : Inv 0 ρ)
    (hs : ∀ (i : Nat) ρ', (i : Int) < hi → Inv i ρ' → GS K E tb (ρ'.set j (some (.dat (.int (i : Int))))) (Inv (i + 1)) r) (hd : ∀ ρ', Inv hi.toNat ρ' → Nx ρ') : GS K E (tFor (iRng1 ta) (gName j) tb) ρ Nx r := fun B0 H0 B H σ st s D nx fn =>
  h H0 B H σ st.dh s _ fun vs B1 H1 s1 d1 => by
    cases d1 with
    | cons h1 t =>
      cases h1; cases t
      refine ⟨hi, rfl, by omega, by omega, for_range (lo := 0) (n := hi.toNat) (fun i σ' H' => ∃ B' ρ', Step B0 H0 B' H' ∧ Sl K H0 B' H' σ' ρ' ∧ Inv i ρ') ⟨B1, ρ, st.trans s1, s.mono s1, h0⟩ ?_ ?_⟩
      · rintro i σ' H' hi' ⟨B', ρ', st', s', iv⟩
        rw [show (0 : Int) + (i : Int) = (i : Int) from Int.zero_add _]
        exact hs i ρ' (by omega) iv B0 H0 B' H' _ st' (s'.setD j (.int _)) _ (fun σ2 B2 H2 ρ2 a b c => ⟨B2, ρ2, a, b, c⟩) fn
      · rintro σ' H' ⟨B', ρ', st', s', iv⟩
        exact nx σ' B' H' ρ' st' s' (hd ρ' iv)
theorem Step.base {B0 H0 B1 H1 : Hp} (s : Step B0 H0 B1 H1) : Step B1 H0 B1 H1 := ⟨Ex.refl B1, s.h, s.dh, fun _ _ n => n⟩
theorem Step.thru {B0 H0 B1 H1 B' H' : Hp} (s : Step B0 H0 B1 H1) (t : Step B1 H0 B' H') : Step B0 H0 B' H' := ⟨s.d.trans t.d, t.h, t.dh, fun a h n => t.fr a h (s.fr a h n)⟩
/-- for x in a list of data -/
theorem GS.forL {j : Nat} {tb : TS} {tl : TE} (h : GE K E tl ρ (.ok (.list ds))) (Inv : Nat → Rho → Prop) (h0 : Inv 0 ρ)
    (hs : ∀ (i : Nat) x ρ', ds[i]? = some x → Inv i ρ' → GS K E tb (ρ'.set j (some (.dat x))) (Inv (i + 1)) r) (hd : ∀ ρ', Inv ds.length ρ' → Nx ρ') : GS K E (tFor (iList K tl) (gName j) tb) ρ Nx r := fun B0 H0 B H σ st s D nx fn =>
  h H0 B H σ st.dh s _ (fin_ok fun v B1 H1 s1 d1 => by
    cases d1 with
    | @lst a xs ds hq ha =>
      have el := dps_len ha
      have st1 := st.trans s1
      have fn1 : Fin K E B1 H0 r D.rt := ⟨fun v B' H' t f => fn.go v B' H' (st1.thru t) f, fun C e B' H' t d => fn.up C e B' H' (st1.thru t) d⟩
      refine ⟨a, rfl, ⟨xs, ex_l s1.dh hq⟩, for_list (xs := xs) (fun i σ' H' => ∃ B' ρ', Step B1 H0 B' H' ∧ Sl K H0 B' H' σ' ρ' ∧ Inv i ρ') ⟨B1, ρ, st1.base, s.mono s1, h0⟩ ?_ ?_ ?_⟩
      · rintro i σ' H' _ ⟨B', ρ', st', s', iv⟩
        exact ex_l (st'.d.trans st'.dh) hq
      · rintro i x σ' H' hx ⟨B', ρ', st', s', iv⟩
        have hi : i < xs.length := (List.getElem?_eq_some_iff.mp hx).1
        have hd' : ds[i]? = some (ds[i]'(by omega)) := List.getElem?_eq_getElem _
        obtain ⟨u, e1, e2⟩ := dps_get ha hd'
        rw [hx] at e1
        cases e1
        exact hs i _ ρ' hd' iv B1 H0 B' H' _ st' (s'.setD j (dpM st'.d e2)) _ (fun σ2 B2 H2 ρ2 a b c => ⟨B2, ρ2, a, b, c⟩) fn1
      · rintro σ' H' ⟨B', ρ', st', s', iv⟩
        rw [el] at iv
        exact nx σ' B' H' ρ' (st1.thru st') s' (hd ρ' iv))
theorem GS.while {tb : TS} (Inv : Nat → Rho → Prop) (m0 : Nat) (h0 : Inv m0 ρ)
    (hs : ∀ m ρ', Inv m ρ' → ∃ b, GT K E tc ρ' b ∧ (b = true → GS K E tb ρ' (fun ρ2 => ∃ m', m' < m ∧ Inv m' ρ2) r) ∧ (b = false → Nx ρ')) : GS K E (tWhile tc tb) ρ Nx r := fun B0 H0 B H σ st s D nx fn => by
  refine ⟨fun m σ' H' => ∃ B' ρ', Step B0 H0 B' H' ∧ Sl K H0 B' H' σ' ρ' ∧ Inv m ρ', ⟨m0, B, ρ, st, s, h0⟩, ?_⟩
  rintro m σ' H' ⟨B', ρ', st', s', iv⟩
  obtain ⟨b, hb, h1, h2⟩ := hs m ρ' iv
  refine hb H0 B' H' σ' st'.dh s' _ fun B2 H2 s2 => ?_
  have st2 := st'.trans s2
  cases b with
  | true =>
    exact ⟨fun σ3 H3 => ∃ B3 ρ3, Step B0 H0 B3 H3 ∧ Sl K H0 B3 H3 σ3 ρ3 ∧ ∃ m', m' < m ∧ Inv m' ρ3, fun σ3 H3 ⟨B3, ρ3, a, b, m', hm, c⟩ => ⟨m', hm, B3, ρ3, a, b, c⟩,
      h1 rfl B0 H0 B2 H2 σ' st2 (s'.mono s2) _ (fun σ3 B3 H3 ρ3 a b c => ⟨B3, ρ3, a, b, c⟩) fn⟩
  | false => exact nx σ' B2 H2 ρ' st2 (s'.mono s2) (h2 rfl)
end

/-! ### defs -/
/-- the def x of the program's top keeps R, by at most level k -/
structure Fn (P : Program) (w : World) (K : PySem.W.Frag) (mg : Str → Option Value) (base : Heap) (k : Nat) (x : Str) (R : List PyData → Rs → Prop) : Prop where
  ex : ∃ (f : Addr) (fd : FuncData) (ps : List Str), FnOk P w K mg base (L2.CX P w) k f fd ps (spR K R) ∧ mg x = some (.ref f) ∧ PySem.W.keepIn K (.ref f) = true ∧ Binds K fd ps []
theorem pe_f {X : Cx} {P : Program} {w : World} {K : PySem.W.Frag} {mg : Str → Option Value} {base : Heap} {R : List PyData → Rs → Prop} {k j : Nat} {x : Str} {E : XK} {p pos : Pos} {e : Expr} {es : List Expr} {ta : TA} (C : Fn P w K mg base k x R) (hr : Room j X.A) (hk : k ≤ j) (pz : ∀ σ, PassesAt (L2.CX X.prog X.w) X σ E) (ha : PA X (e :: es) ta)
    (hP : X.prog = P := by rfl) (hw : X.w = w := by rfl) (hK : X.K = K := by rfl) (hmg : X.mg = mg := by rfl) (hB : X.base = base := by rfl) (hg : Gl X x := by rfl) (hdb : (x == ("__debug__" : Str)) = false := by decide) (he : starEach (e :: es) X.env = (false, eval e X.env) :: starEach es X.env := by rfl) (hpl : (backTo pos (starEach es X.env)).any (·.1) = false := by rfl) :
    PE X (.Call (.Name x p) (e :: es) [] pos) (tCallS (spR K R) (fun _ => E) ta) := by
  subst hP hw hK hmg hB
  obtain ⟨f, fd, ps, F, hm, hkp, hb⟩ := C.ex
  exact pe_callS F (hr.mono hk) hg hm hkp hb pz ha hdb he hpl
theorem pz0 {X : Cx} : ∀ σ, PassesAt (L2.CX X.prog X.w) X σ E0 := fun σ pins H s e s' I c => by
  obtain ⟨_, _, _, _, _, _, _, _, _, _, _, _, z⟩ := c
  exact z.elim
theorem sl_start {K : PySem.W.Frag} {B H : Hp} {N : List Str} {vs : List V} {ds : List PyData} (h : DpAll K B vs ds) : Sl K H B H (L2.start N vs) (ds.map (fun d => some (.dat d)) ++ List.replicate (N.length - ds.length) none) where
  len := by
    unfold L2.start
    rw [List.length_append, List.length_append, List.length_map, List.length_map, dps_len h, List.length_replicate, List.length_replicate]
  dat := fun i d e => by
    by_cases hi : i < ds.length
    · rw [List.getElem?_append_left (by simpa using hi), List.getElem?_map, List.getElem?_eq_getElem hi] at e
      cases e
      obtain ⟨v, e1, e2⟩ := dps_get h (List.getElem?_eq_getElem hi)
      refine ⟨v, ?_, e2⟩
      unfold L2.start
      rw [List.getElem?_append_left (by rw [List.length_map, dps_len h]; exact hi), List.getElem?_map, e1]
      rfl
    · rw [List.getElem?_append_right (by simpa using hi), List.getElem?_replicate] at e
      split at e <;> cases e
  own := fun i d e => by
    by_cases hi : i < ds.length
    · rw [List.getElem?_append_left (by simpa using hi), List.getElem?_map, List.getElem?_eq_getElem hi] at e
      cases e
    · rw [List.getElem?_append_right (by simpa using hi), List.getElem?_replicate] at e
      split at e <;> cases e
  sep := fun i j di dj _ e => by
    by_cases hi : i < ds.length
    · rw [List.getElem?_append_left (by simpa using hi), List.getElem?_map, List.getElem?_eq_getElem hi] at e
      cases e
    · rw [List.getElem?_append_right (by simpa using hi), List.getElem?_replicate] at e
      split at e <;> cases e
  fix := fun i d e => by
    by_cases hi : i < ds.length
    · rw [List.getElem?_append_left (by simpa using hi), List.getElem?_map, List.getElem?_eq_getElem hi] at e
      cases e
    · rw [List.getElem?_append_right (by simpa using hi), List.getElem?_replicate] at e
      split at e <;> cases e
  inv := fun i d iv e => by
    by_cases hi : i < ds.length
    · rw [List.getElem?_append_left (by simpa using hi), List.getElem?_map, List.getElem?_eq_getElem hi] at e
      cases e
    · rw [List.getElem?_append_right (by simpa using hi), List.getElem?_replicate] at e
      split at e <;> cases e
  isep := fun i j d iv es b e => by
    by_cases hi : i < ds.length
    · rw [List.getElem?_append_left (by simpa using hi), List.getElem?_map, List.getElem?_eq_getElem hi] at e
      cases e
    · rw [List.getElem?_append_right (by simpa using hi), List.getElem?_replicate] at e
      split at e <;> cases e
  iisep := fun i j d d' iv iv' _ e => by
    by_cases hi : i < ds.length
    · rw [List.getElem?_append_left (by simpa using hi), List.getElem?_map, List.getElem?_eq_getElem hi] at e
      cases e
    · rw [List.getElem?_append_right (by simpa using hi), List.getElem?_replicate] at e
      split at e <;> cases e
section
variable {P : Program} {w : World} {K : PySem.W.Frag} {mg : Str → Option Value} {base : Heap}
theorem ok_fnk {x qual : Str} {st : Stmt} {f : Addr} {fd : FuncData} {N ps : List Str} {k : Nat} {R : List PyData → Rs → Prop} (F : Fun K x qual st f fd) (S : FnScope N ps (defScope st)) (len : ∀ ds r, R ds r → ds.length = ps.length)
    (body : ∀ (cdv : Value) (A : Around) (outer : List Env) (s : Shared) (H : Hp) (E : XK), Room k (A.deeper (envOfC qual (defScope st) s.heap.objs.size f cdv)) →
      ∃ t, PSs (cxOf (L2.CX P w) P w K mg base N qual (defScope st) f cdv A outer s H E) (defBody st) t ∧ ∀ ds r, R ds r → GS K E t (ds.map (fun d => some (.dat d)) ++ List.replicate (N.length - ds.length) none) (fun _ => r = .ok .none) r) : FnOk P w K mg base (L2.CX P w) (k + 1) f fd ps (spR K R) := by
  refine F.okX S (fun vs H Q E h => ?_) (fun cdv A outer s H vs Q E hr h => ?_)
  · obtain ⟨B, ds, r, bh, hd, hR, _⟩ := h
    rw [dps_len hd]
    exact len ds r hR
  · obtain ⟨B, ds, r, bh, hd, hR, fn⟩ := h
    obtain ⟨t, hp, g⟩ := body cdv A outer s H E hr
    refine ⟨t, hp, g ds r hR B H B H (L2.start N vs) (.refl bh) (sl_start hd) _ (fun σ' B' H' ρ' st s e => ?_) fn⟩
    subst e
    exact fn.go .non B' H' st .non
theorem ok_fn {x qual : Str} {st : Stmt} {f : Addr} {fd : FuncData} {N ps : List Str} {k : Nat} {R : List PyData → Rs → Prop} (F : Fun K x qual st f fd) (S : FnScope N ps (defScope st)) (hm : mg x = some (.ref f)) (b : Binds K fd ps []) (len : ∀ ds r, R ds r → ds.length = ps.length)
    (body : ∀ (cdv : Value) (A : Around) (outer : List Env) (s : Shared) (H : Hp) (E : XK), Room k (A.deeper (envOfC qual (defScope st) s.heap.objs.size f cdv)) →
      ∃ t, PSs (cxOf (L2.CX P w) P w K mg base N qual (defScope st) f cdv A outer s H E) (defBody st) t ∧ ∀ ds r, R ds r → GS K E t (ds.map (fun d => some (.dat d)) ++ List.replicate (N.length - ds.length) none) (fun _ => r = .ok .none) r) : Fn P w K mg base (k + 1) x R :=
  ⟨f, fd, ps, ok_fnk F S len body, hm, F.kp, b⟩
/-- nothing is asked -/
theorem fn_none {x qual : Str} {st : Stmt} {f : Addr} {fd : FuncData} {ps : List Str} {R : List PyData → Rs → Prop} (F : Fun K x qual st f fd) (hm : mg x = some (.ref f)) (b : Binds K fd ps []) (no : ∀ ds r, ¬ R ds r) : Fn P w K mg base 0 x R := by
  have n : ∀ vs H Q E, ¬ spR K R vs H Q E := fun vs H Q E h => by
    obtain ⟨B, ds, r, _, _, hR, _⟩ := h
    exact no ds r hR
  exact ⟨f, fd, ps, ⟨fun vs H Q E h => absurd h (n vs H Q E), fun A outer s H args us vs Q E _ _ _ _ h => absurd h (n vs H Q E)⟩, hm, F.kp, b⟩
theorem Fn.sub {k : Nat} {x : Str} {R R' : List PyData → Rs → Prop} (C : Fn P w K mg base k x R) (h : ∀ ds r, R' ds r → R ds r) : Fn P w K mg base k x R' := by
  obtain ⟨f, fd, ps, F, r⟩ := C.ex
  have im : ∀ vs H Q E, spR K R' vs H Q E → spR K R vs H Q E := fun vs H Q E ⟨B, ds, r, a, b, c, d⟩ => ⟨B, ds, r, a, b, h ds r c, d⟩
  exact ⟨f, fd, ps, ⟨fun vs H Q E q => F.len vs H Q E (im _ _ _ _ q), fun A outer s H args us vs Q E a b c d q => F.run A outer s H args us vs Q E a b c d (im _ _ _ _ q)⟩, r⟩
theorem Fn.up {k j : Nat} {x : Str} {R : List PyData → Rs → Prop} (C : Fn P w K mg base k x R) (h : k ≤ j) : Fn P w K mg base j x R := by
  obtain ⟨f, fd, ps, F, r⟩ := C.ex
  exact ⟨f, fd, ps, ⟨F.len, fun A outer s H args us vs Q E hr => F.run A outer s H args us vs Q E (hr.mono h)⟩, r⟩
/-- an own class of errors, over ValueError -/
structure ExC (K : PySem.W.Frag) (mg : Str → Option Value) (x : Str) (C : Addr) : Prop where
  g : mg x = some (.ref C)
  x : PySem.W.excIn K C [.type "ValueError", .type "Exception", .type "BaseException", .type "object"] "ValueError.__new__" = true
  k : PySem.W.keepIn K (.ref C) = true
  b : PySem.W.subIn K (.ref C) (.type "BaseException") = some true
  t : PySem.W.typeIn K (.ref C) = some (.type "type")
end
theorem ps_rs {X : Cx} {x m : Str} {C : Addr} {E : XK} {j : Nat} {p p2 pos pos' : Pos} (T : ExC X.K X.mg x C) (hc : X.calm = true) (tk : Takes X (fun cls d _ H => E cls d H)) (hg : Gl X x := by rfl) (hdb : (x == ("__debug__" : Str)) = false := by decide) :
    PS X (.Raise (some (.Call (.Name x p) [.Constant (.str m) j p2] [] pos)) none pos') (tRaise E C) :=
  ps_raise hc tk (pmk_own PySem.F.excBase_ValueError T.x T.g T.k (raises_own T.b T.t) hg hdb)
/-- the end of a law: True at every script -/
def RLaw (ds : List PyData) (r : Rs) : Prop := ∃ ns : List Int, ds = [.list (ns.map .int)] ∧ ns.length ≤ 63 ∧ r = .ok (.bool true)
theorem law_sp {K : PySem.W.Frag} {H : Hp} {a : Addr} {ns : List Int} (hl : ns.length ≤ 63) (hS : SqL K H a (ns.map V.int)) : spR K RLaw [.ref a] H (fun v _ => v = .bl true) fun _ _ _ => False :=
  ⟨H, _, _, Ex.refl H, .cons (.lst hS (dps_of_ints ns)) .nil, ⟨ns, rfl, hl, rfl⟩, fun v B' H' st f => by cases f; rfl, fun C e => nomatch e⟩

/-! ### rules whose written part is named -/
section
variable {X : Cx}
theorem ixL (K : PySem.W.Frag) (h : X.K = K := by rfl) : IxR X (rIxL K) := by subst h; exact ix_list
theorem ixT (K : PySem.W.Frag) (h : X.K = K := by rfl) : IxR X (rIxT K) := by subst h; exact ix_tup
theorem cLen (K : PySem.W.Frag) (h : X.K = K := by rfl) : CallR X (.builtin "len") (rLenQ K) := by subst h; exact call_lenQ
theorem cIsi (K : PySem.W.Frag) (h : X.K = K := by rfl) : CallR X (.builtin "isinstance") (rIsi K) := by subst h; exact call_isi
theorem cSum (K : PySem.W.Frag) (hc : X.calm = true := by rfl) (h : X.K = K := by rfl) : CallR X (.builtin "sum") (rSum K) := by subst h; exact cr_sum hc
theorem cMin (K : PySem.W.Frag) (hc : X.calm = true := by rfl) (h : X.K = K := by rfl) : CallR X (.builtin "min") (rMin K) := by subst h; exact cr_min hc
theorem oEqD (K : PySem.W.Frag) (hu : X.A.units + 64 < cLine) (h : X.K = K := by rfl) : OpR X (compareOp .Eq) (rEqD K) := by subst h; exact op_eqD hu
theorem oNeD (K : PySem.W.Frag) (hu : X.A.units + 64 < cLine) (h : X.K = K := by rfl) : OpR X (compareOp .NotEq) (rNeD K) := by subst h; exact op_neD hu
/-- a constant of the module -/
theorem pe_gl (v : V) {x : Str} {pos : Pos} (hm : ∃ u, X.mg x = some u ∧ RelV v u) (hg : Gl X x := by rfl) (hd : (x == ("__debug__" : Str)) = false := by decide) : PE X (.Name x pos) (tC v) := by
  obtain ⟨u, h1, h2⟩ := hm
  exact pe_glob hg h1 h2 hd
end

/-! ### the end of a law's row -/
theorem walkE {l : PySem.W.OpenLaw} {k : Nat} {q : Program} {loose : List Str} {XP : (Str → Option Value) → Heap → Prop} {YP : World → Heap → Prop} {d : DefRec} {K : Params → PySem.W.Frag} (hn : l.most = some 63) (hdf : d.params.defaults = []) (hr : Room k callerA)
    (hY : ∀ (w : World) (h : Heap), YP w h → (K w.params).In h)
    (F : ∀ (w : World) (mg : Str → Option Value) (fa : Addr) (h : Heap), (K w.params).In h → h.Ns mainGlobals mg → mg d.name = some (.ref fa) →
      ∃ fd : FuncData, (∀ (s : Shared) (u : Value), BindsTo s fd ⟨[u], []⟩ [("script", u)]) ∧ ∀ base : Heap, (K w.params).In base → base.Ns mainGlobals mg → FnOk l.prog w (K w.params) mg base (L2.CX l.prog w) k fa fd ["script"] (spR (K w.params) RLaw)) :
    PySem.W.WalkO q loose XP YP l.row.toRowW d [] (fun f vs => PySem.call f vs) :=
  L2.walk_of (n := 63) (k := k) (x := "script") (CX := fun w => L2.CX l.prog w) (sp := fun w => spR (K w.params) RLaw) hn (by decide) hdf hr hY F (fun _ _ _ _ hl _ hS => law_sp hl hS) fun w H s e s' h => by
    obtain ⟨_, _, _, _, _, _, _, _, _, _, _, _, z⟩ := h
    exact z

/-! ### list(range(a, b)) -/
theorem GE.lrg {K : PySem.W.Frag} {E : XK} {ρ : Rho} {ta tb : TE} {a b : Int} (ha : GE K E ta ρ (.ok (.int a))) (hb : GE K E tb ρ (.ok (.int b))) (hz : RgOk a b) : GE K E (tLstRg (tRg2 ta tb)) ρ (.new (((List.range (b - a).toNat).map fun i : Nat => a + (i : Int)).map PyData.int)) := fun H0 B H σ bh s Q q =>
  ha H0 B H σ bh s _ (fin_ok fun v B1 H1 s1 d1 => hb H0 B1 H1 σ s1.dh (s.mono s1) _ (fin_ok fun w B2 H2 s2 d2 => by
    cases d1; cases d2
    refine ⟨a, b, rfl, rfl, hz, fun p hp => ?_⟩
    have s3 := s1.trans s2
    refine q.go _ B2 _ (s3.trans (.own s2.dh hp _)) ⟨p, rgV a b, rfl, fresh_back s3.h hp, none_of s2.dh hp, upd_same, ?_⟩
    have e : rgV a b = ((List.range (b - a).toNat).map fun i : Nat => a + (i : Int)).map V.int := by
      unfold rgV
      rw [List.map_map]
      rfl
    rw [e]
    exact dps_of_ints _))
theorem sh_ints (ns : List Int) : SeqAt.shaped (.list (ns.map PyData.int)) = true := by
  have h1 : ∀ ns : List Int, PyData.canLayAll0 (ns.map PyData.int) = true := fun ns => by
    induction ns with
    | nil => rfl
    | cons n ns ih => simp [PyData.canLayAll0, PyData.canLay0, ih]
  have h2 : ∀ ns : List Int, PyData.depthAll (ns.map PyData.int) = 0 := fun ns => by
    induction ns with
    | nil => rfl
    | cons n ns ih => simp [PyData.depthAll, PyData.depth, ih]
  unfold SeqAt.shaped
  simp [PyData.canLay0, PyData.depth, h1 ns, h2 ns]
theorem eqv_self {d : PyData} (h : SeqAt.shaped d = true) : PyData.eqv d d = true := SeqAt.eqv_refl _ (SeqAt.canLay_of_shaped h)

/-! ### comparisons that look at lists of one's own too -/
section
variable {K : PySem.W.Frag} {E : XK} {B H : Hp} {Q : VK} {ρ : Rho} {ta tb te : TE} {x y z d : PyData} {ds es : List PyData} {r r1 r2 : Rs} {Nx : Rho → Prop}
inductive IsD : Rs → PyData → Prop
  | ok (d : PyData) : IsD (.ok d) d
  | new (ds : List PyData) : IsD (.new ds) (.list ds)
  | ali (ds : List PyData) : IsD (.ali ds) (.list ds)
theorem isd_at {H0 : Hp} {v : V} (i : IsD r d) (bh : Ex B H) (f : Vok K H0 B H v r) : Dp K H v d := by
  cases i with
  | ok => exact dpM bh f
  | new =>
    obtain ⟨a, xs, rfl, h0, hb, h1, hd⟩ := f
    exact .lst (.inl (.inl h1)) (dpsM bh hd)
  | ali =>
    obtain ⟨a, xs, rfl, h1, hd⟩ := f
    exact .lst (.inl (.inl h1)) (dpsM bh hd)
theorem IsD.fin (i : IsD r d) (h : ∀ v B' H', Step B H B' H' → Vok K H B' H' v r → Q v H') : Fin K E B H r Q := ⟨h, fun C e => by cases i <;> cases e⟩
def RH (K : PySem.W.Frag) (r : R2) (x y : PyData) (b : Bool) : Prop := ∀ H v w, Dp K H v x → Dp K H w y → ∀ Q : VK, Q (.bl b) H → r v w H Q
theorem GE.opH {rr : R2} {b : Bool} (ha : GE K E ta ρ r1) (h1 : IsD r1 x) (hb : GE K E tb ρ r2) (h2 : IsD r2 y) (hr : RH K rr x y b) : GE K E (tOp rr ta tb) ρ (.ok (.bool b)) := fun H0 B H σ bh s Q q =>
  ha H0 B H σ bh s _ (h1.fin fun v B1 H1 s1 d1 => hb H0 B1 H1 σ s1.dh (s.mono s1) _ (h2.fin fun w B2 H2 s2 d2 =>
    hr H2 v w (isd_at h1 s2.dh (d1.mono s2)) (isd_at h2 s2.dh d2) Q (q.go _ B2 H2 (s1.trans s2) (.bl b))))
theorem rh_eq (hx : SeqAt.shaped x = true) (hy : SeqAt.shaped y = true) : RH K (rEqD K) x y (PyData.eqv x y) := fun H v w h1 h2 Q q => ⟨x, y, h1, h2, hx, hy, q⟩
theorem rh_ne (hx : SeqAt.shaped x = true) (hy : SeqAt.shaped y = true) : RH K (rNeD K) x y (!PyData.eqv x y) := fun H v w h1 h2 Q q => ⟨x, y, h1, h2, hx, hy, q⟩
theorem rh_in (hx : SeqAt.shaped x = true) (hy : SeqAt.shaped (.list ds) = true) : RH K (rInD K) x (.list ds) (ds.any fun z => PyData.eqv z x) := fun H v w h1 h2 Q q => ⟨x, ds, h1, h2, hx, hy, q⟩
theorem oInD {X : Cx} (K : PySem.W.Frag) (hu : X.A.units + 65 < cLine) (h : X.K = K := by rfl) : OpR X (compareOp .In) (rInD K) := by subst h; exact op_inD hu
/-- list(xs) -/
def rListQ (K : PySem.W.Frag) : List V → Hp → VK → Prop := fun xs H Q => ∃ p ys, xs = [.ref p] ∧ (SqL K H p ys ∨ SqT K H p ys) ∧ ∀ l, H l = none → Q (.ref l) (upd H l (.lst ys))
theorem cList {X : Cx} (K : PySem.W.Frag) (h : X.K = K := by rfl) : CallR X (.type "list") (rListQ K) := by subst h; exact call_list_of
theorem GE.list (h : GE K E te ρ r) (i : IsSq r ds) : GE K E (tCB (rListQ K) (tCons te tNil)) ρ (.new ds) := fun H0 B H σ bh s Q q =>
  h H0 B H σ bh s _ (i.fin fun v B1 H1 s1 d1 => by
    obtain ⟨a, xs, rfl, hs, hd⟩ := sq_at i s1.dh d1
    exact ⟨a, xs, rfl, hs, fun p hp => q.go _ B1 _ (s1.trans (.own s1.dh hp _)) ⟨p, xs, rfl, fresh_back s1.h hp, none_of s1.dh hp, upd_same, hd⟩⟩)
end
end Eg
namespace Eg
open PySem PySem.Spec PyProof.Rows L2
/-! ### how many floors are told apart -/
def rch : Nat → Nat → Nat
  | 0, _ => 0
  | _ + 1, 0 => 0
  | k + 1, t + 1 => rch (k + 1) t + rch k t + 1
theorem rch_next (k t : Nat) : rch (k + 1) (t + 1) = rch (k + 1) t + rch k t + 1 := rfl
theorem rch_zero : ∀ k : Nat, rch k 0 = 0
  | 0 => rfl
  | _ + 1 => rfl
def rowD (n t : Nat) : List PyData := (List.range (n + 1)).map fun k => .int (rch k t)
theorem rowD_len (n t : Nat) : (rowD n t).length = n + 1 := by
  unfold rowD
  rw [List.length_map, List.length_range]
theorem flat_one {α : Type} (x : α) : ∀ m : Nat, (List.replicate m [x]).flatten = List.replicate m x
  | 0 => rfl
  | m + 1 => by
    rw [List.replicate_succ, List.flatten_cons, flat_one x m]
    rfl
theorem row_start {n : Nat} : Rs.new (List.replicate ((n : Int) + 1).toNat [PyData.int 0]).flatten = Rs.new (rowD n 0) := by
  rw [flat_one, show ((n : Int) + 1).toNat = n + 1 by omega]
  refine congrArg Rs.new (List.ext_getElem? fun i => ?_)
  unfold rowD
  rw [List.getElem?_replicate, List.getElem?_map]
  by_cases h : i < n + 1
  · rw [if_pos h, List.getElem?_range h, Option.map_some, rch_zero]
    rfl
  · rw [if_neg h, List.getElem?_eq_none (by rw [List.length_range]; omega)]
    rfl
theorem row_next {n t : Nat} : Rs.new ([PyData.int 0] ++ given ((n : Int) + 1 - 1).toNat (fun _ => true) (fun j => PyData.int (rch (j + 1) (t + 1)))) = Rs.new (rowD n (t + 1)) := by
  rw [given_all, show ((n : Int) + 1 - 1).toNat = n by omega]
  unfold rowD
  rw [List.range_succ_eq_map, List.map_cons, List.map_map]
  rfl
theorem atI_nat' {α : Type} {xs : List α} {i : Int} {j : Nat} {x : α} (e : i = (j : Int)) (h : xs[j]? = some x) : atI xs i = some x := by
  subst e
  exact atI_nat h
theorem row_at {n t j : Nat} {i : Int} (e : i = (j : Int)) (h : j ≤ n) : atI (rowD n t) i = some (.int (rch j t)) := by
  refine atI_nat' e ?_
  unfold rowD
  rw [List.getElem?_map, List.getElem?_range (by omega)]
  rfl
def R_rows (ds : List PyData) (r : Rs) : Prop := ∃ n t : Nat, ds = [.int n, .int t] ∧ n ≤ 12 ∧ t ≤ 1000 ∧ r = .new (rowD n t)
end Eg
namespace Eg
open PySem PySem.Spec PyProof.Rows L2
def badR (n t : Int) : Bool := decide (n < 0) || (decide (12 < n) || (decide (t < 0) || decide (200 < t)))
theorem badR_no {n t : Int} (h : badR n t = false) : ∃ n' t' : Nat, n = n' ∧ t = t' ∧ n' ≤ 12 ∧ t' ≤ 200 := by
  unfold badR at h
  simp only [Bool.or_eq_false_iff, decide_eq_false_iff_not] at h
  exact ⟨n.toNat, t.toNat, by omega, by omega, by omega, by omega⟩
def R_reach (C : Addr) (ds : List PyData) (r : Rs) : Prop := ∃ n t : Int, ds = [.int n, .int t] ∧ r = if badR n t = true then .exc C else .ok (.int (rch n.toNat t.toNat))
theorem R_reach_ok {C : Addr} {n t : Nat} (hn : n ≤ 12) (ht : t ≤ 200) : R_reach C [.int n, .int t] (.ok (.int (rch n t))) := by
  refine ⟨n, t, rfl, ?_⟩
  have h : badR n t = false := by
    unfold badR
    simp only [Bool.or_eq_false_iff, decide_eq_false_iff_not]
    omega
  rw [if_neg (by rw [h]; decide)]
  rfl
/-! ### cells -/
def cell (ns : List Int) (k : Nat) : Int := ns.getD k 0
theorem cell_in {ns : List Int} {k : Nat} (h : k < ns.length) : atI (ns.map PyData.int) (k : Int) = some (.int (cell ns k)) := by
  refine atI_nat ?_
  rw [List.getElem?_map, List.getElem?_eq_getElem h]
  show some (PyData.int ns[k]) = _
  unfold cell
  rw [List.getD_eq_getElem?_getD, List.getElem?_eq_getElem h]
  rfl
theorem cell_out {ns : List Int} {k : Nat} (h : ns.length ≤ k) : cell ns k = 0 := by
  unfold cell
  rw [List.getD_eq_getElem?_getD, List.getElem?_eq_none h]
  rfl
def R_cell (ds : List PyData) (r : Rs) : Prop := ∃ (ns : List Int) (k : Nat), ds = [.list (ns.map .int), .int k] ∧ r = .ok (.int (cell ns k))
def R_whole (ds : List PyData) (r : Rs) : Prop := ∃ i : Int, ds = [.int i] ∧ r = .ok (.bool true)
theorem mod_nat (i : Int) {m : Int} (h : 0 < m) : ∃ n : Nat, (n : Int) < m ∧ i % m = n := by
  have h1 := Int.emod_nonneg i (show m ≠ 0 by omega)
  have h2 := Int.emod_lt_of_pos i h
  exact ⟨(i % m).toNat, by omega, by omega⟩
/-! ### ways to choose -/
def ch : Nat → Nat → Nat
  | _, 0 => 1
  | 0, _ + 1 => 0
  | n + 1, k + 1 => ch n k + ch n (k + 1)
theorem ch_zero (n : Nat) : ch n 0 = 1 := by cases n <;> rfl
theorem ch_next (n k : Nat) : ch (n + 1) (k + 1) = ch n k + ch n (k + 1) := rfl
theorem ch_big : ∀ {n k : Nat}, n < k → ch n k = 0
  | 0, k + 1, _ => rfl
  | n + 1, k + 1, h => by rw [ch_next, ch_big (show n < k by omega), ch_big (show n < k + 1 by omega)]
/-- (k + 1) C(n, k + 1) = (n - k) C(n, k) -/
theorem ch_mul : ∀ (n k : Nat), ((k : Int) + 1) * (ch n (k + 1) : Int) = ((n : Int) - k) * (ch n k : Int)
  | 0, 0 => by simp [ch]
  | 0, k + 1 => by simp [ch]
  | n + 1, 0 => by
    have ih := ch_mul n 0
    rw [ch_next, ch_zero, ch_zero]
    rw [ch_zero] at ih
    push_cast at ih ⊢
    omega
  | n + 1, k + 1 => by
    have h1 := ch_mul n k
    have h2 := ch_mul n (k + 1)
    rw [ch_next n (k + 1), ch_next n k]
    push_cast at h1 h2 ⊢
    generalize (ch n k : Int) = a at h1 h2 ⊢
    generalize (ch n (k + 1) : Int) = c at h1 h2 ⊢
    generalize (ch n (k + 1 + 1) : Int) = d at h1 h2 ⊢
    have e1 : ((k : Int) + 1 + 1) * (c + d) = ((k : Int) + 1) * c + c + ((k : Int) + 1 + 1) * d := by
      rw [Int.mul_add, Int.add_mul ((k : Int) + 1) 1 c, Int.one_mul]
    have e2 : ((n : Int) + 1 - ((k : Int) + 1)) * (a + c) = ((n : Int) - k) * a + (((n : Int) - ((k : Int) + 1)) * c + c) := by
      rw [show (n : Int) + 1 - ((k : Int) + 1) = (n : Int) - k by omega, Int.mul_add, show (n : Int) - k = ((n : Int) - ((k : Int) + 1)) + 1 by omega, Int.add_mul ((n : Int) - ((k : Int) + 1)) 1 c, Int.one_mul]
    rw [e1, e2, h1, h2]
    omega
theorem ch_step {m i : Nat} : ((ch m i : Int) * ((m : Int) - (i : Int))) / ((i : Int) + 1) = (ch m (i + 1) : Int) := by
  rw [Int.mul_comm, ← ch_mul m i]
  exact Int.mul_ediv_cancel_left _ (by omega)
def R_choose (ds : List PyData) (r : Rs) : Prop := ∃ m k : Nat, ds = [.int m, .int k] ∧ m ≤ 1000 ∧ k ≤ 12 ∧ r = .ok (.int (ch m k))
/-- their sum -/
def chs (d : Nat) : Nat → Nat
  | 0 => 0
  | t + 1 => chs d t + ch d (t + 1)
theorem chs_rch : ∀ (d t : Nat), chs d t = rch t d ∧ chs (d + 1) (t + 1) = chs d (t + 1) + chs d t + 1
  | d, 0 => by
    constructor
    · cases d <;> rfl
    · show chs (d + 1) 0 + ch (d + 1) 1 = chs d 0 + ch d 1 + chs d 0 + 1
      rw [ch_next, ch_zero]
      show 0 + (1 + ch d 1) = 0 + ch d 1 + 0 + 1
      omega
  | d, t + 1 => by
    have h := (chs_rch d t).2
    constructor
    · cases d with
      | zero =>
        have z : ∀ t, chs 0 t = 0 := fun t => by
          induction t with
          | zero => rfl
          | succ t ih =>
            show chs 0 t + ch 0 (t + 1) = 0
            rw [ih]
            rfl
        rw [z]
        rfl
      | succ d =>
        rw [(chs_rch d t).2, rch_next, (chs_rch d t).1, (chs_rch d (t + 1)).1]
    · show chs (d + 1) (t + 1) + ch (d + 1) (t + 1 + 1) = chs d (t + 1) + ch d (t + 1 + 1) + chs d (t + 1) + 1
      rw [h, ch_next]
      show _ = chs d (t + 1) + ch d (t + 1 + 1) + (chs d t + ch d (t + 1)) + 1
      omega
  termination_by d t => (d, t)
theorem chs_sum (d : Nat) : ∀ t : Nat, ((List.range t).map fun i => (ch d (i + 1) : Int)).sum = (chs d t : Int)
  | 0 => rfl
  | t + 1 => by
    rw [List.range_succ, List.map_append, List.sum_append, chs_sum d t]
    show (chs d t : Int) + ((ch d (t + 1) : Int) + 0) = ((chs d t + ch d (t + 1) : Nat) : Int)
    push_cast
    omega
theorem chs_min (d : Nat) : ∀ t : Nat, chs d (min t d) = chs d t
  | 0 => by rw [Nat.zero_min]
  | t + 1 => by
    by_cases h : t + 1 ≤ d
    · rw [Nat.min_eq_left h]
    · have ih := chs_min d t
      rw [show min (t + 1) d = min t d by omega, ih]
      show _ = chs d t + ch d (t + 1)
      rw [ch_big (show d < t + 1 by omega)]
      rfl
theorem rch_sum (t : Nat) (d : Int) (h : -1 ≤ d) : Rs.ok (PyData.int ((List.range (min (t : Int) d).toNat).map fun i => (ch d.toNat (i + 1) : Int)).sum) = Rs.ok (.int (rch t d.toNat)) := by
  rw [chs_sum, ← (chs_rch d.toNat t).1, ← chs_min d.toNat t]
  by_cases hd : 0 ≤ d
  · rw [show (min (t : Int) d).toNat = min t d.toNat by omega]
  · rw [show (min (t : Int) d).toNat = 0 by omega, show d.toNat = 0 by omega, Nat.min_zero]
def R_lreach (ds : List PyData) (r : Rs) : Prop := ∃ (t : Nat) (d : Int), ds = [.int t, .int d] ∧ t ≤ 12 ∧ -1 ≤ d ∧ d ≤ 1000 ∧ r = .ok (.int (rch t d.toNat))
end Eg
namespace Eg
open PySem PySem.Spec PyProof.Rows L2
/-! ### the fewest drops -/
def badA1 (n t : Int) : Bool := decide (n < 0) || (decide (1000 < n) || (decide (t < 0) || decide (12 < t)))
def badA2 (n t : Int) : Bool := decide (0 < n) && decide (t = 0)
def badA (n t : Int) : Bool := badA1 n t || badA2 n t
theorem badA_no {n t : Int} (h : ¬ badA n t = true) : ∃ n' t' : Nat, n = n' ∧ t = t' ∧ n' ≤ 1000 ∧ t' ≤ 12 ∧ (n' = 0 ∨ 1 ≤ t') := by
  unfold badA badA1 badA2 at h
  simp only [Bool.or_eq_true, Bool.and_eq_true, decide_eq_true_eq] at h
  exact ⟨n.toNat, t.toNat, by omega, by omega, by omega, by omega, by omega⟩
theorem badA_of {n t : Nat} (h1 : n ≤ 1000) (h2 : t ≤ 12) (h3 : n = 0 ∨ 1 ≤ t) : ¬ badA n t = true := by
  unfold badA badA1 badA2
  simp only [Bool.or_eq_true, Bool.and_eq_true, decide_eq_true_eq]
  omega
def R_ask (C : Addr) (ds : List PyData) (r : Rs) : Prop := ∃ n t : Int, ds = [.int n, .int t] ∧ r = if badA n t = true then .exc C else .ok .none
theorem rch_0 (t : Nat) : rch 0 t = 0 := by cases t <;> rfl
theorem rch_mono (k : Nat) : ∀ t : Nat, rch k t ≤ rch k (t + 1) := by
  cases k with
  | zero => exact fun t => by rw [rch_0, rch_0]; exact Nat.le_refl _
  | succ k =>
    intro t
    rw [rch_next]
    omega
theorem rch_le (k : Nat) {s t : Nat} (h : s ≤ t) : rch k s ≤ rch k t := by
  induction h with
  | refl => exact Nat.le_refl _
  | step _ ih => exact Nat.le_trans ih (rch_mono k _)
theorem rch_ge (k : Nat) : ∀ t : Nat, t ≤ rch (k + 1) t
  | 0 => Nat.zero_le _
  | t + 1 => by
    have ih := rch_ge k t
    rw [rch_next]
    omega
theorem rch_pos {k t : Nat} (hk : 1 ≤ k) (ht : 1 ≤ t) : rch k t = rch k (t - 1) + rch (k - 1) (t - 1) + 1 := by
  obtain ⟨k, rfl⟩ : ∃ j, k = j + 1 := ⟨k - 1, by omega⟩
  obtain ⟨t, rfl⟩ : ∃ j, t = j + 1 := ⟨t - 1, by omega⟩
  exact rch_next k t
def needF (k f : Nat) : Nat → Nat → Nat
  | 0, t => t
  | n + 1, t => if f ≤ rch k t then t else needF k f n (t + 1)
/-- the least number of drops whose reach is f or more -/
def need (k f : Nat) : Nat := needF k f f 0
structure IsNeed (k f t : Nat) : Prop where
  ge : f ≤ rch k t
  lt' : ∀ s, s < t → rch k s < f
theorem IsNeed.lt {k f t s : Nat} (h : IsNeed k f t) (hs : rch k s < f) : s < t := by
  by_cases q : s < t
  · exact q
  · have := rch_le k (show t ≤ s by omega)
    have := h.ge
    omega
theorem IsNeed.le {k f t s : Nat} (h : IsNeed k f t) (hs : f ≤ rch k s) : t ≤ s := by
  by_cases q : t ≤ s
  · exact q
  · have := h.lt' s (by omega)
    omega
theorem IsNeed.pos {k f t : Nat} (h : IsNeed k f t) (hf : 1 ≤ f) : 1 ≤ t := by
  by_cases q : 1 ≤ t
  · exact q
  · have e : t = 0 := by omega
    subst e
    have := h.ge
    rw [rch_zero] at this
    omega
theorem IsNeed.uniq {k f t s : Nat} (h : IsNeed k f t) (g : IsNeed k f s) : t = s := Nat.le_antisymm (h.le g.ge) (g.le h.ge)
theorem needF_spec {k f : Nat} : ∀ (n t : Nat), f ≤ rch k (t + n) → (∀ s, s < t → rch k s < f) → IsNeed k f (needF k f n t)
  | 0, t, h, hl => ⟨h, hl⟩
  | n + 1, t, h, hl => by
    unfold needF
    split
    · next q => exact ⟨q, hl⟩
    · next q => exact needF_spec n (t + 1) (by rw [show t + 1 + n = t + (n + 1) by omega]; exact h) (fun s hs => by
        by_cases e : s = t
        · subst e
          omega
        · exact hl s (by omega))
theorem need_spec {k f : Nat} (h : f = 0 ∨ 1 ≤ k) : IsNeed k f (need k f) := by
  refine needF_spec f 0 ?_ fun s hs => by omega
  rcases h with rfl | h
  · exact Nat.zero_le _
  · obtain ⟨k, rfl⟩ : ∃ j, k = j + 1 := ⟨k - 1, by omega⟩
    rw [Nat.zero_add]
    exact rch_ge k f
theorem need_le {k f : Nat} (h : 1 ≤ k) : need k f ≤ f := by
  refine (need_spec (.inr h)).le ?_
  obtain ⟨k, rfl⟩ : ∃ j, k = j + 1 := ⟨k - 1, by omega⟩
  exact rch_ge k f
def R_needed (ds : List PyData) (r : Rs) : Prop := ∃ f n : Nat, ds = [.int f, .int n] ∧ f ≤ 1000 ∧ n ≤ 12 ∧ (f = 0 ∨ 1 ≤ n) ∧ r = .ok (.int (need n f))
def R_fewest (C : Addr) (ds : List PyData) (r : Rs) : Prop := ∃ n t : Int, ds = [.int n, .int t] ∧ r = if badA n t = true then .exc C else .ok (.int (need t.toNat n.toNat))
theorem R_fewest_ok {C : Addr} {n t : Nat} (h1 : n ≤ 1000) (h2 : t ≤ 12) (h3 : n = 0 ∨ 1 ≤ t) : R_fewest C [.int n, .int t] (.ok (.int (need t n))) := ⟨n, t, rfl, by rw [if_neg (badA_of h1 h2 h3)]; rfl⟩
/-- the first drops -/
def loD (k f : Nat) : Int := max 1 ((f : Int) - (rch k (need k f - 1) : Int))
def hiD (k f : Nat) : Int := min (f : Int) ((rch (k - 1) (need k f - 1) : Int) + 1)
def R_first (ds : List PyData) (r : Rs) : Prop := ∃ f n : Nat, ds = [.int f, .int n] ∧ 1 ≤ f ∧ f ≤ 1000 ∧ 1 ≤ n ∧ n ≤ 12 ∧ r = .ok (.tuple [.int (loD n f), .int (hiD n f)])
def R_choices (C : Addr) (ds : List PyData) (r : Rs) : Prop := ∃ n t : Int, ds = [.int n, .int t] ∧ r = if badA n t = true then .exc C else if n = 0 then .ok .none else .ok (.tuple [.int (loD t.toNat n.toNat), .int (hiD t.toNat n.toNat)])
theorem R_choices_ok {C : Addr} {n t : Nat} (h0 : 1 ≤ n) (h1 : n ≤ 1000) (h2 : t ≤ 12) (h3 : 1 ≤ t) : R_choices C [.int n, .int t] (.ok (.tuple [.int (loD t n), .int (hiD t n)])) :=
  ⟨n, t, rfl, by rw [if_neg (badA_of h1 h2 (.inr h3)), if_neg (by omega)]; rfl⟩
theorem R_choices_none {C : Addr} {t : Nat} (h2 : t ≤ 12) : R_choices C [.int (0 : Nat), .int t] (.ok .none) :=
  ⟨((0 : Nat) : Int), t, rfl, by rw [if_neg (badA_of (by omega) h2 (.inl rfl)), if_pos (show ((0 : Nat) : Int) = 0 from rfl)]⟩
def R_pair (ds : List PyData) (r : Rs) : Prop := ∃ x y : Int, ds = [.tuple [.int x, .int y]] ∧ r = .ok (.bool true)
/-- the bounds of the first drops -/
theorem lo_hi {k f : Nat} (hk : 1 ≤ k) (hf : 1 ≤ f) : 1 ≤ loD k f ∧ loD k f ≤ hiD k f ∧ hiD k f ≤ f := by
  have sp := need_spec (k := k) (f := f) (.inr hk)
  have hp := sp.pos hf
  have h1 := rch_pos (k := k) (t := need k f) hk hp
  have h2 := sp.ge
  have h3 := sp.lt' (need k f - 1) (by omega)
  unfold loD hiD
  omega
/-- d is a first drop by what is left on both sides -/
theorem lo_hi_iff {k f : Nat} (d : Int) (h1 : 1 ≤ d) (h2 : d ≤ f) : (d - 1 ≤ (rch (k - 1) (need k f - 1) : Int) ∧ (f : Int) - d ≤ (rch k (need k f - 1) : Int)) ↔ (loD k f ≤ d ∧ d ≤ hiD k f) := by
  unfold loD hiD
  omega
theorem filt_int (n a b : Nat) (hab : a ≤ b) (hb : b < n) : (List.range n).filter (fun i => decide (a ≤ i) && decide (i ≤ b)) = List.range' a (b + 1 - a) := by
  obtain ⟨m, rfl⟩ : ∃ m, n = a + ((b + 1 - a) + m) := ⟨n - (b + 1), by omega⟩
  rw [List.range_eq_range', ← List.range'_append_1, ← List.range'_append_1, List.filter_append, List.filter_append]
  rw [List.filter_eq_nil_iff.mpr, List.filter_eq_self.mpr, List.filter_eq_nil_iff.mpr, List.append_nil, List.nil_append, Nat.zero_add]
  · intro x hx
    have := List.mem_range'_1.mp hx
    simp only [Bool.and_eq_true, decide_eq_true_eq]
    omega
  · intro x hx
    have := List.mem_range'_1.mp hx
    simp only [Bool.and_eq_true, decide_eq_true_eq]
    omega
  · intro x hx
    have := List.mem_range'_1.mp hx
    simp only [Bool.and_eq_true, decide_eq_true_eq]
    omega
end Eg
namespace Eg
open PySem PySem.Spec PyProof.Rows L2
theorem sh_pair (x y : Int) : SeqAt.shaped (.tuple [.int x, .int y]) = true := by
  unfold SeqAt.shaped
  simp [PyData.canLay0, PyData.canLayAll0, PyData.depth, PyData.depthAll]
theorem eqv_pair (x y : Int) : PyData.eqv (.tuple [.int x, .int y]) (.tuple [.int x, .int y]) = true := SeqAt.eqv_refl _ (SeqAt.canLay_of_shaped (sh_pair x y))
theorem due_ends {k f : Nat} (hk : 1 ≤ k) (hf : 1 ≤ f) : atI (given f (fun i => decide ((1 : Int) + i - 1 ≤ (rch (k - 1) (need k f - 1) : Int)) && decide ((f : Int) - (1 + i) ≤ (rch k (need k f - 1) : Int))) (fun i => .int (1 + (i : Int)))) 0 = some (.int (loD k f)) ∧
    atI (given f (fun i => decide ((1 : Int) + i - 1 ≤ (rch (k - 1) (need k f - 1) : Int)) && decide ((f : Int) - (1 + i) ≤ (rch k (need k f - 1) : Int))) (fun i => .int (1 + (i : Int)))) (-1) = some (.int (hiD k f)) := by
  obtain ⟨h1, h2, h3⟩ := lo_hi hk hf
  have e : given f (fun i => decide ((1 : Int) + i - 1 ≤ (rch (k - 1) (need k f - 1) : Int)) && decide ((f : Int) - (1 + i) ≤ (rch k (need k f - 1) : Int))) (fun i => .int (1 + (i : Int))) = (List.range' ((loD k f).toNat - 1) ((hiD k f).toNat + 1 - (loD k f).toNat)).map fun (i : Nat) => PyData.int (1 + (i : Int)) := by
    unfold given
    rw [show (hiD k f).toNat + 1 - (loD k f).toNat = ((hiD k f).toNat - 1) + 1 - ((loD k f).toNat - 1) by omega, ← filt_int f _ _ (by omega) (by omega)]
    refine congrArg (List.map _) (List.filter_congr fun i hi => ?_)
    have hi' := List.mem_range.mp hi
    have q := lo_hi_iff (k := k) (f := f) (1 + (i : Int)) (by omega) (by omega)
    rw [← Bool.decide_and, ← Bool.decide_and]
    exact decide_eq_decide.mpr (Iff.trans q (by omega))
  rw [e]
  constructor
  · refine atI_nat' (j := 0) rfl ?_
    rw [List.getElem?_map, List.getElem?_range' (by omega)]
    exact congrArg (fun z => some (PyData.int z)) (by omega)
  · unfold atI ixN
    rw [List.length_map, List.length_range', if_neg (by decide), if_pos (by omega)]
    show (List.map _ _)[(-1 + (((hiD k f).toNat + 1 - (loD k f).toNat : Nat) : Int)).toNat]? = _
    rw [List.getElem?_map, List.getElem?_range' (by omega)]
    exact congrArg (fun z => some (PyData.int z)) (by omega)
end Eg
namespace Eg
open PySem PySem.Spec PyProof.Rows L2
/-! ### the table of the fewest drops, by all first drops -/
def W (k n : Nat) : Nat := if k = 0 then (if n = 0 then 0 else 1000000) else need k n
theorem W_le {k n s : Nat} (hs : s < 1000000) : W k n ≤ s ↔ n ≤ rch k s := by
  unfold W
  split
  · next h =>
    subst h
    rw [rch_0]
    split <;> omega
  · next h =>
    have sp := need_spec (k := k) (f := n) (.inr (by omega))
    exact ⟨fun q => Nat.le_trans sp.ge (rch_le k q), fun q => sp.le q⟩
def wrow (k m : Nat) : List PyData := (List.range (m + 1)).map fun n => .int (W k n)
def wtab (f k : Nat) : List PyData := (List.range (k + 1)).map fun j => .list (wrow j f)
theorem wrow_len (k m : Nat) : (wrow k m).length = m + 1 := by
  unfold wrow
  rw [List.length_map, List.length_range]
theorem wtab_len (f k : Nat) : (wtab f k).length = k + 1 := by
  unfold wtab
  rw [List.length_map, List.length_range]
theorem wrow_at {k m j : Nat} {i : Int} (e : i = (j : Int)) (h : j ≤ m) : atI (wrow k m) i = some (.int (W k j)) := by
  refine atI_nat' e ?_
  unfold wrow
  rw [List.getElem?_map, List.getElem?_range (by omega)]
  rfl
theorem wtab_at {f k j : Nat} {i : Int} (e : i = (j : Int)) (h : j ≤ k) : atI (wtab f k) i = some (.list (wrow j f)) := by
  refine atI_nat' e ?_
  unfold wtab
  rw [List.getElem?_map, List.getElem?_range (by omega)]
  rfl
theorem wrow_next (k m : Nat) : wrow k m ++ [.int (W k (m + 1))] = wrow k (m + 1) := by
  unfold wrow
  rw [List.range_succ (n := m + 1), List.map_append]
  rfl
theorem wtab_next (f k : Nat) : wtab f k ++ [.list (wrow (k + 1) f)] = wtab f (k + 1) := by
  unfold wtab
  rw [List.range_succ (n := k + 1), List.map_append]
  rfl
theorem W_zero (k : Nat) : W (k + 1) 0 = 0 := by
  unfold W
  rw [if_neg (by omega)]
  have := need_le (k := k + 1) (f := 0) (by omega)
  omega
theorem wrow_zero (k : Nat) : wrow (k + 1) 0 = [.int 0] := by
  show [PyData.int (W (k + 1) 0)] = _
  rw [W_zero]
  rfl
theorem wtab_zero (f : Nat) : [PyData.list ([PyData.int 0] ++ (List.replicate f [PyData.int 1000000]).flatten)] = wtab f 0 := by
  show _ = [PyData.list (wrow 0 f)]
  refine congrArg (fun z => [PyData.list z]) (List.ext_getElem? fun i => ?_)
  rw [flat_one]
  unfold wrow
  rw [List.getElem?_map]
  cases i with
  | zero =>
    rw [List.getElem?_range (by omega)]
    rfl
  | succ i =>
    rw [show [PyData.int 0] ++ List.replicate f (PyData.int 1000000) = PyData.int 0 :: List.replicate f (PyData.int 1000000) from rfl, List.getElem?_cons_succ, List.getElem?_replicate]
    by_cases h : i < f
    · rw [if_pos h, List.getElem?_range (by omega)]
      rfl
    · rw [if_neg h, List.getElem?_eq_none (by rw [List.length_range]; omega)]
      rfl
/-- what is left in the worst, d + 1 the first drop of n + 1 floors -/
def mx (k n d : Nat) : Int := max (W k d : Int) (W (k + 1) (n - d) : Int)
theorem mx_le {k n d s : Nat} (hs : s < 1000000) : mx k n d ≤ s ↔ (d ≤ rch k s ∧ n - d ≤ rch (k + 1) s) := by
  have h1 := W_le (k := k) (n := d) hs
  have h2 := W_le (k := k + 1) (n := n - d) hs
  unfold mx
  omega
theorem mx_ge {k n d : Nat} (hn : n < 100000) (hd : d ≤ n) : (need (k + 1) (n + 1) : Int) - 1 ≤ mx k n d := by
  have sp := need_spec (k := k + 1) (f := n + 1) (.inr (by omega))
  have hp := sp.pos (by omega)
  have hle := need_le (k := k + 1) (f := n + 1) (by omega)
  generalize hT : need (k + 1) (n + 1) = T at *
  by_cases h1 : T = 1
  · have : (0 : Int) ≤ mx k n d := by
      unfold mx
      omega
    omega
  · by_cases q : mx k n d ≤ ((T - 2 : Nat) : Int)
    · obtain ⟨a, b⟩ := (mx_le (by omega)).mp q
      have h3 := sp.lt' (T - 1) (by omega)
      obtain ⟨u, rfl⟩ : ∃ u, T = u + 2 := ⟨T - 2, by omega⟩
      rw [show u + 2 - 1 = u + 1 by omega, rch_next] at h3
      rw [show u + 2 - 2 = u by omega] at a b
      omega
    · omega
theorem mx_eq {k n d : Nat} (hn : n < 100000) (hd : d ≤ n) : mx k n d = (need (k + 1) (n + 1) : Int) - 1 ↔ (loD (k + 1) (n + 1) ≤ 1 + (d : Int) ∧ 1 + (d : Int) ≤ hiD (k + 1) (n + 1)) := by
  have hp := (need_spec (k := k + 1) (f := n + 1) (.inr (by omega))).pos (by omega)
  have hle := need_le (k := k + 1) (f := n + 1) (by omega)
  have h1 := lo_hi_iff (k := k + 1) (f := n + 1) (1 + (d : Int)) (by omega) (by omega)
  have h2 := mx_ge (k := k) hn hd
  have h3 := mx_le (k := k) (n := n) (d := d) (s := need (k + 1) (n + 1) - 1) (by omega)
  rw [← h1]
  rw [show k + 1 - 1 = k by omega]
  constructor
  · intro e
    have := h3.mp (by omega)
    omega
  · intro e
    have := h3.mpr (by omega)
    omega
theorem mx_min {k n : Nat} (hn : n < 100000) : ((W (k + 1) (n + 1) : Int) - 1) ∈ ((List.range (n + 1)).map fun d => mx k n d) ∧ ∀ y ∈ ((List.range (n + 1)).map fun d => mx k n d), (W (k + 1) (n + 1) : Int) - 1 ≤ y := by
  have eW : W (k + 1) (n + 1) = need (k + 1) (n + 1) := if_neg (by omega)
  rw [eW]
  obtain ⟨h1, h2, h3⟩ := lo_hi (k := k + 1) (f := n + 1) (by omega) (by omega)
  constructor
  · refine List.mem_map.mpr ⟨(loD (k + 1) (n + 1)).toNat - 1, List.mem_range.mpr (by omega), ?_⟩
    exact (mx_eq hn (by omega)).mpr (by omega)
  · intro y hy
    obtain ⟨d, hd, rfl⟩ := List.mem_map.mp hy
    have := List.mem_range.mp hd
    exact mx_ge hn (by omega)
def R_worst_tab (ds : List PyData) (r : Rs) : Prop := ∃ f k : Nat, ds = [.int f, .int k] ∧ f ≤ 40 ∧ k ≤ 5 ∧ r = .new (wtab f k)
/-- the floors that have the least -/
def lst (k f n : Nat) : List PyData := given n (fun d => decide (loD k f ≤ 1 + (d : Int)) && decide (1 + (d : Int) ≤ hiD k f)) (fun d => .int (1 + (d : Int)))
theorem lst_all {k f : Nat} (hk : 1 ≤ k) (hf : 1 ≤ f) : lst k f f = ((List.range ((hiD k f + 1) - loD k f).toNat).map fun i : Nat => loD k f + (i : Int)).map PyData.int := by
  obtain ⟨h1, h2, h3⟩ := lo_hi hk hf
  unfold lst given
  rw [show (List.range f).filter (fun d : Nat => decide (loD k f ≤ 1 + (d : Int)) && decide (1 + (d : Int) ≤ hiD k f)) = List.range' ((loD k f).toNat - 1) (((hiD k f).toNat - 1) + 1 - ((loD k f).toNat - 1)) from ?_]
  · rw [List.range'_eq_map_range, List.map_map, List.map_map, show ((hiD k f).toNat - 1) + 1 - ((loD k f).toNat - 1) = (hiD k f + 1 - loD k f).toNat by omega]
    refine List.map_congr_left fun i hi => ?_
    show PyData.int (1 + (((loD k f).toNat - 1 + i : Nat) : Int)) = PyData.int (loD k f + (i : Int))
    exact congrArg PyData.int (by omega)
  · rw [← filt_int f _ _ (by omega) (by omega)]
    refine List.filter_congr fun i hi => ?_
    rw [← Bool.decide_and, ← Bool.decide_and]
    exact decide_eq_decide.mpr (by omega)
end Eg
namespace Eg
open PySem PySem.Spec PyProof.Rows L2
/-! ### the least sums -/
def argF (g : Nat → Nat) : Nat → Nat
  | 0 => 0
  | n + 1 => if g (n + 1) < g (argF g n) then n + 1 else argF g n
theorem argF_le (g : Nat → Nat) : ∀ n : Nat, argF g n ≤ n
  | 0 => Nat.le_refl _
  | n + 1 => by
    have ih := argF_le g n
    unfold argF
    split <;> omega
theorem argF_min (g : Nat → Nat) : ∀ (n d : Nat), d ≤ n → g (argF g n) ≤ g d
  | 0, d, h => by
    have e : d = 0 := by omega
    subst e
    exact Nat.le_refl _
  | n + 1, d, h => by
    have ih := argF_min g n
    unfold argF
    split
    · next q =>
      by_cases e : d = n + 1
      · subst e
        exact Nat.le_refl _
      · exact Nat.le_trans (Nat.le_of_lt q) (ih d (by omega))
    · next q =>
      by_cases e : d = n + 1
      · subst e
        omega
      · exact ih d (by omega)
theorem argF_first (g : Nat → Nat) : ∀ (n d : Nat), d < argF g n → g (argF g n) < g d
  | 0, d, h => by
    unfold argF at h
    omega
  | n + 1, d, h => by
    have ih := argF_first g n
    unfold argF at h ⊢
    split at h
    · next q =>
      rw [if_pos q]
      exact Nat.lt_of_lt_of_le q (argF_min g n d (by omega))
    · next q =>
      rw [if_neg q]
      exact ih d h
def S (k n : Nat) : Nat :=
  match k, n with
  | 0, 0 => 0
  | 0, _ + 1 => 1000000
  | _ + 1, 0 => 0
  | k + 1, n + 1 => n + 2 + (S k (argF (fun d => S k d + S (k + 1) (n - d)) n) + S (k + 1) (n - argF (fun d => S k d + S (k + 1) (n - d)) n))
termination_by (k, n)
/-- what is left, d + 1 the first drop of n + 1 floors -/
def gS (k n d : Nat) : Nat := S k d + S (k + 1) (n - d)
def bD (k n : Nat) : Nat := argF (gS k n) n
theorem S_00 : S 0 0 = 0 := by rw [S]
theorem S_0s (n : Nat) : S 0 (n + 1) = 1000000 := by rw [S]
theorem S_s0 (k : Nat) : S (k + 1) 0 = 0 := by rw [S]
theorem S_k0 : ∀ k : Nat, S k 0 = 0
  | 0 => S_00
  | k + 1 => S_s0 k
theorem S_ss (k n : Nat) : S (k + 1) (n + 1) = n + 2 + gS k n (bD k n) := by
  rw [S]
  rfl
theorem S_ge (k n d : Nat) (h : d ≤ n) : S (k + 1) (n + 1) ≤ n + 2 + gS k n d := by
  rw [S_ss]
  exact Nat.add_le_add_left (argF_min _ n d h) _
theorem bD_le (k n : Nat) : bD k n ≤ n := argF_le _ n
theorem S_le (k : Nat) : ∀ n : Nat, S (k + 1) n ≤ n * (n + 2)
  | 0 => by
    rw [S_s0]
    exact Nat.zero_le _
  | n + 1 => by
    have ih := S_le k n
    have h := S_ge k n 0 (Nat.zero_le _)
    unfold gS at h
    rw [S_k0, Nat.sub_zero, Nat.zero_add] at h
    have e : (n + 1) * (n + 1 + 2) = n * (n + 2) + n + (n + 3) := by
      rw [Nat.add_mul, Nat.one_mul, show n + 1 + 2 = (n + 2) + 1 by omega, Nat.mul_add n (n + 2) 1, Nat.mul_one]
    omega
theorem S_sml (k : Nat) {n : Nat} (h : n ≤ 100) : S (k + 1) n ≤ 10200 := by
  have h1 := S_le k n
  have h2 : n * (n + 2) ≤ 100 * 102 := Nat.mul_le_mul h (by omega)
  omega
/-- with no thing left only the first floor counts -/
theorem argF_zero {n : Nat} (h : n ≤ 100) : ∀ d : Nat, d ≤ n → argF (gS 0 n) d = 0
  | 0, _ => rfl
  | d + 1, hd => by
    have ih := argF_zero h d (by omega)
    unfold argF
    rw [ih, if_neg]
    unfold gS
    rw [S_0s, S_00]
    have := S_sml 0 (n := n - 0) (by omega)
    omega
def sD (k n : Nat) : PyData := if k = 0 ∧ n ≠ 0 then .none else .int (S k n)
def dD (k n : Nat) : PyData := if k = 0 ∨ n = 0 then .none else .int ((1 + bD (k - 1) (n - 1) : Nat) : Int)
def sRow (k m : Nat) : List PyData := (List.range (m + 1)).map (sD k)
def dRow (k m : Nat) : List PyData := (List.range (m + 1)).map (dD k)
def sTab (f k : Nat) : List PyData := (List.range (k + 1)).map fun j => .list (sRow j f)
def dTab (f k : Nat) : List PyData := (List.range (k + 1)).map fun j => .list (dRow j f)
theorem map_at {g : Nat → PyData} {m j : Nat} {i : Int} (e : i = (j : Int)) (h : j ≤ m) : atI ((List.range (m + 1)).map g) i = some (g j) := by
  refine atI_nat' e ?_
  rw [List.getElem?_map, List.getElem?_range (by omega)]
  rfl
theorem map_len {g : Nat → PyData} {m : Nat} : ((List.range (m + 1)).map g).length = m + 1 := by rw [List.length_map, List.length_range]
theorem map_next {g : Nat → PyData} {m : Nat} : (List.range (m + 1)).map g ++ [g (m + 1)] = (List.range (m + 1 + 1)).map g := by
  rw [List.range_succ (n := m + 1), List.map_append]
  rfl
theorem sD_s (k n : Nat) : sD (k + 1) n = .int (S (k + 1) n) := if_neg (by omega)
theorem dD_s (k n : Nat) : dD (k + 1) (n + 1) = .int ((1 + bD k n : Nat) : Int) := if_neg (by omega)
theorem sRow_0 (f : Nat) : [PyData.int 0] ++ (List.replicate f [PyData.none]).flatten = sRow 0 f := by
  refine List.ext_getElem? fun i => ?_
  rw [flat_one]
  unfold sRow
  rw [List.getElem?_map]
  cases i with
  | zero =>
    rw [List.getElem?_range (by omega)]
    show some (PyData.int 0) = some (sD 0 0)
    unfold sD
    rw [if_neg (by omega), S_00]
    rfl
  | succ i =>
    rw [show [PyData.int 0] ++ List.replicate f PyData.none = PyData.int 0 :: List.replicate f PyData.none from rfl, List.getElem?_cons_succ, List.getElem?_replicate]
    by_cases h : i < f
    · rw [if_pos h, List.getElem?_range (by omega)]
      show some PyData.none = some (sD 0 (i + 1))
      unfold sD
      rw [if_pos (by omega)]
    · rw [if_neg h, List.getElem?_eq_none (by rw [List.length_range]; omega)]
      rfl
theorem dRow_0 (f : Nat) : (List.replicate (f + 1) [PyData.none]).flatten = dRow 0 f := by
  refine List.ext_getElem? fun i => ?_
  rw [flat_one]
  unfold dRow
  rw [List.getElem?_map, List.getElem?_replicate]
  by_cases h : i < f + 1
  · rw [if_pos h, List.getElem?_range h]
    show some PyData.none = some (dD 0 i)
    unfold dD
    rw [if_pos (by omega)]
  · rw [if_neg h, List.getElem?_eq_none (by rw [List.length_range]; omega)]
    rfl
theorem sRow_s0 (k : Nat) : [PyData.int 0] = sRow (k + 1) 0 := by
  show _ = [sD (k + 1) 0]
  rw [sD_s, S_s0]
  rfl
theorem dRow_s0 (k : Nat) : [PyData.none] = dRow (k + 1) 0 := by
  show _ = [dD (k + 1) 0]
  unfold dD
  rw [if_pos (by omega)]
theorem sTab_at {f k j : Nat} {i : Int} (e : i = (j : Int)) (h : j ≤ k) : atI (sTab f k) i = some (.list (sRow j f)) := map_at e h
theorem dTab_at {f k j : Nat} {i : Int} (e : i = (j : Int)) (h : j ≤ k) : atI (dTab f k) i = some (.list (dRow j f)) := map_at e h
theorem sRow_at {m k j : Nat} {i : Int} (e : i = (j : Int)) (h : j ≤ m) : atI (sRow k m) i = some (sD k j) := map_at e h
theorem dRow_at {m k j : Nat} {i : Int} (e : i = (j : Int)) (h : j ≤ m) : atI (dRow k m) i = some (dD k j) := map_at e h
/-- the best so far, d first drops looked at -/
def bst (k n : Nat) : Nat → PyData
  | 0 => .none
  | d + 1 => .tuple [.int ((n + 2 + gS k n (argF (gS k n) d) : Nat) : Int), .int ((1 + argF (gS k n) d : Nat) : Int)]
def badT (f k : Int) : Bool := decide (60 < f) || badA f k
theorem badT_no {n t : Int} (h : ¬ badT n t = true) : ¬ badA n t = true ∧ ∃ n' t' : Nat, n = n' ∧ t = t' ∧ n' ≤ 60 ∧ t' ≤ 12 ∧ (n' = 0 ∨ 1 ≤ t') := by
  unfold badT at h
  simp only [Bool.or_eq_true, decide_eq_true_eq, not_or] at h
  obtain ⟨n', t', e1, e2, h1, h2, h3⟩ := badA_no h.2
  exact ⟨h.2, n', t', e1, e2, by omega, h2, h3⟩
theorem badT_of {n t : Nat} (h1 : n ≤ 60) (h2 : t ≤ 12) (h3 : n = 0 ∨ 1 ≤ t) : ¬ badT n t = true := by
  unfold badT
  simp only [Bool.or_eq_true, decide_eq_true_eq, not_or]
  exact ⟨by omega, badA_of (by omega) h2 h3⟩
def R_asktree (C : Addr) (ds : List PyData) (r : Rs) : Prop := ∃ n t : Int, ds = [.int n, .int t] ∧ r = if badT n t = true then .exc C else .ok .none
theorem R_asktree_ok {C : Addr} {n t : Nat} (h1 : n ≤ 60) (h2 : t ≤ 12) (h3 : n = 0 ∨ 1 ≤ t) : R_asktree C [.int n, .int t] (.ok .none) := ⟨n, t, rfl, by rw [if_neg (badT_of h1 h2 h3)]⟩
def R_tables (ds : List PyData) (r : Rs) : Prop := ∃ f k : Nat, ds = [.int f, .int k] ∧ f ≤ 60 ∧ k ≤ 12 ∧ r = .ok (.tuple [.list (sTab f k), .list (dTab f k)])
def R_least (C : Addr) (ds : List PyData) (r : Rs) : Prop := ∃ n t : Int, ds = [.int n, .int t] ∧ r = if badT n t = true then .exc C else .ok (.int (S t.toNat n.toNat))
theorem R_least_ok {C : Addr} {n t : Nat} (h1 : n ≤ 60) (h2 : t ≤ 12) (h3 : n = 0 ∨ 1 ≤ t) : R_least C [.int n, .int t] (.ok (.int (S t n))) := ⟨n, t, rfl, by rw [if_neg (badT_of h1 h2 h3)]; rfl⟩
end Eg
namespace Eg
open PySem PySem.Spec PyProof.Rows L2
/-! ### plans as trees -/
inductive Tr where
  | told (n : Int)
  | drop (n : Int) (b w : Tr)
def Tr.d : Tr → PyData
  | .told n => .tuple [.str "told", .int n]
  | .drop n b w => .tuple [.str "drop", .int n, b.d, w.d]
def Tr.dep : Tr → Nat
  | .told _ => 0
  | .drop _ b w => 1 + max b.dep w.dep
theorem tt_told : decide (("told" : Str) = "told") = true := by decide +kernel
theorem tt_dt : decide (("drop" : Str) = "told") = false := by decide +kernel
theorem tt_td : decide (("told" : Str) = "drop") = false := by decide +kernel
theorem tt_drop : decide (("drop" : Str) = "drop") = true := by decide +kernel
/-- the most drops of a plan; none: it isn't right -/
def wv : Tr → Int → Int → Int → Option Nat
  | .told n, lo, hi, _ => if lo = hi ∧ n = lo then some 0 else none
  | .drop n b w, lo, hi, k => if k = 0 ∨ ¬ (lo < n ∧ n ≤ hi) then none else
    match wv b lo (n - 1) (k - 1), wv w n hi k with
    | some x, some y => some (1 + max x y)
    | _, _ => none
theorem wv_told {n lo hi k : Int} : wv (.told n) lo hi k = if lo = hi ∧ n = lo then some 0 else none := rfl
theorem wv_no {n lo hi k : Int} {b w : Tr} (h : k = 0 ∨ ¬ (lo < n ∧ n ≤ hi)) : wv (.drop n b w) lo hi k = none := if_pos h
theorem wv_b {n lo hi k : Int} {b w : Tr} (h : ¬ (k = 0 ∨ ¬ (lo < n ∧ n ≤ hi))) (hb : wv b lo (n - 1) (k - 1) = none) : wv (.drop n b w) lo hi k = none := by
  unfold wv
  rw [if_neg h, hb]
theorem wv_w {n lo hi k : Int} {b w : Tr} (h : ¬ (k = 0 ∨ ¬ (lo < n ∧ n ≤ hi))) (hw : wv w n hi k = none) : wv (.drop n b w) lo hi k = none := by
  unfold wv
  rw [if_neg h, hw]
  cases wv b lo (n - 1) (k - 1) <;> rfl
theorem wv_ok {n lo hi k : Int} {b w : Tr} {x y : Nat} (h : ¬ (k = 0 ∨ ¬ (lo < n ∧ n ≤ hi))) (hb : wv b lo (n - 1) (k - 1) = some x) (hw : wv w n hi k = some y) : wv (.drop n b w) lo hi k = some (1 + max x y) := by
  unfold wv
  rw [if_neg h, hb, hw]
def resW (C : Addr) : Option Nat → Rs
  | none => .exc C
  | some v => .ok (.int v)
def resL : Option Nat → PyData
  | none => .none
  | some v => .int v
def R_worst (C : Addr) (n : Nat) (ds : List PyData) (r : Rs) : Prop := ∃ (t : Tr) (lo hi k : Int), ds = [t.d, .int lo, .int hi, .int k] ∧ t.dep < n ∧ r = resW C (wv t lo hi k)
def R_llooked (n : Nat) (ds : List PyData) (r : Rs) : Prop := ∃ (t : Tr) (lo hi k : Int), ds = [t.d, .int lo, .int hi, .int k] ∧ t.dep < n ∧ r = .ok (resL (wv t lo hi k))
def R_looked (C1 C2 : Addr) (ds : List PyData) (r : Rs) : Prop := ∃ (t : Tr) (f k : Int), ds = [t.d, .int f, .int k] ∧ t.dep < 100 ∧ r = if badT f k = true then .exc C1 else resW C2 (wv t 0 f k)
theorem R_looked_ok {C1 C2 : Addr} {t : Tr} {f k : Nat} {v : Nat} (h1 : f ≤ 60) (h2 : k ≤ 12) (h3 : f = 0 ∨ 1 ≤ k) (hd : t.dep < 100) (h : wv t 0 f k = some v) : R_looked C1 C2 [t.d, .int f, .int k] (.ok (.int v)) := ⟨t, f, k, rfl, hd, by rw [if_neg (badT_of h1 h2 h3), h]; rfl⟩
/-! ### the rule's plan -/
def dP (k s : Nat) : Nat := max 1 (min s (loD k s).toNat)
theorem dP_pos (k s : Nat) : 1 ≤ dP k s := Nat.le_max_left _ _
theorem dP_le {k s : Nat} (h : s ≠ 0) : dP k s ≤ s := by
  unfold dP
  omega
theorem dP_eq {k s : Nat} (hk : 1 ≤ k) (hs : 1 ≤ s) : (dP k s : Int) = loD k s := by
  have := lo_hi (k := k) (f := s) hk hs
  unfold dP
  omega
def planT (lo s k : Nat) : Tr := if h : s = 0 then .told lo else .drop ((lo + dP k s : Nat) : Int) (planT lo (dP k s - 1) (k - 1)) (planT (lo + dP k s) (s - dP k s) k)
termination_by s
decreasing_by
  all_goals
    have h1 := dP_pos k s
    have h2 := dP_le (k := k) h
    omega
theorem planT_0 (lo k : Nat) : planT lo 0 k = .told lo := by
  rw [planT]
  exact dif_pos rfl
theorem planT_s {lo s k : Nat} (h : s ≠ 0) : planT lo s k = .drop ((lo + dP k s : Nat) : Int) (planT lo (dP k s - 1) (k - 1)) (planT (lo + dP k s) (s - dP k s) k) := by
  rw [planT]
  exact dif_neg h
theorem planT_dep : ∀ (s lo k : Nat), (planT lo s k).dep ≤ s := by
  intro s
  induction s using Nat.strongRecOn with
  | _ s ih =>
    intro lo k
    by_cases h : s = 0
    · subst h
      rw [planT_0]
      exact Nat.le_refl _
    · rw [planT_s h]
      have h1 := dP_pos k s
      have h2 := dP_le (k := k) h
      have a := ih (dP k s - 1) (by omega) lo (k - 1)
      have b := ih (s - dP k s) (by omega) (lo + dP k s) k
      unfold Tr.dep
      omega
/-- what is left is within the reach of one drop less -/
theorem dP_left {k s : Nat} (hk : 1 ≤ k) (hs : 1 ≤ s) : dP k s - 1 = 0 ∨ 1 ≤ k - 1 := by
  have h1 := lo_hi (k := k) (f := s) hk hs
  have h2 := (lo_hi_iff (k := k) (f := s) (loD k s) (by omega) (by omega)).mpr ⟨by omega, by omega⟩
  have e := dP_eq hk hs
  by_cases q : 1 ≤ k - 1
  · exact .inr q
  · rw [show k - 1 = 0 by omega, rch_0] at h2
    exact .inl (by omega)
theorem need_zero (k : Nat) : need k 0 = 0 := rfl
theorem planT_wv : ∀ (s lo k : Nat) (hi : Int), s < 100000 → (s = 0 ∨ 1 ≤ k) → hi = (lo : Int) + s → wv (planT lo s k) lo hi k = some (need k s) := by
  intro s
  induction s using Nat.strongRecOn with
  | _ s ih =>
    intro lo k hi hs hk ehi
    by_cases h : s = 0
    · subst h
      rw [planT_0, wv_told, if_pos ⟨by omega, rfl⟩, need_zero]
    · have hk1 : 1 ≤ k := by omega
      rw [planT_s h]
      have h1 := dP_pos k s
      have h2 := dP_le (k := k) h
      have h3 := dP_left hk1 (show 1 ≤ s by omega)
      have e := dP_eq hk1 (show 1 ≤ s by omega)
      have a := ih (dP k s - 1) (by omega) lo (k - 1) (((lo + dP k s : Nat) : Int) - 1) (by omega) h3 (by omega)
      have b := ih (s - dP k s) (by omega) (lo + dP k s) k hi (by omega) (.inr hk1) (by omega)
      rw [show ((k - 1 : Nat) : Int) = (k : Int) - 1 by omega] at a
      rw [wv_ok (by omega) a b]
      have hm := mx_eq (k := k - 1) (n := s - 1) (d := dP k s - 1) (by omega) (by omega)
      rw [show k - 1 + 1 = k by omega, show s - 1 + 1 = s by omega] at hm
      have hl := lo_hi (k := k) (f := s) hk1 (by omega)
      have hm' := hm.mpr (by omega)
      unfold mx at hm'
      rw [show k - 1 + 1 = k by omega, show s - 1 - (dP k s - 1) = s - dP k s by omega] at hm'
      have w1 : W k (s - dP k s) = need k (s - dP k s) := if_neg (by omega)
      have w2 : W (k - 1) (dP k s - 1) = need (k - 1) (dP k s - 1) := by
        rcases h3 with z | z
        · rw [z]
          unfold W
          split <;> rfl
        · exact if_neg (by omega)
      rw [w1, w2] at hm'
      have := (need_spec (k := k) (f := s) (.inr hk1)).pos (by omega)
      exact congrArg some (by omega)
def R_grown (n : Nat) (ds : List PyData) (r : Rs) : Prop := ∃ (lo s k : Nat) (a b c : Int), ds = [.int a, .int b, .int c] ∧ a = lo ∧ b = (lo : Int) + s ∧ c = k ∧ s < n ∧ s ≤ 60 ∧ k ≤ 12 ∧ (s = 0 ∨ 1 ≤ k) ∧ r = .ok (planT lo s k).d
def R_plan (C : Addr) (ds : List PyData) (r : Rs) : Prop := ∃ f k : Int, ds = [.int f, .int k] ∧ r = if badT f k = true then .exc C else .ok (planT 0 f.toNat k.toNat).d
theorem R_plan_ok {C : Addr} {f k : Nat} (h1 : f ≤ 60) (h2 : k ≤ 12) (h3 : f = 0 ∨ 1 ≤ k) : R_plan C [.int f, .int k] (.ok (planT 0 f k).d) := ⟨f, k, rfl, by rw [if_neg (badT_of h1 h2 h3)]; rfl⟩
def R_lrule (n : Nat) (ds : List PyData) (r : Rs) : Prop := ∃ (lo s k : Nat) (a b c : Int), ds = [(planT lo s k).d, .int a, .int b, .int c] ∧ a = lo ∧ b = (lo : Int) + s ∧ c = k ∧ s < n ∧ s ≤ 60 ∧ k ≤ 12 ∧ (s = 0 ∨ 1 ≤ k) ∧ r = .ok (.bool true)
end Eg
namespace Eg
open PySem PySem.Spec PyProof.Rows L2
/-! ### drawn plans -/
def dR (ns : List Int) (at_ lo s k : Nat) : Nat := if k = 1 then 1 else 1 + (cell ns (at_ + (7 * lo + 3 * (lo + s)) % 40) / (1 + (k : Int)) % (s : Int)).toNat
theorem dR_pos (ns : List Int) (at_ lo s k : Nat) : 1 ≤ dR ns at_ lo s k := by
  unfold dR
  split <;> omega
theorem dR_le {ns : List Int} {at_ lo s k : Nat} (h : s ≠ 0) : dR ns at_ lo s k ≤ s := by
  unfold dR
  split
  · omega
  · have h1 := Int.emod_nonneg (cell ns (at_ + (7 * lo + 3 * (lo + s)) % 40) / (1 + (k : Int))) (show (s : Int) ≠ 0 by omega)
    have h2 := Int.emod_lt_of_pos (cell ns (at_ + (7 * lo + 3 * (lo + s)) % 40) / (1 + (k : Int))) (show (0 : Int) < (s : Int) by omega)
    omega
theorem dR_left {ns : List Int} {at_ lo s k : Nat} (hk : 1 ≤ k) : dR ns at_ lo s k - 1 = 0 ∨ 1 ≤ k - 1 := by
  by_cases q : 1 ≤ k - 1
  · exact .inr q
  · refine .inl ?_
    unfold dR
    rw [if_pos (by omega)]
def drT (ns : List Int) (at_ lo s k : Nat) : Tr := if h : s = 0 then .told lo else .drop ((lo + dR ns at_ lo s k : Nat) : Int) (drT ns at_ lo (dR ns at_ lo s k - 1) (k - 1)) (drT ns at_ (lo + dR ns at_ lo s k) (s - dR ns at_ lo s k) k)
termination_by s
decreasing_by
  all_goals
    have h1 := dR_pos ns at_ lo s k
    have h2 := dR_le (ns := ns) (at_ := at_) (lo := lo) (k := k) h
    omega
theorem drT_0 (ns : List Int) (at_ lo k : Nat) : drT ns at_ lo 0 k = .told lo := by
  rw [drT]
  exact dif_pos rfl
theorem drT_s {ns : List Int} {at_ lo s k : Nat} (h : s ≠ 0) : drT ns at_ lo s k = .drop ((lo + dR ns at_ lo s k : Nat) : Int) (drT ns at_ lo (dR ns at_ lo s k - 1) (k - 1)) (drT ns at_ (lo + dR ns at_ lo s k) (s - dR ns at_ lo s k) k) := by
  rw [drT]
  exact dif_neg h
theorem drT_dep (ns : List Int) (at_ : Nat) : ∀ (s lo k : Nat), (drT ns at_ lo s k).dep ≤ s := by
  intro s
  induction s using Nat.strongRecOn with
  | _ s ih =>
    intro lo k
    by_cases h : s = 0
    · subst h
      rw [drT_0]
      exact Nat.le_refl _
    · rw [drT_s h]
      have h1 := dR_pos ns at_ lo s k
      have h2 := dR_le (ns := ns) (at_ := at_) (lo := lo) (k := k) h
      have a := ih (dR ns at_ lo s k - 1) (by omega) lo (k - 1)
      have b := ih (s - dR ns at_ lo s k) (by omega) (lo + dR ns at_ lo s k) k
      unfold Tr.dep
      omega
theorem drT_wv (ns : List Int) (at_ : Nat) : ∀ (s lo k : Nat) (hi : Int), (s = 0 ∨ 1 ≤ k) → hi = (lo : Int) + s → ∃ v, wv (drT ns at_ lo s k) lo hi k = some v := by
  intro s
  induction s using Nat.strongRecOn with
  | _ s ih =>
    intro lo k hi hk ehi
    by_cases h : s = 0
    · subst h
      exact ⟨0, by rw [drT_0, wv_told, if_pos ⟨by omega, rfl⟩]⟩
    · have hk1 : 1 ≤ k := by omega
      rw [drT_s h]
      have h1 := dR_pos ns at_ lo s k
      have h2 := dR_le (ns := ns) (at_ := at_) (lo := lo) (k := k) h
      obtain ⟨x, a⟩ := ih (dR ns at_ lo s k - 1) (by omega) lo (k - 1) (((lo + dR ns at_ lo s k : Nat) : Int) - 1) (dR_left hk1) (by omega)
      obtain ⟨y, b⟩ := ih (s - dR ns at_ lo s k) (by omega) (lo + dR ns at_ lo s k) k hi (.inr hk1) (by omega)
      rw [show ((k - 1 : Nat) : Int) = (k : Int) - 1 by omega] at a
      exact ⟨_, wv_ok (by omega) a b⟩
def R_ltree (n : Nat) (ds : List PyData) (r : Rs) : Prop := ∃ (ns : List Int) (at_ lo s k : Nat) (a b c : Int), ds = [.list (ns.map .int), .int at_, .int a, .int b, .int c] ∧ a = lo ∧ b = (lo : Int) + s ∧ c = k ∧ s < n ∧ s ≤ 60 ∧ k ≤ 12 ∧ (s = 0 ∨ 1 ≤ k) ∧ r = .ok (drT ns at_ lo s k).d
end Eg
namespace Eg
open PySem PySem.Spec PyProof.Rows L2
open Evl (Ex fresh_back ex_l ex_t ex_rd)
/-! ### the classes of errors, asked -/
theorem kit_own {K : PySem.W.Frag} {D C : Addr} {b : Bool} (hc : PySem.W.hasDictIn K C = true) (ht : PySem.W.typeIn K (.ref C) = some (.type "type")) (hs : PySem.W.subIn K (.ref D) (.ref C) = some b) (hn : b = false → (Value.ref D == Value.ref C) = false) : PySem.W.kitOne K (.ref D) (.ref C) = some b := by
  obtain ⟨cd, hcd, _⟩ := PySem.W.any_some hc
  have e2 : ((PySem.W.clsIn K C).isSome && PySem.W.typeIn K (.ref C) == some (.type "type")) = true := by rw [hcd, ht] <;> rfl
  have e3 : PySem.W.kitCls K (.ref D) (.ref C) = some b := by
    show (if _ then PySem.W.subIn K (.ref D) (.ref C) else none) = some b
    rw [if_pos e2, hs]
  show (if (Value.ref D == Value.ref C) = true then some true else PySem.W.kitCls K (.ref D) (.ref C)) = some b
  rw [e3]
  cases b with
  | true => split <;> rfl
  | false => rw [hn rfl] <;> rfl
theorem kit_val {K : PySem.W.Frag} {D : Addr} {n : String} {b : Bool} (hm : PySem.W.kitMeta n = true) (hs : PySem.W.subIn K (.ref D) (.type n) = some b) (hn : (Value.ref D == Value.type n) = false) : PySem.W.kitOne K (.ref D) (.type n) = some b := by
  show (if (Value.ref D == Value.type n) = true then some true else if PySem.W.kitMeta n = true then PySem.W.subIn K (.ref D) (.type n) else none) = some b
  rw [hn, hm, hs] <;> rfl
/-- isinstance(e, c), e the exception that a suite holds: its object is at a -/
theorem isE {X : Cx} {K : PySem.W.Frag} {a D : Addr} {oe : Obj} (F : L2.ExcC K D) (hz : Zc (.ref D) none oe) (hf : ∃ vs, oe.data = .fields vs) (hp : (a, oe) ∈ X.pn) (hK : X.K = K := by rfl) : CallR X (.builtin "isinstance") (rIsE K D a) := by
  subst hK
  rintro pins s σ H xs us Q I r ⟨c, cv, b, rfl, only, ek, q⟩
  cases r with
  | cons r1 rest =>
  cases rest with
  | cons r2 rest =>
  cases rest
  cases r1
  cases only _ r2
  have there := (I.pin (a, oe) (List.mem_append.mpr (.inl hp))).1
  obtain ⟨vs, hv⟩ := hf
  have at_ : PySem.W.InstAt s.heap a oe D none := by
    rcases oe with ⟨o1, o2, o3, o4⟩
    rcases hz with ⟨z1, z2⟩
    dsimp only at z1 z2 hv
    cases z1; cases z2; cases hv
    exact ⟨there, rfl, rfl, trivial⟩
  refine PySem.W.kia_one (PySem.W.handS_kitx_exc F.hg F.hk F.hs F.hd F.ha F.hn F.ht F.hm) I.kIn at_ ek (fun z => nomatch z) fun tk => ?_
  exact ⟨.bl b, H, I.kept (t' := tk) fun _ _ z => z, rfl, q⟩
def Wh (K : PySem.W.Frag) (C1 C2 C3 C4 : Addr) (D : Addr) (ds : List PyData) : Prop := L2.ExcC K D ∧ ∃ b1 b2 b3 b4 b5, PySem.W.kitOne K (.ref D) (.ref C1) = some b1 ∧ PySem.W.kitOne K (.ref D) (.ref C2) = some b2 ∧ PySem.W.kitOne K (.ref D) (.ref C3) = some b3 ∧ PySem.W.kitOne K (.ref D) (.ref C4) = some b4 ∧ PySem.W.kitOne K (.ref D) (.type "ValueError") = some b5 ∧ ds = [.bool b1, .bool b2, .bool b3, .bool b4, .bool b5]
section
variable {K : PySem.W.Frag} {E : XK} {ρ : Rho}
theorem GE.isE {i : Nat} {a D : Addr} {c : V} {cv : Value} {b : Bool} (h : ρ[i]? = some (some (.fix (.ref a)))) (hc : ∀ u, RelV c u → u = cv) (hk : PySem.W.kitOne K (.ref D) cv = some b) : GE K E (tCB (rIsE K D a) (tCons (tVar i) (tCons (tC c) tNil))) ρ (.ok (.bool b)) := fun H0 B H σ bh s Q q =>
  ⟨.ref a, s.fix i _ h, c, cv, b, rfl, hc, hk, q.go _ B H (.refl bh) (.bl b)⟩
theorem Sl.setFix {H0 B H : Hp} {σ : L2.St} (s : Sl K H0 B H σ ρ) (i : Nat) {v : V} : Sl K H0 B H (σ.set i (some v)) (ρ.set i (some (.fix v))) where
  len := by rw [List.length_set, List.length_set, s.len]
  dat := fun j e h => by
    rcases set_get h with ⟨rfl, q⟩ | ⟨n, q⟩
    · cases q
    · rw [List.getElem?_set_ne n]
      exact s.dat j e q
  own := fun j ds h => by
    rcases set_get h with ⟨rfl, q⟩ | ⟨n, q⟩
    · cases q
    · rw [List.getElem?_set_ne n]
      exact s.own j ds q
  sep := fun j k dj dk hjk hj hk => by
    rcases set_get hj with ⟨rfl, q⟩ | ⟨n, q⟩
    · cases q
    · rcases set_get hk with ⟨rfl, q'⟩ | ⟨n', q'⟩
      · cases q'
      · rw [List.getElem?_set_ne n, List.getElem?_set_ne n']
        exact s.sep j k dj dk hjk q q'
  fix := fun j u h => by
    rcases set_get h with ⟨rfl, q⟩ | ⟨n, q⟩
    · cases q
      have hl := set_lt h
      rw [← s.len] at hl
      exact List.getElem?_set_self hl
    · rw [List.getElem?_set_ne n]
      exact s.fix j u q
  inv := fun j u iv h => by
    rcases set_get h with ⟨rfl, q⟩ | ⟨n, q⟩
    · cases q
    · rw [List.getElem?_set_ne n]
      exact s.inv j u iv q
  isep := fun j k u iv es b hj hk hb => by
    rcases set_get hj with ⟨rfl, q⟩ | ⟨n, q⟩
    · cases q
    · rcases set_get hk with ⟨rfl, q'⟩ | ⟨n', q'⟩
      · cases q'
      · rw [List.getElem?_set_ne n'] at hb
        exact s.isep j k u iv es b q q' hb
  iisep := fun j k u u' iv iv' hjk hj hk => by
    rcases set_get hj with ⟨rfl, q⟩ | ⟨n, q⟩
    · cases q
    · rcases set_get hk with ⟨rfl, q'⟩ | ⟨n', q'⟩
      · cases q'
      · exact s.iisep j k u u' iv iv' hjk q q'
theorem sl_fix1 {B H : Hp} {N : List Str} {v : V} (hN : N.length = 2) : Sl K H B H (L2.start N [v]) [some (.fix v), none] where
  len := by
    unfold L2.start
    rw [List.length_append, List.length_map, List.length_replicate, hN] <;> rfl
  dat := fun i d h => by
    match i, h with
    | 0, h => cases h
    | 1, h => cases h
  own := fun i d h => by
    match i, h with
    | 0, h => cases h
    | 1, h => cases h
  sep := fun i j di dj _ h => by
    match i, h with
    | 0, h => cases h
    | 1, h => cases h
  fix := fun i u h => by
    match i, h with
    | 0, h =>
      cases h
      rfl
    | 1, h => cases h
  inv := fun i u iv h => by
    match i, h with
    | 0, h => cases h
    | 1, h => cases h
  isep := fun i j u iv es b h => by
    match i, h with
    | 0, h => cases h
    | 1, h => cases h
  iisep := fun i j u u' iv iv' _ h => by
    match i, h with
    | 0, h => cases h
    | 1, h => cases h
end
/-- a def of one argument, the exception that is handled; it comes to a new list by W -/
structure FnW (P : Program) (w : World) (K : PySem.W.Frag) (mg : Str → Option Value) (base : Heap) (x : Str) (W : Addr → List PyData → Prop) : Prop where
  ex : ∃ (f : Addr) (fd : FuncData) (n : Str), mg x = some (.ref f) ∧ PySem.W.keepIn K (.ref f) = true ∧ Binds K fd [n] [] ∧
    ∀ (A : Around) (outer : List Env) (s : Shared) (H : Hp) (args : Args) (Q : VK) (E : XK) (p : Addr × Obj) (D : Addr) (ds : List PyData), L2H.RoomH 1 A → Zc (.ref D) none p.2 → (∃ vs, p.2.data = .fields vs) → L2H.PinOk outer H s p → Env0 P w K mg base A outer s H →
      BindsTo s fd args [(n, .ref p.1)] → W D ds → (∃ B, Ex B H ∧ Fin K E0 B H (.new ds) Q) → codeAny (model P w) A (.call (.ref f) args) (CR (L2.CX P w) outer P w H s Q E) s
theorem fnW_mk {P : Program} {w : World} {K : PySem.W.Frag} {mg : Str → Option Value} {base : Heap} {x n : Str} {st : Stmt} {f : Addr} {fd : FuncData} {N : List Str} {W : Addr → List PyData → Prop} (F : Fun K x x st f fd) (S : FnScope N [n] (defScope st)) (hN : N.length = 2) (hm : mg x = some (.ref f)) (hb : Binds K fd [n] [])
    (body : ∀ (cdv : Value) (A : Around) (outer : List Env) (s : Shared) (H : Hp) (E : XK) (p : Addr × Obj) (D : Addr) (ds : List PyData), Zc (.ref D) none p.2 → (∃ vs, p.2.data = .fields vs) → W D ds → ∃ t, PSs (L2H.cxH (L2.CX P w) P w K mg base N x (defScope st) f cdv A outer s H E p) (defBody st) t ∧ GS K E0 t [some (.fix (.ref p.1)), none] (fun _ => False) (.new ds)) : FnW P w K mg base x W := by
  have kp := F.kp
  obtain ⟨oc, od, kV, doc, pm, an, cdv, ct, osl, rfl, lk, hcd⟩ := F.ex
  refine ⟨f, _, n, hm, kp, hb, fun A outer s H args Q E p D ds room hz hf okp env bt hW hQ => ?_⟩
  have inH : K.In s.heap := env.mod.kin.keeps fun b o e => (env.bs b o e).1
  have noLim : s.heap.NoLimit := env.mod.nolimit.keeps fun b o e => (env.bs b o e).1
  refine codeAny_call_function room.depth (inH _ _ lk) rfl S.co S.gen rfl (PySem.W.codeRec_of inH hcd) (bt _ _ _ _ ?_)
  refine wpAny_newFunctionEnv_cells S.kind (fun y hy => ?_) fun env1 he s1 call => ?_
  · rw [List.mem_singleton.mp hy]
    rcases S.par n (List.mem_singleton.mpr rfl) with k1 | k1
    · exact .inl k1
    · exact .inr ⟨k1, PySem.W.cellsFrom_some _ _ _ (.inl k1)⟩
  cases he
  refine ⟨noLim.keeps call.toInCall.keep, codeAny_func ?_⟩
  obtain ⟨t, ht, g⟩ := body cdv A outer s H E p D ds hz hf hW
  have I := L2H.inv_startH (CX := L2.CX P w) (E := E) (f := f) (cd := cdv) (vs := [.ref p.1]) S okp env rfl (.cons rfl .nil) call
  obtain ⟨B, bh, fin⟩ := hQ
  have hq : t { nx := fun _ H' => Q .non H', rt := Q } (L2.start N [.ref p.1]) H := g B H B H _ (.refl bh) (sl_fix1 hN) _ (fun _ _ _ _ _ _ z => z.elim) (fin_new fun v B' H' st' fv => fin.go v B' H' st' fv)
  refine wpAny_mono (ht.run [] s1 (L2.start N [.ref p.1]) H _ I hq) (fun fl s2 h2 => ?_) fun e s2 h2 => h2
  cases fl with
  | ret u =>
    obtain ⟨v, σ2, H2, J, rv, q⟩ := h2
    exact ⟨v, H2, J.os, J.bare, J.base, J.hok, rv, q⟩
  | next =>
    obtain ⟨σ2, H2, J, q⟩ := h2
    exact ⟨.non, H2, J.os, J.bare, J.base, J.hok, rfl, q⟩
  | brk =>
    obtain ⟨_, _, _, q⟩ := h2
    exact q.elim
  | cont =>
    obtain ⟨_, _, _, q⟩ := h2
    exact q.elim
def tWhich (K : PySem.W.Frag) (W : Addr → List PyData → Prop) (i : Nat) (a : Addr) (cls : Value) (d : Option Addr) : TE := fun σ H Q =>
  ∃ (D : Addr) (ds : List PyData), cls = .ref D ∧ d = none ∧ W D ds ∧ σ[i]? = some (some (.ref a)) ∧ ∃ B, Ex B H ∧ Fin K E0 B H (.new ds) Q
theorem pe_which {X : Cx} {P : Program} {w : World} {K : PySem.W.Frag} {mg : Str → Option Value} {base : Heap} {W : Addr → List PyData → Prop} {x : Str} {a : Addr} {oe : Obj} {cls : Value} {d : Option Addr} {pn : List (Addr × Obj)} {i k : Nat} {e : Expr} {p0 pos : Pos}
    (F : FnW P w K mg base x W) (hz : Zc cls d oe) (hf : ∃ vs, oe.data = .fields vs) (hr : Room k X.A) (hk : 1 ≤ k) (ha : PA (X.suite a ((a, oe) :: pn)) [e] (tCons (tVar i) tNil))
    (hP : X.prog = P := by rfl) (hw : X.w = w := by rfl) (hK : X.K = K := by rfl) (hmg : X.mg = mg := by rfl) (hB : X.base = base := by rfl) (hg : Gl X x := by rfl) (hdb : (x == ("__debug__" : Str)) = false := by decide)
    (he : starEach [e] X.env = [(false, eval e X.env)] := by rfl) (hpl : (backTo pos (starEach ([] : List Expr) X.env)).any (·.1) = false := by rfl) :
    PE (X.suite a ((a, oe) :: pn)) (.Call (.Name x p0) [e] [] pos) (tWhich K W i a cls d) := by
  subst hP hw hK hmg hB
  obtain ⟨f, fd, n, hm, hkp, hb, run⟩ := F.ex
  refine ⟨fun pins s σ H Q I h => ?_⟩
  obtain ⟨D, ds, rfl, rfl, hW, hs, hQ⟩ := h
  have go : ∀ {s1 : Shared} {us : List Value} {H1 : Hp}, Inv (X.suite a ((a, oe) :: pn)) pins σ H1 s1 → us = [.ref a] → (∃ B, Ex B H1 ∧ Fin X.K E0 B H1 (.new ds) Q) → wpAny (model X.prog X.w) (X.suite a ((a, oe) :: pn)).A (call (.ref f) us) (EP (X.suite a ((a, oe) :: pn)) pins σ Q) (X.suite a ((a, oe) :: pn)).xe s1 := by
    rintro s1 us H1 I1 rfl q1
    have pin := I1.pin (a, oe) (List.mem_append_left _ (List.mem_cons_self ..))
    have okp : L2H.PinOk X.stack H1 s1 (a, oe) := ⟨pin.1, pin.2.1, fun hm' => (List.mem_cons.mp (I1.stkSub a hm')).elim pin.2.2.1 pin.2.2.2.1, pin.2.2.2.2⟩
    have bt := hb s1 [.ref a] I1.kIn rfl
    have room : L2H.RoomH 1 (X.suite a ((a, oe) :: pn)).A := ⟨(hr.mono hk).dp, (hr.mono hk).un⟩
    have c := run (X.suite a ((a, oe) :: pn)).A X.stack s1 H1 ⟨[.ref a], []⟩ Q E0 (a, oe) D ds room hz hf okp I1.env0 bt hW q1
    refine wpAny_call (codeAny_mono c fun r s2 hq => ?_)
    rcases r with er | fl
    · obtain ⟨_, _, _, _, _, _, _, _, _, _, _, _, z⟩ := hq
      exact z.elim
    · cases fl with
      | ret u => exact I1.after hq
      | next => exact hq.elim
      | brk => exact hq.elim
      | cont => exact hq.elim
  refine wpAny_Call_Name_kw (ld_glob I hg hm ?_ hdb)
  refine PySem.W.callWith_K (h₀ := X.base) I.ok.mod.kin hkp (thn (ha.run pos pins s σ H (fun vs H1 => vs = [.ref a] ∧ ∃ B, Ex B H1 ∧ Fin X.K E0 B H1 (.new ds) Q) I ⟨.ref a, hs, rfl, hQ⟩) fun us s1 ⟨vs, H1, I1, rv, ev, q1⟩ => ⟨I1.kIn, ?_⟩) he hpl
  subst ev
  refine go I1 ?_ q1
  cases rv with
  | cons r1 rest =>
    cases rest
    cases r1
    rfl
/-- a call in a try's body -/
theorem pe_fW {X : Cx} {P : Program} {w : World} {K : PySem.W.Frag} {mg : Str → Option Value} {base : Heap} {R : List PyData → Rs → Prop} {k j : Nat} {x : Str} {W : WX} {p pos : Pos} {e : Expr} {es : List Expr} {ta : TA} (C : Fn P w K mg base k x R) (hr : Room j X.A) (hk : k ≤ j) (tk : Takes X W) (ha : PA X (e :: es) ta)
    (hP : X.prog = P := by rfl) (hw : X.w = w := by rfl) (hK : X.K = K := by rfl) (hmg : X.mg = mg := by rfl) (hB : X.base = base := by rfl) (hg : Gl X x := by rfl) (hdb : (x == ("__debug__" : Str)) = false := by decide) (he : starEach (e :: es) X.env = (false, eval e X.env) :: starEach es X.env := by rfl) (hpl : (backTo pos (starEach es X.env)).any (·.1) = false := by rfl) :
    PE X (.Call (.Name x p) (e :: es) [] pos) (tCallS (spR K R) (WE W) ta) := by
  subst hP hw hK hmg hB
  obtain ⟨f, fd, ps, F, hm, hkp, hb⟩ := C.ex
  exact pe_callS F (hr.mono hk) hg hm hkp hb (passAt tk) ha hdb he hpl
/-! ### try: body, except x as n: suite -/
section
variable {K : PySem.W.Frag} {E E' : XK} {ρ : Rho} {Nx : Rho → Prop} {r : Rs} {o : Option Addr}
/-- a body: it goes on, or lets out an error of the class o with the names as they were -/
def GB (K : PySem.W.Frag) (tb : WX → TS) (ρ : Rho) (o : Option Addr) (Nx : Rho → Prop) : Prop := ∀ B0 H0 B H σ, Step B0 H0 B H → Sl K H0 B H σ ρ → ∀ (W : WX) (D : Ends),
  (∀ σ' B' H' ρ', Step B0 H0 B' H' → Sl K H0 B' H' σ' ρ' → Nx ρ' → D.nx σ' H') → (∀ C, o = some C → ∀ B' H', Step B H B' H' → W (.ref C) none σ H') → tb W D σ H
theorem GB.ifs {tc : TT} {b : Bool} {t u : WX → TS} (h : GT K E' tc ρ b) (h1 : b = true → GB K t ρ o Nx) (h2 : b = false → GB K u ρ o Nx) : GB K (fun W => tIfS tc (t W) (u W)) ρ o Nx := fun B0 H0 B H σ st s W D nx up =>
  h H0 B H σ st.dh s _ fun B' H' st' => by
    cases b with
    | true => exact h1 rfl B0 H0 B' H' σ (st.trans st') (s.mono st') W D nx fun C e B2 H2 s2 => up C e B2 H2 (st'.trans s2)
    | false => exact h2 rfl B0 H0 B' H' σ (st.trans st') (s.mono st') W D nx fun C e B2 H2 s2 => up C e B2 H2 (st'.trans s2)
theorem GB.next (n : Nx ρ) : GB K (fun _ => tNext) ρ o Nx := fun B0 H0 B H σ st s W D nx up => nx σ B H ρ st s n
/-- what the call comes to: an error, or what is let go on -/
def outX : Rs → Option Addr
  | .exc C => some C
  | _ => none
theorem GB.drop {R : List PyData → Rs → Prop} {ta : TA} {ds : List PyData} {q : Rs} (ha : GA K E' ta ρ ds) (hr : R ds q) (ho : outX q = o) (n : o = none → Nx ρ) : GB K (fun W => tDrop (tCallS (spR K R) (WE W) ta)) ρ o Nx := fun B0 H0 B H σ st s W D nx up =>
  ha H0 B H σ st.dh s _ fun vs B1 H1 s1 d1 => ⟨B1, ds, q, s1.dh, d1, hr, fun v B2 H2 s2 f => nx σ B2 H2 ρ (st.trans (s1.trans s2)) (s.mono (s1.trans s2)) (n (by subst ho; cases q <;> first | rfl | exact f.elim)), fun C e B2 H2 s2 d ed => by
    subst e ho ed
    exact up C rfl B2 H2 (s1.trans s2)⟩
theorem GB.asg {R : List PyData → Rs → Prop} {ta : TA} {ds : List PyData} {d : PyData} {i : Nat} (ha : GA K E' ta ρ ds) (hr : R ds (.ok d)) (n : Nx (ρ.set i (some (.dat d)))) : GB K (fun W => tAsg (tCallS (spR K R) (WE W) ta) (gName i)) ρ o Nx := fun B0 H0 B H σ st s W D nx up =>
  ha H0 B H σ st.dh s _ fun vs B1 H1 s1 d1 => ⟨B1, ds, .ok d, s1.dh, d1, hr, fun v B2 H2 s2 f => nx _ B2 H2 _ (st.trans (s1.trans s2)) ((s.mono (s1.trans s2)).setD i f) n, fun C e => nomatch e⟩
theorem GB.asgX {R : List PyData → Rs → Prop} {ta : TA} {ds : List PyData} {C : Addr} {i : Nat} (ha : GA K E' ta ρ ds) (hr : R ds (.exc C)) : GB K (fun W => tAsg (tCallS (spR K R) (WE W) ta) (gName i)) ρ (some C) Nx := fun B0 H0 B H σ st s W D nx up =>
  ha H0 B H σ st.dh s _ fun vs B1 H1 s1 d1 => ⟨B1, ds, .exc C, s1.dh, d1, hr, fun v B2 H2 s2 f => f.elim, fun C' e B2 H2 s2 d ed => by
    cases e; cases ed
    exact up C rfl B2 H2 (s1.trans s2)⟩
def tTryAs (K : PySem.W.Frag) (c : Value) (i : Nat) (tb : WX → TS) (ts : Addr → Value → Option Addr → TS) (Wout : WX) : TS := fun D σ H => tb (wAs K c i ts Wout D) D σ H
theorem ps_tryA {X : Cx} {x n : Str} {c : Value} {i : Nat} {body suite : List Stmt} {b₀ : Stmt} {np pos pos' : Pos} {tb : WX → TS} {ts : Addr → Value → Option Addr → TS} {Wout : WX} (K : PySem.W.Frag) (h1 : X.stack = X.env :: X.outer) (h2 : X.env.frame = some X.env.locals) (h3 : X.N.Nodup) (h4 : X.N[i]? = some n) (h5 : X.env.kindOf n = some .local) (h6 : Names X x c) (h7 : Takes X Wout)
    (hb : ∀ (W : WX) (pn : List (Addr × Obj)) (xe : Value → Shared → Prop), Takes (X.tr pn xe) W → PassesOwn (model X.prog X.w) X.A X.env xe → PSs (X.tr pn xe) body (tb W))
    (hs : ∀ (a : Addr) (oe : Obj) (cls : Value) (d : Option Addr) (pn : List (Addr × Obj)), Zc cls d oe → (∃ vs, oe.data = .fields vs) → PSs (X.suite a ((a, oe) :: pn)) (b₀ :: suite) (ts a cls d)) (hK : X.K = K := by rfl) :
    PS X (.Try body [.ExceptHandler (some (.Name x np)) (some n) (b₀ :: suite) pos'] [] [] pos) (tTryAs K c i tb ts Wout) := by
  subst hK
  exact ps_try_as h1 h2 h3 h4 h5 h6 h7 hb hs
theorem GS.tryAs {c : Value} {i : Nat} {tb : WX → TS} {ts : Addr → Value → Option Addr → TS} {Wout : WX} (o : Option Addr) (hb : GB K tb ρ o Nx) (hx : ∀ C, o = some C → PySem.W.exmOne K (.ref C) c = some true ∧ ∀ a, GS K E (ts a (.ref C) none) (ρ.set i (some (.fix (.ref a)))) (fun ρ' => Nx (ρ'.set i none)) r) :
    GS K E (tTryAs K c i tb ts Wout) ρ Nx r := fun B0 H0 B H σ st s D nx fn =>
  hb B0 H0 B H σ st s _ D nx fun C e B' H' st' => by
    obtain ⟨ht, hg⟩ := hx C e
    refine ⟨true, ht, fun _ a ha => ?_, fun q => nomatch q⟩
    exact hg a B0 H0 B' H' _ (st.trans st') ((s.mono st').setFix i) _ (fun σ2 B2 H2 ρ2 s2 sl n => nx _ B2 H2 _ s2 (sl.forget i) n) fn
theorem GS.asgWhich {i j : Nat} {a D : Addr} {W : Addr → List PyData → Prop} {ds : List PyData} (hW : W D ds) (h : ρ[i]? = some (some (.fix (.ref a)))) (n : Nx (ρ.set j (some (.own ds)))) : GS K E (tAsg (tWhich K W i a (.ref D) none) (gName j)) ρ Nx r := fun B0 H0 B H σ st s D' nx fn =>
  ⟨D, ds, rfl, rfl, hW, s.fix i _ h, B, st.dh, fin_new fun v B' H' st' f => by
    obtain ⟨b, xs, rfl, h0, hb, h1, hd⟩ := f
    refine nx _ B' H' _ (st.trans st') ((s.mono st').setN j (fresh_back st.h h0) hb h1 hd (fun m dm q z => ?_) fun m u iv q z => ((s.inv m u iv q).2.2 b z).2.2 h0) n
    obtain ⟨b', ys, e1, _, _, e2, _⟩ := s.own m dm q
    rw [e1] at z
    cases z
    rw [h0] at e2
    cases e2⟩
end
end Eg
namespace Eg
open PySem PySem.Spec PyProof.Rows L2
open Evl (Ex fresh_back ex_l ex_t ex_rd)
/-! ### objects made -/
structure FnMk (P : Program) (w : World) (K : PySem.W.Frag) (mg : Str → Option Value) (base : Heap) (k : Nat) (C : Addr) (sp : Sp) : Prop where
  ex : ∃ (f : Addr) (fd : FuncData) (ps : List Str), FnOk P w K mg base (L2.CX P w) k f fd ps sp ∧ Mk K C f ∧ Binds K fd ps []
theorem pe_mk {X : Cx} {P : Program} {w : World} {K : PySem.W.Frag} {mg : Str → Option Value} {base : Heap} {sp : Sp} {k j : Nat} {x : Str} {C : Addr} {E : XK} {p pos : Pos} {e : Expr} {es : List Expr} {ta : TA} (F : FnMk P w K mg base k C sp) (hm : mg x = some (.ref C)) (hr : Room j X.A) (hk : k + 1 ≤ j) (hx : Passes (L2.CX X.prog X.w) X E) (ha : PA X (e :: es) ta)
    (hP : X.prog = P := by rfl) (hw : X.w = w := by rfl) (hK : X.K = K := by rfl) (hmg : X.mg = mg := by rfl) (hB : X.base = base := by rfl) (hg : Gl X x := by rfl) (hdb : (x == ("__debug__" : Str)) = false := by decide) (he : starEach (e :: es) X.env = (false, eval e X.env) :: starEach es X.env := by rfl) (hpl : (backTo pos (starEach es X.env)).any (·.1) = false := by rfl) :
    PE X (.Call (.Name x p) (e :: es) [] pos) (tMake C sp [] E ta) := by
  subst hP hw hK hmg hB
  obtain ⟨f, fd, ps, G, M, hb⟩ := F.ex
  exact pe_make M G (hr.mono hk) hg hm hb .nil hx ha hdb he hpl
/-- nothing is asked of the def, under another name -/
theorem fn_noneA {P : Program} {w : World} {K : PySem.W.Frag} {mg : Str → Option Value} {base : Heap} {x y qual : Str} {st : Stmt} {f : Addr} {fd : FuncData} {ps : List Str} {R : List PyData → Rs → Prop} (F : Fun K x qual st f fd) (hm : mg y = some (.ref f)) (b : Binds K fd ps []) (no : ∀ ds r, ¬ R ds r) : Fn P w K mg base 0 y R := by
  have n : ∀ vs H Q E, ¬ spR K R vs H Q E := fun vs H Q E h => by
    obtain ⟨B, ds, r, _, _, hR, _⟩ := h
    exact no ds r hR
  exact ⟨f, fd, ps, ⟨fun vs H Q E h => absurd h (n vs H Q E), fun A outer s H args us vs Q E _ _ _ _ h => absurd h (n vs H Q E)⟩, hm, F.kp, b⟩
/-- __init__ that raises at once -/
def spIX (K : PySem.W.Frag) (C : Addr) : Sp := fun vs H _ E => ∃ (p : Addr) (n t : Int), vs = [.ref p, .int n, .int t] ∧ badA n t = true ∧ ∃ B, Ex B H ∧ ∀ B' H', Step B H B' H' → E (.ref C) none H'
theorem GS.dropMkX {K : PySem.W.Frag} {E : XK} {ρ : Rho} {Nx : Rho → Prop} {C Cs : Addr} {ta : TA} {n t : Int} (ha : GA K E ta ρ [.int n, .int t]) (hb : badA n t = true) : GS K E (tDrop (tMake Cs (spIX K C) [] E ta)) ρ Nx (.exc C) := fun B0 H0 B H σ st s D nx fn =>
  ha H0 B H σ st.dh s _ fun vs B1 H1 s1 d1 => by
    cases d1 with
    | cons h1 d1 =>
    cases h1
    cases d1 with
    | cons h2 d1 =>
    cases h2; cases d1
    intro x dx hx hdx hne
    have sa : Step B1 H1 B1 (upd H1 dx (.own x)) := .own s1.dh hdx _
    have hx' : (upd H1 dx (.own x)) x = none := by rw [upd_ne (Ne.symm hne)]; exact hx
    have sb := sa.trans (.own sa.dh hx' (.ins Cs dx []))
    exact ⟨x, n, t, rfl, hb, B1, sb.dh, fun B' H' s2 => fn.up C rfl B' H' (st.trans (s1.trans (sb.trans s2))) none rfl⟩
end Eg
namespace Eg
open PySem PySem.Spec PyProof.Rows L2
open Evl (Ex fresh_back ex_l ex_t ex_rd)
/-! ### things of one's own that change -/
theorem Step.chg {B0 H0 B H H' : Hp} (st : Step B0 H0 B H) (fp : List Addr) (h0 : ∀ a ∈ fp, H0 a = none ∧ B a = none) (hH : ∀ a, a ∉ fp → H a ≠ none → H' a = H a) : Step B0 H0 B H' := by
  refine ⟨st.d, fun a o q => ?_, fun a o q => ?_, st.fr⟩
  · have n : a ∉ fp := fun z => by rw [(h0 a z).1] at q; cases q
    have e := st.h a o q
    rw [hH a n (by rw [e]; exact fun z => nomatch z), e]
  · have n : a ∉ fp := fun z => by rw [(h0 a z).2] at q; cases q
    have e := st.dh a o q
    rw [hH a n (by rw [e]; exact fun z => nomatch z), e]
theorem Sl.chg {K : PySem.W.Frag} {H0 B H H' : Hp} {σ : L2.St} {ρ : Rho} (s : Sl K H0 B H σ ρ) {i : Nat} {v : V} {iv : Iv} (hi : ρ[i]? = some (some (.inv v iv))) (iv' : Iv) (hH : ∀ a, a ∉ iv.fp → H a ≠ none → H' a = H a) (hfp : ∀ a ∈ iv'.fp, a ∈ iv.fp ∨ H a = none)
    (hI : iv'.I B H') (hne : ∀ a ∈ iv'.fp, H0 a = none ∧ B a = none ∧ H' a ≠ none) : Sl K H0 B H' σ (ρ.set i (some (.inv v iv'))) where
  len := by rw [List.length_set, s.len]
  dat := fun j e h => by
    rcases set_get h with ⟨rfl, q⟩ | ⟨n, q⟩
    · cases q
    · exact s.dat j e q
  own := fun j es h => by
    rcases set_get h with ⟨rfl, q⟩ | ⟨n, q⟩
    · cases q
    · obtain ⟨b, ys, e1, e2, e3, e4, e5⟩ := s.own j es q
      refine ⟨b, ys, e1, e2, e3, ?_, e5⟩
      rw [hH b (s.isep i j v iv es b hi q e1) (by rw [e4]; exact fun z => nomatch z), e4]
  sep := fun j k dj dk hjk hj hk => by
    rcases set_get hj with ⟨rfl, q⟩ | ⟨n, q⟩
    · cases q
    · rcases set_get hk with ⟨rfl, q'⟩ | ⟨n', q'⟩
      · cases q'
      · exact s.sep j k dj dk hjk q q'
  fix := fun j u h => by
    rcases set_get h with ⟨rfl, q⟩ | ⟨n, q⟩
    · cases q
    · exact s.fix j u q
  inv := fun j u jv h => by
    rcases set_get h with ⟨rfl, q⟩ | ⟨n, q⟩
    · cases q
      exact ⟨(s.inv i v iv hi).1, hI, hne⟩
    · obtain ⟨e1, e2, e3⟩ := s.inv j u jv q
      have same : ∀ a ∈ jv.fp, H' a = H a := fun a ha => hH a (s.iisep j i u v jv iv (Ne.symm n) q hi a ha) (e3 a ha).2.2
      exact ⟨e1, jv.stab _ _ _ _ (Ex.refl B) same e2, fun a ha => ⟨(e3 a ha).1, (e3 a ha).2.1, by rw [same a ha]; exact (e3 a ha).2.2⟩⟩
  isep := fun j k u jv es b hj hk hb => by
    rcases set_get hk with ⟨rfl, q'⟩ | ⟨n', q'⟩
    · cases q'
    · obtain ⟨b', ys, e1, _, _, e4, _⟩ := s.own k es q'
      rw [hb] at e1
      cases e1
      rcases set_get hj with ⟨rfl, q⟩ | ⟨n, q⟩
      · cases q
        intro z
        rcases hfp b z with z | z
        · exact s.isep i k v iv es b hi q' hb z
        · rw [e4] at z
          cases z
      · exact s.isep j k u jv es b q q' hb
  iisep := fun j k u u' jv kv hjk hj hk => by
    have key : ∀ (m : Nat) (w : V) (mv : Iv), i ≠ m → ρ[m]? = some (some (.inv w mv)) → ∀ a ∈ iv'.fp, a ∉ mv.fp := fun m w mv n q a ha z => by
      rcases hfp a ha with y | y
      · exact s.iisep i m v w iv mv n hi q a y z
      · exact ((s.inv m w mv q).2.2 a z).2.2 y
    rcases set_get hj with ⟨rfl, q⟩ | ⟨n, q⟩
    · rcases set_get hk with ⟨rfl, q'⟩ | ⟨n', q'⟩
      · exact absurd rfl hjk
      · cases q
        exact key k u' kv n' q'
    · rcases set_get hk with ⟨rfl, q'⟩ | ⟨n', q'⟩
      · cases q'
        exact fun a ha z => key j u jv n q a z ha
      · exact s.iisep j k u u' jv kv hjk q q'
theorem Sl.mkInv {K : PySem.W.Frag} {H0 B H H' : Hp} {σ : L2.St} {ρ : Rho} (s : Sl K H0 B H σ ρ) (i : Nat) {v : V} (iv' : Iv) (hH : ∀ a, H a ≠ none → H' a = H a) (hfp : ∀ a ∈ iv'.fp, H a = none)
    (hI : iv'.I B H') (hne : ∀ a ∈ iv'.fp, H0 a = none ∧ B a = none ∧ H' a ≠ none) : Sl K H0 B H' (σ.set i (some v)) (ρ.set i (some (.inv v iv'))) where
  len := by rw [List.length_set, List.length_set, s.len]
  dat := fun j e h => by
    rcases set_get h with ⟨rfl, q⟩ | ⟨n, q⟩
    · cases q
    · rw [List.getElem?_set_ne n]
      exact s.dat j e q
  own := fun j es h => by
    rcases set_get h with ⟨rfl, q⟩ | ⟨n, q⟩
    · cases q
    · obtain ⟨b, ys, e1, e2, e3, e4, e5⟩ := s.own j es q
      refine ⟨b, ys, by rw [List.getElem?_set_ne n]; exact e1, e2, e3, ?_, e5⟩
      rw [hH b (by rw [e4]; exact fun z => nomatch z), e4]
  sep := fun j k dj dk hjk hj hk => by
    rcases set_get hj with ⟨rfl, q⟩ | ⟨n, q⟩
    · cases q
    · rcases set_get hk with ⟨rfl, q'⟩ | ⟨n', q'⟩
      · cases q'
      · rw [List.getElem?_set_ne n, List.getElem?_set_ne n']
        exact s.sep j k dj dk hjk q q'
  fix := fun j u h => by
    rcases set_get h with ⟨rfl, q⟩ | ⟨n, q⟩
    · cases q
    · rw [List.getElem?_set_ne n]
      exact s.fix j u q
  inv := fun j u jv h => by
    rcases set_get h with ⟨rfl, q⟩ | ⟨n, q⟩
    · cases q
      have hl := set_lt h
      rw [← s.len] at hl
      exact ⟨List.getElem?_set_self hl, hI, hne⟩
    · obtain ⟨e1, e2, e3⟩ := s.inv j u jv q
      have same : ∀ a ∈ jv.fp, H' a = H a := fun a ha => hH a (e3 a ha).2.2
      exact ⟨by rw [List.getElem?_set_ne n]; exact e1, jv.stab _ _ _ _ (Ex.refl B) same e2, fun a ha => ⟨(e3 a ha).1, (e3 a ha).2.1, by rw [same a ha]; exact (e3 a ha).2.2⟩⟩
  isep := fun j k u jv es b hj hk hb => by
    rcases set_get hk with ⟨rfl, q'⟩ | ⟨n', q'⟩
    · cases q'
    · rw [List.getElem?_set_ne n'] at hb
      obtain ⟨b', ys, e1, _, _, e4, _⟩ := s.own k es q'
      rw [hb] at e1
      cases e1
      rcases set_get hj with ⟨rfl, q⟩ | ⟨n, q⟩
      · cases q
        intro z
        rw [hfp b z] at e4
        cases e4
      · exact s.isep j k u jv es b q q' hb
  iisep := fun j k u u' jv kv hjk hj hk => by
    have key : ∀ (m : Nat) (w : V) (mv : Iv), ρ[m]? = some (some (.inv w mv)) → ∀ a ∈ iv'.fp, a ∉ mv.fp := fun m w mv q a ha z => ((s.inv m w mv q).2.2 a z).2.2 (hfp a ha)
    rcases set_get hj with ⟨rfl, q⟩ | ⟨n, q⟩
    · rcases set_get hk with ⟨rfl, q'⟩ | ⟨n', q'⟩
      · exact absurd rfl hjk
      · cases q
        exact key k u' kv q'
    · rcases set_get hk with ⟨rfl, q'⟩ | ⟨n', q'⟩
      · cases q'
        exact fun a ha z => key j u jv q a z ha
      · exact s.iisep j k u u' jv kv hjk q q'
/-! ### a pile of lists, the last first -/
def Ins (K : PySem.W.Frag) (B H : Hp) : List Addr → List (List PyData) → Prop
  | [], [] => True
  | a :: as, ds :: dss => (∃ xs, H a = some (.lst xs) ∧ DpAll K B xs ds) ∧ Ins K B H as dss
  | _, _ => False
theorem Ins.stab {K : PySem.W.Frag} {B H B' H' : Hp} (eb : Ex B B') : ∀ (as : List Addr) (dss : List (List PyData)), (∀ a ∈ as, H' a = H a) → Ins K B H as dss → Ins K B' H' as dss
  | [], [], _, h => h
  | a :: as, ds :: dss, e, ⟨⟨xs, h1, h2⟩, h3⟩ => ⟨⟨xs, by rw [e a (List.mem_cons_self ..)]; exact h1, dpsM eb h2⟩, Ins.stab eb as dss (fun b hb => e b (List.mem_cons_of_mem _ hb)) h3⟩
theorem Ins.len {K : PySem.W.Frag} {B H : Hp} : ∀ (as : List Addr) (dss : List (List PyData)), Ins K B H as dss → as.length = dss.length
  | [], [], _ => rfl
  | a :: as, ds :: dss, ⟨_, h⟩ => congrArg Nat.succ (Ins.len as dss h)
def pileIv (K : PySem.W.Frag) (p : Addr) (as : List Addr) (dss : List (List PyData)) : Iv where
  fp := p :: as
  I := fun B H => (p :: as).Nodup ∧ H p = some (.lst (as.reverse.map V.ref)) ∧ Ins K B H as dss
  stab := fun B H B' H' eb e ⟨h0, h1, h2⟩ => ⟨h0, by rw [e p (List.mem_cons_self ..)]; exact h1, h2.stab eb as dss fun a ha => e a (List.mem_cons_of_mem _ ha)⟩
section
variable {K : PySem.W.Frag} {E : XK} {ρ : Rho} {Nx : Rho → Prop} {r : Rs} {p : Addr} {as : List Addr} {ds : List PyData} {dss : List (List PyData)} {i : Nat} {d : PyData} {te tm : TE}
theorem GE.pilLen (h : ρ[i]? = some (some (.inv (.ref p) (pileIv K p as dss)))) : GE K E (tCB (rLenQ K) (tCons (tVar i) tNil)) ρ (.ok (.int dss.length)) := fun H0 B H σ bh s Q q => by
  obtain ⟨e, ⟨_, hp, hi⟩, _⟩ := s.inv i _ _ h
  refine ⟨.ref p, e, p, _, rfl, .inl (.inl (.inl hp)), ?_⟩
  rw [List.length_map, List.length_reverse, hi.len]
  exact q.go _ B H (.refl bh) (.int _)
theorem last_ref {a : Addr} {as : List Addr} : atI ((a :: as).reverse.map V.ref) (-1) = some (.ref a) := by
  rw [List.reverse_cons, List.map_append]
  unfold atI ixN
  simp only [List.length_append, List.length_map, List.length_reverse, List.map_cons, List.map_nil, List.length_cons, List.length_nil]
  rw [if_neg (by omega), if_pos (by omega)]
  show ((List.map V.ref as.reverse ++ [V.ref a])[(-1 + ((as.length + (0 + 1) : Nat) : Int)).toNat]?) = _
  rw [show (-1 + ((as.length + (0 + 1) : Nat) : Int)).toNat = as.length by omega, List.getElem?_append_right (by simp)]
  simp
theorem GE.pilTop {a : Addr} (h : ρ[i]? = some (some (.inv (.ref p) (pileIv K p (a :: as) (ds :: dss))))) (hm : GE K E tm ρ (.ok (.int (-1)))) : GE K E (tOp (rIxL K) (tVar i) tm) ρ (.ali ds) := fun H0 B H σ bh s Q q => by
  obtain ⟨e, _, _⟩ := s.inv i _ _ h
  refine ⟨.ref p, e, hm H0 B H σ bh s _ (fin_ok fun w B1 H1 s1 d1 => ?_)⟩
  cases d1
  obtain ⟨_, ⟨_, hp, ⟨xs, h1, h2⟩, _⟩, _⟩ := (s.mono s1).inv i _ _ h
  exact ⟨p, _, -1, .ref a, rfl, rfl, .inl (.inl hp), last_ref, q.go _ B1 H1 s1 ⟨a, xs, rfl, h1, h2⟩⟩
theorem GS.pilNew (n : ∀ p, Nx (ρ.set i (some (.inv (.ref p) (pileIv K p [] []))))) : GS K E (tAsg (tLst tNil) (gName i)) ρ Nx r := fun B0 H0 B H σ st s D nx fn => by
  refine ⟨Evl.sz_of (by simp), fun p hp => ?_⟩
  have st' := st.trans (.own st.dh hp (.lst []))
  refine nx _ B _ _ st' (s.mkInv i (pileIv K p [] []) (fun a ha => upd_ne (fun z : a = p => ha (z ▸ hp))) (fun a ha => ?_) ⟨by simp, upd_same, trivial⟩ fun a ha => ?_) (n p)
  · rw [List.mem_singleton.mp ha]
    exact hp
  · rw [List.mem_singleton.mp ha]
    exact ⟨fresh_back st.h hp, none_of st.dh hp, by rw [upd_same]; exact fun z => nomatch z⟩
theorem GS.pilPush (h : ρ[i]? = some (some (.inv (.ref p) (pileIv K p as dss)))) (hz : as.length < 100000) (hd : GE K E te ρ (.ok d)) (n : ∀ a, Nx (ρ.set i (some (.inv (.ref p) (pileIv K p (a :: as) ([d] :: dss)))))) : GS K E (tDrop (tBM K "list" rAppend (tVar i) (tCons (tLst (tCons te tNil)) tNil))) ρ Nx r := fun B0 H0 B H σ st s D nx fn => by
  obtain ⟨e, ⟨_, hp0, _⟩, _⟩ := s.inv i _ _ h
  refine ⟨.ref p, e, .inl ⟨rfl, _, .inl (.inl hp0)⟩, hd H0 B H σ st.dh s _ (fin_ok fun v B1 H1 s1 d1 => ?_)⟩
  refine ⟨Evl.sz_of (by simp), fun a ha => ?_⟩
  have st1 := st.trans s1
  have sl := s.mono s1
  obtain ⟨_, ⟨nd, hp, hi⟩, hf⟩ := sl.inv i _ _ h
  have nap : a ≠ p := fun z => (hf p (List.mem_cons_self ..)).2.2 (z ▸ ha)
  have nas : a ∉ as := fun z => (hf a (List.mem_cons_of_mem _ z)).2.2 ha
  refine ⟨p, _, _, rfl, rfl, by rw [upd_ne nap.symm]; exact hp, Evl.sz_lt (by rw [List.length_map, List.length_reverse]; exact hz), ?_⟩
  have hH : ∀ b, b ∉ p :: as → H1 b ≠ none → (upd (upd H1 a (.lst [v])) p (.lst (as.reverse.map V.ref ++ [.ref a]))) b = H1 b := fun b hb hn => by
    rw [upd_ne (fun z : b = p => hb (by rw [z]; exact List.mem_cons_self ..)), upd_ne (fun z : b = a => hn (by rw [z]; exact ha))]
  have st2 := st1.chg (p :: as) (fun b hb => ⟨(hf b hb).1, (hf b hb).2.1⟩) hH
  refine nx σ B1 _ _ st2 (sl.chg h (pileIv K p (a :: as) ([d] :: dss)) hH (fun b hb => ?_) ⟨?_, ?_, ⟨[v], ?_, .cons d1 .nil⟩, ?_⟩ fun b hb => ?_) (n a)
  · rcases List.mem_cons.mp hb with z | z
    · exact .inl (by rw [z]; exact List.mem_cons_self ..)
    · rcases List.mem_cons.mp z with y | y
      · exact .inr (by rw [y]; exact ha)
      · exact .inl (List.mem_cons_of_mem _ y)
  · obtain ⟨n1, n2⟩ := List.nodup_cons.mp nd
    refine List.nodup_cons.mpr ⟨fun z => ?_, List.nodup_cons.mpr ⟨nas, n2⟩⟩
    rcases List.mem_cons.mp z with y | y
    · exact nap y.symm
    · exact n1 y
  · rw [upd_same, List.reverse_cons, List.map_append] <;> rfl
  · rw [upd_ne nap, upd_same]
  · exact hi.stab (Ex.refl B1) as dss fun b hb => by
      rw [upd_ne (fun z : b = p => (List.nodup_cons.mp nd).1 (z ▸ hb)), upd_ne (fun z : b = a => nas (z ▸ hb))]
  · by_cases z : b = p
    · subst z
      have := hf b (List.mem_cons_self ..)
      exact ⟨this.1, this.2.1, by rw [upd_same]; exact fun z => nomatch z⟩
    · by_cases y : b = a
      · subst y
        exact ⟨fresh_back st1.h ha, none_of st1.dh ha, by rw [upd_ne z, upd_same]; exact fun z => nomatch z⟩
      · have hb' : b ∈ p :: as := List.mem_cons_of_mem _ (((List.mem_cons.mp hb).resolve_left z |> List.mem_cons.mp).resolve_left y)
        have := hf b hb'
        exact ⟨this.1, this.2.1, by rw [upd_ne z, upd_ne y]; exact this.2.2⟩
/-- the last list of the pile, by its address -/
def AtTop (K : PySem.W.Frag) (te : TE) (ρ : Rho) (a : Addr) : Prop := ∀ H0 B H σ, Ex B H → Sl K H0 B H σ ρ → ∀ Q : VK, (∀ B' H', Step B H B' H' → Q (.ref a) H') → te σ H Q
theorem at_top {a : Addr} (h : ρ[i]? = some (some (.inv (.ref p) (pileIv K p (a :: as) (ds :: dss))))) (hm : GE K E tm ρ (.ok (.int (-1)))) : AtTop K (tOp (rIxL K) (tVar i) tm) ρ a := fun H0 B H σ bh s Q q => by
  obtain ⟨e, _, _⟩ := s.inv i _ _ h
  refine ⟨.ref p, e, hm H0 B H σ bh s _ (fin_ok fun w B1 H1 s1 d1 => ?_)⟩
  cases d1
  obtain ⟨_, ⟨_, hp, _⟩, _⟩ := (s.mono s1).inv i _ _ h
  exact ⟨p, _, -1, .ref a, rfl, rfl, .inl (.inl hp), last_ref, q B1 H1 s1⟩
theorem GS.pilApp {a : Addr} (h : ρ[i]? = some (some (.inv (.ref p) (pileIv K p (a :: as) (ds :: dss))))) (hz : ds.length < 100000) (hm : GE K E tm ρ (.ok (.int (-1)))) (hd : GE K E te ρ (.ok d)) (n : Nx (ρ.set i (some (.inv (.ref p) (pileIv K p (a :: as) ((ds ++ [d]) :: dss)))))) : GS K E (tDrop (tBM K "list" rAppend (tOp (rIxL K) (tVar i) tm) (tCons te tNil))) ρ Nx r := fun B0 H0 B H σ st s D nx fn => by
  refine at_top h hm H0 B H σ st.dh s _ fun B1 H1 s1 => ?_
  have sl1 := s.mono s1
  obtain ⟨_, ⟨_, _, ⟨zs, hz1, _⟩, _⟩, _⟩ := sl1.inv i _ _ h
  refine ⟨.inl ⟨rfl, _, .inl (.inl hz1)⟩, hd H0 B1 H1 σ s1.dh sl1 _ (fin_ok fun v B2 H2 s2 d2 => ?_)⟩
  have st2 := st.trans (s1.trans s2)
  have sl := sl1.mono s2
  obtain ⟨_, ⟨nd, hp, ⟨xs, h1, h2⟩, hi⟩, hf⟩ := sl.inv i _ _ h
  refine ⟨a, xs, v, rfl, rfl, h1, Evl.sz_lt (by rw [dps_len h2]; exact hz), ?_⟩
  obtain ⟨n1, n2⟩ := List.nodup_cons.mp nd
  obtain ⟨n3, n4⟩ := List.nodup_cons.mp n2
  have npa : p ≠ a := fun z => n1 (by rw [z]; exact List.mem_cons_self ..)
  have hH : ∀ b, b ∉ p :: a :: as → H2 b ≠ none → (upd H2 a (.lst (xs ++ [v]))) b = H2 b := fun b hb _ => upd_ne (fun z : b = a => hb (by rw [z]; exact List.mem_cons_of_mem _ (List.mem_cons_self ..)))
  refine nx σ B2 _ _ (st2.chg (p :: a :: as) (fun b hb => ⟨(hf b hb).1, (hf b hb).2.1⟩) hH) (sl.chg h (pileIv K p (a :: as) ((ds ++ [d]) :: dss)) hH (fun b hb => .inl hb) ⟨nd, ?_, ⟨xs ++ [v], upd_same, dps_app h2 (.cons d2 .nil)⟩, ?_⟩ fun b hb => ⟨(hf b hb).1, (hf b hb).2.1, ?_⟩) n
  · rw [upd_ne npa]
    exact hp
  · exact hi.stab (Ex.refl B2) as dss fun b hb => upd_ne (fun z : b = a => n3 (z ▸ hb))
  · by_cases z : b = a
    · subst z
      rw [upd_same]
      exact fun z => nomatch z
    · rw [upd_ne z]
      exact (hf b hb).2.2
theorem GS.pilPop {a : Addr} (h : ρ[i]? = some (some (.inv (.ref p) (pileIv K p (a :: as) (ds :: dss))))) (n : Nx (ρ.set i (some (.inv (.ref p) (pileIv K p as dss))))) : GS K E (tDrop (tBM0 K "list" rPop (tVar i))) ρ Nx r := fun B0 H0 B H σ st s D nx fn => by
  obtain ⟨e, ⟨nd, hp, _, hi⟩, hf⟩ := s.inv i _ _ h
  have ep : (a :: as).reverse.map V.ref = as.reverse.map V.ref ++ [.ref a] := by
    rw [List.reverse_cons, List.map_append] <;> rfl
  obtain ⟨n1, n2⟩ := List.nodup_cons.mp nd
  obtain ⟨n3, n4⟩ := List.nodup_cons.mp n2
  refine ⟨.ref p, e, .inl ⟨rfl, _, .inl (.inl hp)⟩, p, _, .ref a, rfl, rfl, hp, ?_, ?_⟩
  · rw [ep, List.length_append, List.length_singleton, Nat.add_sub_cancel, List.getElem?_append_right (Nat.le_refl _), Nat.sub_self] <;> rfl
  · have hH : ∀ b, b ∉ p :: a :: as → H b ≠ none → (upd H p (.lst ((a :: as).reverse.map V.ref).dropLast)) b = H b := fun b hb _ => upd_ne (fun z : b = p => hb (by rw [z]; exact List.mem_cons_self ..))
    refine nx σ B _ _ (st.chg (p :: a :: as) (fun b hb => ⟨(hf b hb).1, (hf b hb).2.1⟩) hH) (s.chg h (pileIv K p as dss) hH (fun b hb => .inl ?_) ⟨List.nodup_cons.mpr ⟨fun z => n1 (List.mem_cons_of_mem _ z), n4⟩, ?_, ?_⟩ fun b hb => ?_) n
    · rcases List.mem_cons.mp hb with z | z
      · rw [z]; exact List.mem_cons_self ..
      · exact List.mem_cons_of_mem _ (List.mem_cons_of_mem _ z)
    · rw [upd_same, ep, List.dropLast_concat]
    · exact hi.stab (Ex.refl B) as dss fun b hb => upd_ne (fun z : b = p => n1 (List.mem_cons_of_mem _ (z ▸ hb)))
    · rcases List.mem_cons.mp hb with z | z
      · subst z
        have := hf b (List.mem_cons_self ..)
        exact ⟨this.1, this.2.1, by rw [upd_same]; exact fun z => nomatch z⟩
      · have := hf b (List.mem_cons_of_mem _ (List.mem_cons_of_mem _ z))
        exact ⟨this.1, this.2.1, by rw [upd_ne (fun y : b = p => n1 (List.mem_cons_of_mem _ (y ▸ z)))]; exact this.2.2⟩
end
end Eg
namespace Eg
open PySem PySem.Spec PyProof.Rows L2
open Evl (Ex fresh_back ex_l ex_t ex_rd)
/-! ### texts as lists of signs -/
def tx (l : List Nat) : Str := ⟨l.toArray⟩
theorem tx_tl (l : List Nat) : (tx l).cps.toList = l := rfl
theorem tx_len (l : List Nat) : (tx l).length = l.length := by
  show l.toArray.size = _
  exact List.size_toArray ..
theorem tx_eq {z : Str} {l : List Nat} (h : TL.tl z = l) : z = tx l := TL.ext_tl h
theorem tx_app (a b : List Nat) : tx a ++ tx b = tx (a ++ b) := by
  refine tx_eq ?_
  rw [TL.tl_append]
  rfl
theorem tx_inj {a b : List Nat} : (tx a = tx b) ↔ a = b := ⟨fun h => congrArg TL.tl h, fun h => h ▸ rfl⟩
theorem tx_one (c : Nat) : (⟨#[c]⟩ : Str) = tx [c] := rfl
theorem sz24 {n : Nat} (h : n ≤ 1000000) : n ≤ sizeLine := Nat.le_trans h (by decide +kernel)
def rAddT : R2 := fun x y H Q => ∃ i j, x = .str i ∧ y = .str j ∧ i.length + j.length ≤ sizeLine ∧ Q (.str (i ++ j)) H
theorem oAddT {X : Cx} : OpR X (binaryOp .Add) rAddT := op_add_str
def rInS : R2 := fun x y H Q => ∃ (c : Nat) (z : Str), x = .str ⟨#[c]⟩ ∧ y = .str z ∧ Q (.bl (decide (c ∈ z.cps.toList))) H
theorem oInS {X : Cx} : OpR X (compareOp .In) rInS := op_in_sign
def rLenS : List V → Hp → VK → Prop := fun xs H Q => ∃ z, xs = [.str z] ∧ z.length ≤ sizeLine ∧ Q (.int z.length) H
theorem cLenS {X : Cx} : CallR X (.builtin "len") rLenS := call_len_str
def rIntS : List V → Hp → VK → Prop := fun xs H Q => ∃ a n, xs = [.str a] ∧ PySem.intText? a = some n ∧ a.length ≤ 640 ∧ Q (.int n) H
theorem cIntS {X : Cx} : CallR X (.type "int") rIntS := call_int_str
def rStrI : List V → Hp → VK → Prop := fun xs H Q => ∃ i : Int, xs = [.int i] ∧ i.natAbs.log2 < 1920 ∧ Q (.str (toString i)) H
theorem cStrI {X : Cx} : CallR X (.type "str") rStrI := call_str_int
def rIntB : List V → Hp → VK → Prop := fun xs H Q => (∃ i, xs = [.int i] ∧ Q (.int i) H) ∨ ∃ k, xs = [.bl k] ∧ Q (.int (if k then 1 else 0)) H
theorem cIntB {X : Cx} : CallR X (.type "int") rIntB := call_int1
section
variable {K : PySem.W.Frag} {E : XK} {ρ : Rho} {ta tb te : TE} {a b l : List Nat}
theorem GE.strC {x : Str} (h : TL.tl x = l) : GE K E (tC (.str x)) ρ (.ok (.str (tx l))) := GE.to GE.str (by rw [tx_eq h])
theorem rd_addT (h : a.length + b.length ≤ 1000000) : RD K rAddT (.str (tx a)) (.str (tx b)) (.str (tx (a ++ b))) := fun B v w h1 h2 H bh Q q => by
  cases h1; cases h2
  refine ⟨_, _, rfl, rfl, by rw [tx_len, tx_len]; exact sz24 h, ?_⟩
  rw [tx_app]
  exact q _ (.str _)
theorem rd_inS {c : Nat} : RD K rInS (.str (tx [c])) (.str (tx l)) (.bool (decide (c ∈ l))) := fun B v w h1 h2 H bh Q q => by
  cases h1; cases h2
  exact ⟨c, tx l, rfl, rfl, q _ (.bl _)⟩
theorem rd_ixS {i : Int} {c : Nat} (h : atI l i = some c) (hz : l.length ≤ 1000000) : RD K rIxS (.str (tx l)) (.int i) (.str (tx [c])) := fun B v w h1 h2 H bh Q q => by
  cases h1; cases h2
  exact ⟨tx l, i, c, rfl, rfl, by rw [tx_len]; exact sz24 hz, h, q _ (.str _)⟩
theorem GE.lenS (h : GE K E te ρ (.ok (.str (tx l)))) (hz : l.length ≤ 1000000) : GE K E (tCB rLenS (tCons te tNil)) ρ (.ok (.int l.length)) := GE.cb (ds := [.str (tx l)]) (GA.cons h GA.nil) fun B vs H bh hd Q q => by
  cases hd with
  | cons h1 t =>
    cases h1; cases t
    refine ⟨tx l, rfl, by rw [tx_len]; exact sz24 hz, ?_⟩
    rw [tx_len]
    exact q _ (.int _)
theorem GE.intS {n : Int} (h : GE K E te ρ (.ok (.str (tx l)))) (hd : NumText.AllDigits l) (h0 : l ≠ []) (hz : l.length ≤ 640) (hn : n = NumText.digitsVal l) : GE K E (tCB rIntS (tCons te tNil)) ρ (.ok (.int n)) := GE.cb (ds := [.str (tx l)]) (GA.cons h GA.nil) fun B vs H bh hd' Q q => by
  cases hd' with
  | cons h1 t =>
    cases h1; cases t
    subst hn
    exact ⟨tx l, _, rfl, intText_digits (x := tx l) hd h0 (by rw [tx_len]; omega), by rw [tx_len]; exact hz, q _ (.int _)⟩
theorem GE.strI {n : Nat} (h : GE K E te ρ (.ok (.int n))) (hz : n ≤ 1000) : GE K E (tCB rStrI (tCons te tNil)) ρ (.ok (.str (tx (TL.numL n)))) := GE.cb (ds := [.int n]) (GA.cons h GA.nil) fun B vs H bh hd' Q q => by
  cases hd' with
  | cons h1 t =>
    cases h1; cases t
    refine ⟨_, rfl, ?_, ?_⟩
    · show (n : Int).natAbs.log2 < 1920
      rw [Int.natAbs_natCast]
      by_cases h0 : n = 0
      · subst h0; decide
      · have := Nat.log2_self_le h0
        have h2 : n < 2 ^ 10 := by omega
        have := (Nat.log2_lt h0).mpr h2
        omega
    · have e : ((toString (n : Int) : String) : Str) = tx (TL.numL n) := tx_eq (TL.tl_num n)
      show Q (.str ((toString (n : Int) : String) : Str)) H
      rw [e]
      exact q _ (.str _)
theorem GE.intB {x : Bool} (h : GE K E te ρ (.ok (.bool x))) : GE K E (tCB rIntB (tCons te tNil)) ρ (.ok (.int (if x then 1 else 0))) := GE.cb (ds := [.bool x]) (GA.cons h GA.nil) fun B vs H bh hd' Q q => by
  cases hd' with
  | cons h1 t =>
    cases h1; cases t
    exact .inr ⟨x, rfl, q _ (.int _)⟩
/-- bounds of slices -/
def GO (K : PySem.W.Frag) (E : XK) (to : TO) (ρ : Rho) (o : Option Int) : Prop := ∀ H0 B H σ, Ex B H → Sl K H0 B H σ ρ → ∀ Q : Option Int → Hp → Prop, (∀ B' H', Step B H B' H' → Q o H') → to σ H Q
theorem GO.none : GO K E tNoPart ρ Option.none := fun H0 B H σ bh s Q q => q B H (.refl bh)
theorem GO.some {i : Int} (h : GE K E te ρ (.ok (.int i))) : GO K E (tPart te) ρ (some i) := fun H0 B H σ bh s Q q =>
  h H0 B H σ bh s _ (fin_ok fun v B1 H1 s1 d1 => by
    cases d1
    exact ⟨i, rfl, q B1 H1 s1⟩)
theorem GE.slS {to tp : TO} {o p : Option Int} {m : List Nat} (h : GE K E te ρ (.ok (.str (tx l)))) (ho : GO K E to ρ o) (hp : GO K E tp ρ p) (hz : l.length ≤ 1000000) (e : cutS (tx l) o p = tx m) : GE K E (tSl rSlS te to tp) ρ (.ok (.str (tx m))) := fun H0 B H σ bh s Q q =>
  h H0 B H σ bh s _ (fin_ok fun v B1 H1 s1 d1 => ho H0 B1 H1 σ s1.dh (s.mono s1) _ fun B2 H2 s2 => hp H0 B2 H2 σ s2.dh (s.mono (s1.trans s2)) _ fun B3 H3 s3 => by
    cases d1
    refine ⟨tx l, rfl, by rw [tx_len]; exact sz24 hz, ?_⟩
    rw [e]
    exact q.go _ B3 H3 ((s1.trans s2).trans s3) (.str _))
theorem cut_mid {i j : Int} (p m q : List Nat) (hl : l = p ++ m ++ q) (hi : i = p.length) (hj : j = (p.length + m.length : Nat)) : cutS (tx l) (some i) (some j) = tx m := by
  subst hl hi hj
  refine tx_eq ?_
  unfold cutS
  rw [HT.sIx_nat, HT.sIx_nat, tx_len, tx_tl]
  show ((((p ++ m ++ q).drop _).take _).toArray).toList = m
  rw [show min p.length (p ++ m ++ q).length = p.length by simp only [List.length_append]; omega, show min (p.length + m.length) (p ++ m ++ q).length = p.length + m.length by simp only [List.length_append]; omega, show p.length + m.length - p.length = m.length by omega, List.append_assoc, List.drop_left, List.take_left] <;> rfl
theorem cut_sign {i j : Int} (p s : List Nat) (hl : l = p ++ s) (hi : i = p.length) (hj : j = (p.length + 1 : Nat)) : cutS (tx l) (some i) (some j) = tx (s.take 1) := by
  cases s with
  | nil =>
    subst hl hi hj
    refine tx_eq ?_
    unfold cutS
    rw [HT.sIx_nat, HT.sIx_nat, tx_len, tx_tl]
    show ((((p ++ []).drop _).take _).toArray).toList = []
    rw [List.append_nil, Nat.min_self, List.drop_length, List.take_nil]
  | cons c s => exact cut_mid p [c] s (by simp [hl]) hi hj
theorem cut_to {j : Int} (p q : List Nat) (hl : l = p ++ q) (hj : j = p.length) : cutS (tx l) none (some j) = tx p := by
  subst hl hj
  refine tx_eq ?_
  unfold cutS
  rw [HT.sIx_none, HT.sIx_nat, tx_len, tx_tl]
  show ((((p ++ q).drop 0).take _).toArray).toList = p
  rw [show min p.length (p ++ q).length - 0 = p.length by simp only [List.length_append]; omega, List.drop_zero, List.take_left] <;> rfl
theorem cut_from {i : Int} (n : Nat) (hi : i = n) : cutS (tx l) (some i) none = tx (l.drop n) := by
  subst hi
  refine tx_eq ?_
  unfold cutS
  rw [HT.sIx_none, HT.sIx_nat, tx_len, tx_tl]
  show (((l.drop _).take _).toArray).toList = _
  by_cases h : n ≤ l.length
  · rw [Nat.min_eq_left h, List.take_of_length_le (by rw [List.length_drop]; exact Nat.le_refl _)]
  · rw [Nat.min_eq_right (by omega), List.drop_length, List.take_nil, List.drop_eq_nil_of_le (by omega)]
end
theorem at_mid {l : List Nat} {i : Int} (p : List Nat) (c : Nat) (s : List Nat) (hl : l = p ++ c :: s) (hi : i = p.length) : atI l i = some c := by
  subst hl
  exact atI_nat' hi (by simp)
theorem txd {a b : List Nat} : decide (tx a = tx b) = decide (a = b) := by
  by_cases h : a = b
  · rw [decide_eq_true h, decide_eq_true (tx_inj.mpr h)]
  · rw [decide_eq_false h, decide_eq_false fun z => h (tx_inj.mp z)]
end Eg
namespace Eg
open PySem PySem.Spec PyProof.Rows L2
/-! ### plans read -/
def isD (c : Nat) : Bool := decide (48 ≤ c) && decide (c ≤ 57)
def nmW : List Nat → Option Nat
  | [a] => some (a - 48)
  | [a, b] => if a = 48 ∨ 60 < 10 * (a - 48) + (b - 48) then none else some (10 * (a - 48) + (b - 48))
  | _ => none
def pNum (s : List Nat) : Option (Nat × List Nat) := (nmW (s.takeWhile isD)).map fun n => (n, s.dropWhile isD)
def pS (c : Nat) : List Nat → Option (List Nat)
  | x :: s => if x = c then some s else none
  | [] => none
def pT : Nat → List Nat → Option (Tr × List Nat)
  | 0, _ => none
  | k + 1, s => match pS 61 s with
    | some r => (pNum r).map fun x => (.told x.1, x.2)
    | none => (pNum s).bind fun x => (pS 40 x.2).bind fun r2 => (pT k r2).bind fun y => (pS 44 y.2).bind fun r4 => (pT k r4).bind fun z => (pS 41 z.2).map fun r6 => (.drop x.1 y.1 z.1, r6)
theorem pS_some {c : Nat} {s r : List Nat} (h : pS c s = some r) : s = c :: r := by
  cases s with
  | nil => cases h
  | cons x s =>
    by_cases e : x = c
    · have q : pS c (x :: s) = some s := if_pos e
      rw [q] at h
      rw [Option.some.inj h, e]
    · have q : pS c (x :: s) = none := if_neg e
      rw [q] at h
      cases h
theorem pS_cons (c : Nat) (r : List Nat) : pS c (c :: r) = some r := if_pos rfl
theorem pS_take {c : Nat} {s : List Nat} : decide (s.take 1 = [c]) = (pS c s).isSome := by
  cases s with
  | nil => rfl
  | cons x s =>
    by_cases h : x = c
    · have q : pS c (x :: s) = some s := if_pos h
      rw [q, h]
      simp
    · have q : pS c (x :: s) = none := if_neg h
      rw [q]
      simp [h]
theorem pNum_some {s r : List Nat} {n : Nat} (h : pNum s = some (n, r)) : ∃ u, s = u ++ r ∧ 1 ≤ u.length := by
  unfold pNum at h
  cases e : nmW (s.takeWhile isD) with
  | none =>
    rw [e] at h
    cases h
  | some m =>
    rw [e] at h
    cases h
    refine ⟨s.takeWhile isD, (List.takeWhile_append_dropWhile ..).symm, ?_⟩
    cases q : s.takeWhile isD with
    | nil =>
      rw [q] at e
      cases e
    | cons a u => simp
theorem pNum_cut {w q : List Nat} (hw : ∀ c ∈ w, isD c = true) (hq : ∀ c q', q = c :: q' → isD c = false) : pNum (w ++ q) = (nmW w).map fun n => (n, q) := by
  have h1 : (w ++ q).takeWhile isD = w := by
    rw [List.takeWhile_append_of_pos hw]
    cases q with
    | nil => simp
    | cons c q => rw [List.takeWhile_cons_of_neg (by rw [hq c q rfl]; decide), List.append_nil]
  have h2 : (w ++ q).dropWhile isD = q := by
    rw [List.dropWhile_append_of_pos hw]
    cases q with
    | nil => rfl
    | cons c q => rw [List.dropWhile_cons_of_neg (by rw [hq c q rfl]; decide)]
  unfold pNum
  rw [h1, h2]
theorem cut_digits (s : List Nat) : ∃ w q, s = w ++ q ∧ (∀ c ∈ w, isD c = true) ∧ ∀ c q', q = c :: q' → isD c = false := by
  refine ⟨s.takeWhile isD, s.dropWhile isD, (List.takeWhile_append_dropWhile ..).symm, fun c hc => ?_, fun c q' e => ?_⟩
  · exact List.all_eq_true.mp List.all_takeWhile c hc
  · have h := List.head?_dropWhile_not isD s
    rw [e] at h
    simpa using h
theorem pT_some : ∀ (k : Nat) (s r : List Nat) (t : Tr), pT k s = some (t, r) → ∃ u, s = u ++ r
  | 0, s, r, t, h => by cases h
  | k + 1, s, r, t, h => by
    unfold pT at h
    cases e1 : pS 61 s with
    | some s1 =>
      simp only [e1] at h
      cases e2 : pNum s1 with
      | none =>
        simp only [e2] at h
        cases h
      | some x =>
        simp only [e2] at h
        cases h
        obtain ⟨u, e, _⟩ := pNum_some (n := x.1) (r := x.2) (by rw [e2])
        exact ⟨61 :: u, by rw [pS_some e1, e]; rfl⟩
    | none =>
      simp only [e1] at h
      simp only [Option.bind_eq_some_iff, Option.map_eq_some_iff] at h
      obtain ⟨x, e2, r2, e3, y, e4, r4, e5, z, e6, r6, e7, e8⟩ := h
      cases e8
      obtain ⟨u1, e, _⟩ := pNum_some (n := x.1) (r := x.2) (by rw [e2])
      obtain ⟨u2, e'⟩ := pT_some k r2 y.2 y.1 (by rw [e4])
      obtain ⟨u3, e''⟩ := pT_some k r4 z.2 z.1 (by rw [e6])
      exact ⟨u1 ++ 40 :: (u2 ++ 44 :: (u3 ++ [41])), by rw [e, pS_some e3, e', pS_some e5, e'', pS_some e7]; simp⟩
theorem pT_sub1 {n : Nat} {s r2 : List Nat} {x : Nat × List Nat} (e : pS 61 s = none) (e1 : pNum s = some x) (e2 : pS 40 x.2 = some r2) (h : s.length + 1 ≤ 2 * (n + 1) ∨ (pT (n + 1) s).isSome = true) (hl : r2.length + 2 ≤ s.length) : r2.length + 1 ≤ 2 * n ∨ (pT n r2).isSome = true := by
  rcases h with h | h
  · exact .inl (by omega)
  · refine .inr ?_
    unfold pT at h
    simp only [e, e1, e2, Option.bind_some] at h
    cases q : pT n r2 with
    | none =>
      rw [q] at h
      exact h
    | some y => rfl
theorem pT_sub2 {n : Nat} {s r2 r4 : List Nat} {x : Nat × List Nat} {y : Tr × List Nat} (e : pS 61 s = none) (e1 : pNum s = some x) (e2 : pS 40 x.2 = some r2) (e3 : pT n r2 = some y) (e4 : pS 44 y.2 = some r4) (h : s.length + 1 ≤ 2 * (n + 1) ∨ (pT (n + 1) s).isSome = true) (hl : r4.length + 2 ≤ s.length) : r4.length + 1 ≤ 2 * n ∨ (pT n r4).isSome = true := by
  rcases h with h | h
  · exact .inl (by omega)
  · refine .inr ?_
    unfold pT at h
    simp only [e, e1, e2, e3, e4, Option.bind_some] at h
    cases q : pT n r4 with
    | none =>
      rw [q] at h
      exact h
    | some y => rfl
/-! ### plans written -/
def Tr.small : Tr → Prop
  | .told n => 0 ≤ n ∧ n ≤ 60
  | .drop n b w => (0 ≤ n ∧ n ≤ 60) ∧ b.small ∧ w.small
def Tr.cnt : Tr → Nat
  | .told _ => 0
  | .drop _ b w => 1 + b.cnt + w.cnt
def Tr.tx : Tr → List Nat
  | .told n => [61] ++ TL.numL n.toNat
  | .drop n b w => TL.numL n.toNat ++ [40] ++ b.tx ++ [44] ++ w.tx ++ [41]
theorem Tr.tx_drop {n : Int} {b w : Tr} : (Tr.drop n b w).tx = TL.numL n.toNat ++ [40] ++ b.tx ++ [44] ++ w.tx ++ [41] := rfl
theorem numL_2 {n : Nat} (h : n ≤ 60) : (TL.numL n).length ≤ 2 := TL.numL_len (by decide) (by omega)
theorem Tr.tx_len : ∀ t : Tr, t.small → t.tx.length ≤ 8 * t.cnt + 3
  | .told n, h => by
    have := numL_2 (n := n.toNat) (by unfold Tr.small at h; omega)
    unfold Tr.tx
    rw [List.length_append, List.length_singleton]
    omega
  | .drop n b w, h => by
    have := numL_2 (n := n.toNat) (by unfold Tr.small at h; omega)
    have h1 := Tr.tx_len b h.2.1
    have h2 := Tr.tx_len w h.2.2
    unfold Tr.tx Tr.cnt
    simp only [List.length_append, List.length_singleton]
    omega
theorem dep_cnt : ∀ t : Tr, t.dep ≤ t.cnt
  | .told n => Nat.le_refl _
  | .drop n b w => by
    have h1 := dep_cnt b
    have h2 := dep_cnt w
    unfold Tr.dep Tr.cnt
    omega
theorem numL_isD {n : Nat} : ∀ c ∈ TL.numL n, isD c = true := fun c hc => by
  have := TL.numL_digits n c hc
  unfold isD
  simp only [Bool.and_eq_true, decide_eq_true_eq]
  omega
theorem nmW_num {n : Nat} (h : n ≤ 60) : nmW (TL.numL n) = some n := by
  by_cases q : n < 10
  · rw [TL.numL_lt q]
    show some (48 + n - 48) = some n
    rw [show 48 + n - 48 = n by omega]
  · rw [TL.numL_step (by omega), TL.numL_lt (by omega : n / 10 < 10)]
    show (if 48 + n / 10 = 48 ∨ 60 < 10 * (48 + n / 10 - 48) + (48 + n % 10 - 48) then none else some (10 * (48 + n / 10 - 48) + (48 + n % 10 - 48))) = some n
    rw [if_neg (by omega)]
    exact congrArg some (by omega)
theorem pNum_num {n : Nat} {q : List Nat} (h : n ≤ 60) (hq : ∀ c q', q = c :: q' → isD c = false) : pNum (TL.numL n ++ q) = some (n, q) := by
  rw [pNum_cut numL_isD hq, nmW_num h]
  rfl
theorem pS_num {n : Nat} {q : List Nat} : pS 61 (TL.numL n ++ q) = none := by
  cases e : TL.numL n with
  | nil => exact absurd e (TL.numL_ne n)
  | cons c u =>
    have := TL.numL_digits n c (by rw [e]; exact List.mem_cons_self ..)
    exact if_neg (by omega)
theorem pT_tx : ∀ (t : Tr) (k : Nat) (q : List Nat), t.small → t.dep < k → (∀ c q', q = c :: q' → isD c = false) → pT k (t.tx ++ q) = some (t, q)
  | .told n, k + 1, q, h, hk, hq => by
    unfold pT Tr.tx
    rw [show [61] ++ TL.numL n.toNat ++ q = 61 :: (TL.numL n.toNat ++ q) by simp, pS_cons]
    show (pNum (TL.numL n.toNat ++ q)).map _ = _
    unfold Tr.small at h
    rw [pNum_num (by omega) hq]
    show some (Tr.told ((n.toNat : Nat) : Int), q) = _
    rw [Int.toNat_of_nonneg h.1]
  | .drop n b w, k + 1, q, h, hk, hq => by
    obtain ⟨hn, hb, hw⟩ := h
    unfold Tr.dep at hk
    have e1 := pT_tx b k (44 :: (w.tx ++ 41 :: q)) hb (by omega) (fun c q' e => by cases e; decide)
    have e2 := pT_tx w k (41 :: q) hw (by omega) (fun c q' e => by cases e; decide)
    have e0 := pNum_num (n := n.toNat) (q := 40 :: (b.tx ++ 44 :: (w.tx ++ 41 :: q))) (by omega) (fun c q' e => by cases e; decide)
    rw [show (Tr.drop n b w).tx ++ q = TL.numL n.toNat ++ 40 :: (b.tx ++ 44 :: (w.tx ++ 41 :: q)) by rw [Tr.tx_drop]; simp]
    unfold pT
    rw [pS_num, e0]
    simp only [Option.bind_some, pS_cons, e1, e2, Option.map_some]
    rw [Int.toNat_of_nonneg hn.1]
theorem sfx_num {s : List Nat} {x : Nat × List Nat} (h : pNum s = some x) : x.2 <:+ s ∧ x.2.length < s.length := by
  obtain ⟨u, e, hu⟩ := pNum_some (n := x.1) (r := x.2) h
  refine ⟨⟨u, e.symm⟩, ?_⟩
  rw [e, List.length_append]
  omega
theorem sfx_s {c : Nat} {s r : List Nat} (h : pS c s = some r) : r <:+ s ∧ r.length + 1 = s.length := by
  rw [pS_some h]
  exact ⟨⟨[c], rfl⟩, rfl⟩
theorem sfx_t {k : Nat} {s : List Nat} {x : Tr × List Nat} (h : pT k s = some x) : x.2 <:+ s := by
  obtain ⟨u, e⟩ := pT_some k s x.2 x.1 h
  exact ⟨u, e.symm⟩
theorem figs {c : Nat} : decide (c ∈ [48, 49, 50, 51, 52, 53, 54, 55, 56, 57]) = isD c := by
  unfold isD
  rw [← Bool.decide_and]
  exact decide_eq_decide.mpr (by simp; omega)
theorem nm_bad : ∀ u : List Nat, (∀ c ∈ u, isD c = true) → (decide (u = []) || (decide (2 < u.length) || ((decide (u.head? = some 48) && decide (1 < u.length)) || decide (60 < NumText.digitsVal u)))) = (nmW u).isNone
  | [], _ => rfl
  | [a], h => by
    have h1 := h a (by simp)
    unfold isD at h1
    simp only [Bool.and_eq_true, decide_eq_true_eq] at h1
    have e : NumText.digitsVal [a] = a - 48 := by simp [NumText.digitsVal]
    rw [e]
    have : ¬ 60 < a - 48 := by omega
    simp [nmW, this]
  | [a, b], h => by
    have h1 := h a (by simp)
    unfold isD at h1
    simp only [Bool.and_eq_true, decide_eq_true_eq] at h1
    have e : NumText.digitsVal [a, b] = 10 * (a - 48) + (b - 48) := by simp [NumText.digitsVal]; omega
    rw [e]
    by_cases q : a = 48
    · simp [nmW, q]
    · by_cases q2 : 60 < 10 * (a - 48) + (b - 48)
      · simp [nmW, q, q2]
      · simp [nmW, q, q2]
  | a :: b :: c :: u, _ => by simp [nmW]
theorem nm_val : ∀ (u : List Nat) (n : Nat), nmW u = some n → n = NumText.digitsVal u ∧ u ≠ [] ∧ u.length ≤ 2
  | [], n, h => by cases h
  | [a], n, h => by
    cases h
    simp [NumText.digitsVal]
  | [a, b], n, h => by
    have e : NumText.digitsVal [a, b] = 10 * (a - 48) + (b - 48) := by simp [NumText.digitsVal]; omega
    have q : (if a = 48 ∨ 60 < 10 * (a - 48) + (b - 48) then none else some (10 * (a - 48) + (b - 48))) = some n := h
    split at q
    · cases q
    · cases q
      exact ⟨e.symm, by simp, by simp⟩
  | a :: b :: c :: u, n, h => by cases h
theorem isD_all {u : List Nat} (h : ∀ c ∈ u, isD c = true) : NumText.AllDigits u := fun c hc => by
  have h1 := h c hc
  unfold isD at h1
  simpa only [Bool.and_eq_true, decide_eq_true_eq] using h1
/-! ### what is asked of the defs -/
def R_shown (n : Nat) (ds : List PyData) (r : Rs) : Prop := ∃ t : Tr, ds = [t.d] ∧ t.dep < n ∧ t.cnt ≤ 100 ∧ t.small ∧ r = .ok (.str (tx t.tx))
def resN (C : Addr) (L : Nat) : Option (Nat × List Nat) → Rs
  | none => .exc C
  | some x => .ok (.tuple [.int x.1, .int (L - x.2.length : Nat)])
def R_numat (C : Addr) (ds : List PyData) (r : Rs) : Prop := ∃ (l s : List Nat) (a : Int), ds = [.str (tx l), .int a] ∧ s <:+ l ∧ a = (l.length - s.length : Nat) ∧ l.length ≤ 1000 ∧ r = resN C l.length (pNum s)
def resG (C : Addr) (L : Nat) : Option (List Nat) → Rs
  | none => .exc C
  | some x => .ok (.int (L - x.length : Nat))
def R_signat (C : Addr) (ds : List PyData) (r : Rs) : Prop := ∃ (l s : List Nat) (a : Int) (c : Nat), ds = [.str (tx l), .int a, .str (tx [c])] ∧ s <:+ l ∧ a = (l.length - s.length : Nat) ∧ l.length ≤ 1000 ∧ r = resG C l.length (pS c s)
def resT (C : Addr) (L : Nat) : Option (Tr × List Nat) → Rs
  | none => .exc C
  | some x => .ok (.tuple [x.1.d, .int (L - x.2.length : Nat)])
def R_treeat (C : Addr) (n : Nat) (ds : List PyData) (r : Rs) : Prop := ∃ (l s : List Nat) (a : Int), ds = [.str (tx l), .int a] ∧ s <:+ l ∧ a = (l.length - s.length : Nat) ∧ l.length ≤ 1000 ∧ (s.length + 1 ≤ 2 * n ∨ (pT n s).isSome = true) ∧ r = resT C l.length (pT n s)
def pR (n : Nat) (s : List Nat) : Option Tr := (pT n s).bind fun x => if x.2 = [] then some x.1 else none
def resR (C : Addr) : Option Tr → Rs
  | none => .exc C
  | some t => .ok t.d
def R_read (C : Addr) (n : Nat) (ds : List PyData) (r : Rs) : Prop := ∃ s : List Nat, ds = [.str (tx s)] ∧ (s.length + 1 ≤ 2 * n ∨ (pT n s).isSome = true) ∧ s.length ≤ 1000 ∧ r = resR C (pR n s)
theorem pR_tx {t : Tr} {n : Nat} (h : t.small) (hd : t.dep < n) : pR n t.tx = some t := by
  have e := pT_tx t n [] h hd (fun c q' e => nomatch e)
  rw [List.append_nil] at e
  unfold pR
  rw [e]
  rfl
theorem pT_is {t : Tr} {n : Nat} (h : t.small) (hd : t.dep < n) : (pT n t.tx).isSome = true := by
  have e := pT_tx t n [] h hd (fun c q' e => nomatch e)
  rw [List.append_nil] at e
  rw [e]
  rfl
/-! ### trees by trees -/
def R_alike (n : Nat) (ds : List PyData) (r : Rs) : Prop := ∃ t : Tr, ds = [t.d, t.d] ∧ t.dep < n ∧ r = .ok (.bool true)
theorem drT_small (ns : List Int) (at_ : Nat) : ∀ (s lo k : Nat), lo + s ≤ 60 → (drT ns at_ lo s k).small ∧ (drT ns at_ lo s k).cnt = s := by
  intro s
  induction s using Nat.strongRecOn with
  | _ s ih =>
    intro lo k hz
    by_cases h : s = 0
    · subst h
      rw [drT_0]
      refine ⟨?_, rfl⟩
      show 0 ≤ (lo : Int) ∧ (lo : Int) ≤ 60
      omega
    · rw [drT_s h]
      have h1 := dR_pos ns at_ lo s k
      have h2 := dR_le (ns := ns) (at_ := at_) (lo := lo) (k := k) h
      have a := ih (dR ns at_ lo s k - 1) (by omega) lo (k - 1) (by omega)
      have b := ih (s - dR ns at_ lo s k) (by omega) (lo + dR ns at_ lo s k) k (by omega)
      refine ⟨⟨by omega, a.1, b.1⟩, ?_⟩
      unfold Tr.cnt
      rw [a.2, b.2]
      omega
end Eg
namespace Eg
open PySem PySem.Spec PyProof.Rows L2
/-! ### the reading by a pile -/
theorem pNum_full {s : List Nat} {x : Nat × List Nat} (h : pNum s = some x) : ∃ u, s = u ++ x.2 ∧ NumText.AllDigits u ∧ u ≠ [] ∧ u.length ≤ 2 ∧ x.1 = NumText.digitsVal u := by
  unfold pNum at h
  cases e : nmW (s.takeWhile isD) with
  | none =>
    rw [e] at h
    cases h
  | some m =>
    rw [e] at h
    cases h
    obtain ⟨h1, h2, h3⟩ := nm_val _ _ e
    exact ⟨s.takeWhile isD, (List.takeWhile_append_dropWhile ..).symm, isD_all fun c hc => List.all_eq_true.mp List.all_takeWhile c hc, h2, h3, h1⟩
theorem pT_stable : ∀ (k : Nat) (s : List Nat), s.length + 1 ≤ 2 * k → pT (k + 1) s = pT k s
  | 0, s, h => by omega
  | k + 1, s, h => by
    cases e : pS 61 s with
    | some s1 =>
      unfold pT
      simp only [e]
    | none =>
      cases e1 : pNum s with
      | none =>
        unfold pT
        simp only [e, e1, Option.bind_none]
      | some x =>
        have f1 := (sfx_num e1).2
        cases e2 : pS 40 x.2 with
        | none =>
          unfold pT
          simp only [e, e1, e2, Option.bind_some, Option.bind_none]
        | some r2 =>
          have f2 := (sfx_s e2).2
          have i1 := pT_stable k r2 (by omega)
          unfold pT
          simp only [e, e1, e2, Option.bind_some]
          rw [i1]
          cases e3 : pT k r2 with
          | none => simp only [Option.bind_none]
          | some y =>
            have f3 := (sfx_t e3).length_le
            simp only [Option.bind_some]
            cases e4 : pS 44 y.2 with
            | none => simp only [Option.bind_none]
            | some r4 =>
              have f4 := (sfx_s e4).2
              simp only [Option.bind_some]
              rw [pT_stable k r4 (by omega)]
theorem pT_dep : ∀ (k : Nat) (s : List Nat) (x : Tr × List Nat), pT k s = some x → x.1.dep < k
  | 0, s, x, h => by cases h
  | k + 1, s, x, h => by
    unfold pT at h
    cases e1 : pS 61 s with
    | some s1 =>
      simp only [e1] at h
      cases e2 : pNum s1 with
      | none =>
        simp only [e2] at h
        cases h
      | some y =>
        simp only [e2] at h
        cases h
        exact Nat.succ_pos k
    | none =>
      simp only [e1] at h
      simp only [Option.bind_eq_some_iff, Option.map_eq_some_iff] at h
      obtain ⟨x', e2, r2, e3, y, e4, r4, e5, z, e6, r6, e7, e8⟩ := h
      cases e8
      have h1 := pT_dep k _ _ e4
      have h2 := pT_dep k _ _ e6
      show 1 + max y.1.dep z.1.dep < k + 1
      omega
theorem pT_64 {s : List Nat} (h : s.length + 1 ≤ 104) : pT 64 s = pT 52 s := by
  have q : ∀ j : Nat, pT (52 + j) s = pT 52 s := fun j => by
    induction j with
    | zero => rfl
    | succ j ih => exact (pT_stable (52 + j) s (by omega)).trans ih
  exact q 12
abbrev Fr := Int × Option Tr
def Fr.ds : Fr → List PyData
  | (n, none) => [.int n]
  | (n, some b) => [.int n, b.d]
def cont : List Fr → Tr → List Nat → Option Tr
  | [], t, s => if s = [] then some t else none
  | (n, none) :: k, t, s => (pS 44 s).bind fun r => (pT 64 r).bind fun y => (pS 41 y.2).bind fun r' => cont k (.drop n t y.1) r'
  | (n, some b) :: k, t, s => (pS 41 s).bind fun r => cont k (.drop n b t) r
def strt (k : List Fr) (s : List Nat) : Option Tr := (pT 64 s).bind fun y => cont k y.1 y.2
theorem cont_none (n : Int) (k : List Fr) (t : Tr) (s : List Nat) : cont ((n, none) :: k) t s = (pS 44 s).bind fun r => strt ((n, some t) :: k) r := rfl
theorem cont_some (n : Int) (b : Tr) (k : List Fr) (t : Tr) (s : List Nat) : cont ((n, some b) :: k) t s = (pS 41 s).bind fun r => cont k (.drop n b t) r := rfl
theorem strt_nil (k : List Fr) : strt k [] = none := rfl
theorem strt_leaf {k : List Fr} {s r : List Nat} (e : pS 61 s = some r) : strt k s = (pNum r).bind fun x => cont k (.told x.1) x.2 := by
  unfold strt pT
  simp only [e]
  cases pNum r <;> rfl
theorem pT_unf {k : Nat} {s : List Nat} (e : pS 61 s = none) : pT (k + 1) s = (pNum s).bind fun x => (pS 40 x.2).bind fun r2 => (pT k r2).bind fun y => (pS 44 y.2).bind fun r4 => (pT k r4).bind fun z => (pS 41 z.2).map fun r6 => (.drop x.1 y.1 z.1, r6) := by
  conv => lhs; unfold pT
  simp only [e]
theorem strt_drop {k : List Fr} {s : List Nat} (e : pS 61 s = none) (h : s.length ≤ 120) : strt k s = (pNum s).bind fun x => (pS 40 x.2).bind fun r => strt ((x.1, none) :: k) r := by
  unfold strt
  rw [pT_unf (k := 63) e]
  cases e1 : pNum s with
  | none => rfl
  | some x =>
    have f1 := (sfx_num e1).2
    simp only [Option.bind_some]
    cases e2 : pS 40 x.2 with
    | none => rfl
    | some r2 =>
      have f2 := (sfx_s e2).2
      simp only [Option.bind_some]
      rw [show pT 64 r2 = pT 63 r2 from pT_stable 63 r2 (by omega)]
      cases e3 : pT 63 r2 with
      | none => rfl
      | some y =>
        have f3 := (sfx_t e3).length_le
        simp only [Option.bind_some]
        show _ = (pS 44 y.2).bind fun r => (pT 64 r).bind fun z => (pS 41 z.2).bind fun r' => cont k (.drop x.1 y.1 z.1) r'
        cases e4 : pS 44 y.2 with
        | none => rfl
        | some r4 =>
          have f4 := (sfx_s e4).2
          simp only [Option.bind_some]
          rw [show pT 64 r4 = pT 63 r4 from pT_stable 63 r4 (by omega)]
          cases e5 : pT 63 r4 with
          | none => rfl
          | some z =>
            simp only [Option.bind_some]
            cases e6 : pS 41 z.2 <;> rfl
def resD : Option Tr → Rs
  | none => .ok .none
  | some t => .ok t.d
def resE (L : Nat) : Option (Nat × List Nat) → Int
  | none => -1
  | some x => (L - x.2.length : Nat)
def R_lend (ds : List PyData) (r : Rs) : Prop := ∃ (l s : List Nat) (a : Int), ds = [.str (tx l), .int a] ∧ s <:+ l ∧ a = (l.length - s.length : Nat) ∧ l.length ≤ 1000 ∧ r = .ok (.int (resE l.length (pNum s)))
def R_due (ds : List PyData) (r : Rs) : Prop := ∃ l : List Nat, ds = [.str (tx l)] ∧ l.length ≤ 120 ∧ r = resD (pR 64 l)
def resO : Option Tr → Rs
  | none => .new [.bool false, .bool false, .bool false, .bool true, .bool true]
  | some t => .ok t.d
def R_told12 (ds : List PyData) (r : Rs) : Prop := ∃ s : List Nat, ds = [.str (tx s)] ∧ s.length ≤ 120 ∧ r = resO (pR 64 s)
theorem nm_bad2 (u : List Nat) (h : ∀ c ∈ u, isD c = true) : (decide (u.length < 1) || (decide (2 < u.length) || ((decide (1 < u.length) && decide (u.head? = some 48)) || decide (60 < NumText.digitsVal u)))) = (nmW u).isNone := by
  rw [← nm_bad u h, Bool.and_comm]
  have e : decide (u.length < 1) = decide (u = []) := by
    cases u with
    | nil => rfl
    | cons a u => simp
  rw [e]
/-! ### signs, odd texts -/
def sgn1 : List Nat := TL.tl ("0123456789=(),\t\n" : Str)
def sgn2 : List Nat := TL.tl (" !\"#$&'()*+,-./0123456789:;<=>?@ABCDEFGHIJKLMNOPQRSTUVWXYZ[\\]^_`" : Str) ++ TL.tl ("abcdefghijklmnopqrstuvwxyz{|}~" : Str)
theorem sgn1_len : sgn1.length = 16 := by decide +kernel
theorem sgn2_len : sgn2.length = 94 := by decide +kernel
def sgn (c : Int) : Nat := if c % 2 = 1 then sgn1.getD (c / 2 % 16).toNat 0 else sgn2.getD (c / 2 % 94).toNat 0
theorem at_getD {α : Type} {l : List α} {i : Int} (z : α) (h0 : 0 ≤ i) (h1 : i < l.length) : atI l i = some (l.getD i.toNat z) := by
  refine atI_nat' (j := i.toNat) (by omega) ?_
  rw [List.getD_eq_getElem?_getD, List.getElem?_eq_getElem (by omega)]
  rfl
def R_sign (ds : List PyData) (r : Rs) : Prop := ∃ c : Int, ds = [.int c] ∧ r = .ok (.str (tx [sgn c]))
def odds : List Str := ["", "=", "1", "=1 ", " =1", "=01", "=61", "=60", "=1=1", "1(=0,=1", "1(=0,=1))", "1(=0=1)", "1(,=1)", "(=0,=1)", "1(=0,=1),=2", "1(=0, =1)", "1_0(=0,=1)", "+1(=0,=1)", "=-1", "00(=0,=1)", "0(=0,=0)", "=0("]
theorem odds_len : odds.length = 22 := rfl
theorem odds_small : ∀ x ∈ odds, (TL.tl x).length ≤ 20 := by decide +kernel
def R_odd (ds : List PyData) (r : Rs) : Prop := ∃ c : Int, ds = [.int c] ∧ r = .ok (.str (odds.getD (c % 22).toNat ""))
def spo (l : List Nat) (c o : Int) : List Nat := if c % 3 = 0 then l.take (c / 3 % (l.length + 1)).toNat ++ l.drop ((c / 3 % (l.length + 1)).toNat + 1) else if c % 3 = 1 then l.take (c / 3 % (l.length + 1)).toNat ++ [sgn o] ++ l.drop ((c / 3 % (l.length + 1)).toNat + 1) else l.take (c / 3 % (l.length + 1)).toNat ++ [sgn o] ++ l.drop (c / 3 % (l.length + 1)).toNat
theorem spo_len (l : List Nat) (c o : Int) : (spo l c o).length ≤ l.length + 1 := by
  unfold spo
  generalize (c / 3 % ((l.length : Int) + 1)).toNat = m
  split
  · simp only [List.length_append, List.length_take, List.length_drop]
    omega
  · split
    · simp only [List.length_append, List.length_take, List.length_drop, List.length_singleton]
      omega
    · simp only [List.length_append, List.length_take, List.length_drop, List.length_singleton]
      omega
def R_spo (ds : List PyData) (r : Rs) : Prop := ∃ (l : List Nat) (c o : Int), ds = [.str (tx l), .int c, .int o] ∧ l.length ≤ 1000 ∧ r = .ok (.str (tx (spo l c o)))
/-! ### trees as data that may be compared -/
theorem so_told : PyData.strOk ("told" : Str) = true := by decide +kernel
theorem so_drop : PyData.strOk ("drop" : Str) = true := by decide +kernel
theorem tr_lay : ∀ t : Tr, t.d.canLay0 = true
  | .told n => by simp [Tr.d, PyData.canLay0, PyData.canLayAll0, so_told]
  | .drop n b w => by simp [Tr.d, PyData.canLay0, PyData.canLayAll0, tr_lay b, tr_lay w, so_drop]
theorem tr_depth : ∀ t : Tr, t.d.depth ≤ t.dep + 1
  | .told n => by simp [Tr.d, PyData.depth, PyData.depthAll, Tr.dep]
  | .drop n b w => by
    have h1 := tr_depth b
    have h2 := tr_depth w
    simp only [Tr.d, PyData.depth, PyData.depthAll, Tr.dep]
    omega
theorem sh_tr {t : Tr} (h : t.dep ≤ 60) : SeqAt.shaped t.d = true := by
  have := tr_depth t
  unfold SeqAt.shaped
  rw [tr_lay, Bool.true_and]
  exact decide_eq_true (by omega)
theorem tr_ty (t : Tr) : tyR (.ok t.d) = "tuple" := by cases t <;> rfl
theorem tr_non (t : Tr) : isNone t.d = false := by cases t <;> rfl
theorem pR_dep {s : List Nat} {t : Tr} (hs : s.length + 1 ≤ 104) (h : pR 64 s = some t) : t.dep ≤ 52 := by
  unfold pR at h
  rw [pT_64 hs] at h
  cases e : pT 52 s with
  | none =>
    rw [e] at h
    cases h
  | some x =>
    have := pT_dep _ _ _ e
    rw [e, Option.bind_some] at h
    split at h
    · cases h
      omega
    · cases h
theorem sh_bools (bs : List Bool) : SeqAt.shaped (.list (bs.map PyData.bool)) = true := by
  have h1 : ∀ bs : List Bool, PyData.canLayAll0 (bs.map PyData.bool) = true := fun bs => by
    induction bs with
    | nil => rfl
    | cons b bs ih => simp [PyData.canLayAll0, PyData.canLay0, ih]
  have h2 : ∀ bs : List Bool, PyData.depthAll (bs.map PyData.bool) = 0 := fun bs => by
    induction bs with
    | nil => rfl
    | cons b bs ih => simp [PyData.depthAll, PyData.depth, ih]
  have e1 : (PyData.list (bs.map PyData.bool)).canLay0 = true := by simpa only [PyData.canLay0] using h1 bs
  have e2 : (PyData.list (bs.map PyData.bool)).depth = PyData.depthAll (bs.map PyData.bool) + 1 := by simp only [PyData.depth]
  unfold SeqAt.shaped
  rw [e1, e2, h2 bs, Bool.true_and]
  exact decide_eq_true (by omega)
end Eg
namespace Eg
open PySem PySem.Spec PyProof.Rows L2
def top (i : Nat) : Stmt := PySem.Challenge.pw_eggfloors_k12_texts_refused.main.body.getD i (.Pass ⟨0, 0, 0, 0⟩)
abbrev s_number_at : Stmt := top 9
abbrev s_sign_at : Stmt := top 10
abbrev s_tree_at : Stmt := top 11
abbrev s_read : Stmt := top 12
abbrev s_law_cell_at : Stmt := top 14
abbrev s_law_whole : Stmt := top 15
abbrev s_law_tree : Stmt := top 16
abbrev s_law_which : Stmt := top 17
abbrev s_law_text : Stmt := top 18
abbrev s_law_sign_by : Stmt := top 19
abbrev s_law_odd : Stmt := top 20
abbrev s_law_end : Stmt := top 21
abbrev s_law_due : Stmt := top 22
abbrev s_law_told : Stmt := top 23
abbrev s_law_spoiled : Stmt := top 24
abbrev s_law : Stmt := top 25
abbrev sc_number_at_N : List Str := ["text", "at", "end", "word"]
theorem sc_number_at : FnScope sc_number_at_N ["text", "at"] (defScope s_number_at) := ⟨rfl, rfl, rfl, by decide +kernel, rfl, by decide +kernel, by decide +kernel⟩
abbrev sc_sign_at_N : List Str := ["text", "at", "sign"]
theorem sc_sign_at : FnScope sc_sign_at_N ["text", "at", "sign"] (defScope s_sign_at) := ⟨rfl, rfl, rfl, by decide +kernel, rfl, by decide +kernel, by decide +kernel⟩
abbrev sc_tree_at_N : List Str := ["text", "at", "floor", "end", "broken", "whole"]
theorem sc_tree_at : FnScope sc_tree_at_N ["text", "at"] (defScope s_tree_at) := ⟨rfl, rfl, rfl, by decide +kernel, rfl, by decide +kernel, by decide +kernel⟩
abbrev sc_read_N : List Str := ["text", "tree", "end"]
theorem sc_read : FnScope sc_read_N ["text"] (defScope s_read) := ⟨rfl, rfl, rfl, by decide +kernel, rfl, by decide +kernel, by decide +kernel⟩
abbrev sc_law_cell_at_N : List Str := ["script", "k"]
theorem sc_law_cell_at : FnScope sc_law_cell_at_N ["script", "k"] (defScope s_law_cell_at) := ⟨rfl, rfl, rfl, by decide +kernel, rfl, by decide +kernel, by decide +kernel⟩
abbrev sc_law_whole_N : List Str := ["found"]
theorem sc_law_whole : FnScope sc_law_whole_N ["found"] (defScope s_law_whole) := ⟨rfl, rfl, rfl, by decide +kernel, rfl, by decide +kernel, by decide +kernel⟩
abbrev sc_law_tree_N : List Str := ["script", "at", "low", "high", "things", "cell", "drop", "broken"]
theorem sc_law_tree : FnScope sc_law_tree_N ["script", "at", "low", "high", "things"] (defScope s_law_tree) := ⟨rfl, rfl, rfl, by decide +kernel, rfl, by decide +kernel, by decide +kernel⟩
abbrev sc_law_which_N : List Str := ["e", "some"]
theorem sc_law_which : FnScope sc_law_which_N ["e"] (defScope s_law_which) := ⟨rfl, rfl, rfl, by decide +kernel, rfl, by decide +kernel, by decide +kernel⟩
abbrev sc_law_text_N : List Str := ["tree"]
theorem sc_law_text : FnScope sc_law_text_N ["tree"] (defScope s_law_text) := ⟨rfl, rfl, rfl, by decide +kernel, rfl, by decide +kernel, by decide +kernel⟩
abbrev sc_law_sign_by_N : List Str := ["cell", "signs"]
theorem sc_law_sign_by : FnScope sc_law_sign_by_N ["cell"] (defScope s_law_sign_by) := ⟨rfl, rfl, rfl, by decide +kernel, rfl, by decide +kernel, by decide +kernel⟩
abbrev sc_law_odd_N : List Str := ["cell", "some"]
theorem sc_law_odd : FnScope sc_law_odd_N ["cell"] (defScope s_law_odd) := ⟨rfl, rfl, rfl, by decide +kernel, rfl, by decide +kernel, by decide +kernel⟩
abbrev sc_law_end_N : List Str := ["text", "at", "end", "word"]
theorem sc_law_end : FnScope sc_law_end_N ["text", "at"] (defScope s_law_end) := ⟨rfl, rfl, rfl, by decide +kernel, rfl, by decide +kernel, by decide +kernel⟩
abbrev sc_law_due_N : List Str := ["text", "pile", "at", "whole", "leaf", "end", "number", "tree"]
theorem sc_law_due : FnScope sc_law_due_N ["text"] (defScope s_law_due) := ⟨rfl, rfl, rfl, by decide +kernel, rfl, by decide +kernel, by decide +kernel⟩
abbrev sc_law_told_N : List Str := ["text", "told", "e"]
theorem sc_law_told : FnScope sc_law_told_N ["text"] (defScope s_law_told) := ⟨rfl, rfl, rfl, by decide +kernel, rfl, by decide +kernel, by decide +kernel⟩
abbrev sc_law_spoiled_N : List Str := ["text", "cell", "other", "at"]
theorem sc_law_spoiled : FnScope sc_law_spoiled_N ["text", "cell", "other"] (defScope s_law_spoiled) := ⟨rfl, rfl, rfl, by decide +kernel, rfl, by decide +kernel, by decide +kernel⟩
abbrev sc_law_N : List Str := ["script", "floors", "text", "due", "found"]
theorem sc_law : FnScope sc_law_N ["script"] (defScope s_law) := ⟨rfl, rfl, rfl, by decide +kernel, rfl, by decide +kernel, by decide +kernel⟩
structure Tx (K : PySem.W.Frag) (mg : Str → Option Value) (C_FloorError C_NoCase C_NoPlan C_NoFloor C_BadLine : Addr) : Prop where
  z_ValueError : mg "ValueError" = none
  z_bool : mg "bool" = none
  z_int : mg "int" = none
  z_isinstance : mg "isinstance" = none
  z_len : mg "len" = none
  z_str : mg "str" = none
  z_tuple : mg "tuple" = none
  m_FIGURES : ∃ u, mg "FIGURES" = some u ∧ RelV (.str "0123456789") u
  m_MOST_TREE : ∃ u, mg "MOST_TREE" = some u ∧ RelV (.int 60) u
  e_FloorError : ExC K mg "FloorError" C_FloorError
  e_NoCase : ExC K mg "NoCase" C_NoCase
  e_NoPlan : ExC K mg "NoPlan" C_NoPlan
  e_NoFloor : ExC K mg "NoFloor" C_NoFloor
  e_BadLine : ExC K mg "BadLine" C_BadLine
  xe_NoCase : L2.ExcC K C_NoCase
  xf_NoCase : PySem.W.exmOne K (.ref C_NoCase) (.ref C_FloorError) = some true
  kt_NoCase_NoCase : PySem.W.kitOne K (.ref C_NoCase) (.ref C_NoCase) = some true
  kt_NoCase_NoPlan : PySem.W.kitOne K (.ref C_NoCase) (.ref C_NoPlan) = some false
  kt_NoCase_NoFloor : PySem.W.kitOne K (.ref C_NoCase) (.ref C_NoFloor) = some false
  kt_NoCase_BadLine : PySem.W.kitOne K (.ref C_NoCase) (.ref C_BadLine) = some false
  kv_NoCase : PySem.W.kitOne K (.ref C_NoCase) (.type "ValueError") = some true
  xe_NoPlan : L2.ExcC K C_NoPlan
  xf_NoPlan : PySem.W.exmOne K (.ref C_NoPlan) (.ref C_FloorError) = some true
  kt_NoPlan_NoCase : PySem.W.kitOne K (.ref C_NoPlan) (.ref C_NoCase) = some false
  kt_NoPlan_NoPlan : PySem.W.kitOne K (.ref C_NoPlan) (.ref C_NoPlan) = some true
  kt_NoPlan_NoFloor : PySem.W.kitOne K (.ref C_NoPlan) (.ref C_NoFloor) = some false
  kt_NoPlan_BadLine : PySem.W.kitOne K (.ref C_NoPlan) (.ref C_BadLine) = some false
  kv_NoPlan : PySem.W.kitOne K (.ref C_NoPlan) (.type "ValueError") = some true
  xe_NoFloor : L2.ExcC K C_NoFloor
  xf_NoFloor : PySem.W.exmOne K (.ref C_NoFloor) (.ref C_FloorError) = some true
  kt_NoFloor_NoCase : PySem.W.kitOne K (.ref C_NoFloor) (.ref C_NoCase) = some false
  kt_NoFloor_NoPlan : PySem.W.kitOne K (.ref C_NoFloor) (.ref C_NoPlan) = some false
  kt_NoFloor_NoFloor : PySem.W.kitOne K (.ref C_NoFloor) (.ref C_NoFloor) = some true
  kt_NoFloor_BadLine : PySem.W.kitOne K (.ref C_NoFloor) (.ref C_BadLine) = some false
  kv_NoFloor : PySem.W.kitOne K (.ref C_NoFloor) (.type "ValueError") = some true
  xe_BadLine : L2.ExcC K C_BadLine
  xf_BadLine : PySem.W.exmOne K (.ref C_BadLine) (.ref C_FloorError) = some true
  kt_BadLine_NoCase : PySem.W.kitOne K (.ref C_BadLine) (.ref C_NoCase) = some false
  kt_BadLine_NoPlan : PySem.W.kitOne K (.ref C_BadLine) (.ref C_NoPlan) = some false
  kt_BadLine_NoFloor : PySem.W.kitOne K (.ref C_BadLine) (.ref C_NoFloor) = some false
  kt_BadLine_BadLine : PySem.W.kitOne K (.ref C_BadLine) (.ref C_BadLine) = some true
  kv_BadLine : PySem.W.kitOne K (.ref C_BadLine) (.type "ValueError") = some true
section
variable {P : Program} {w : World} {K : PySem.W.Frag} {mg : Str → Option Value} {base : Heap} {C_FloorError C_NoCase C_NoPlan C_NoFloor C_BadLine : Addr} (T : Tx K mg C_FloorError C_NoCase C_NoPlan C_NoFloor C_BadLine)
include T
def wd_ (i : Nat) : List PyData := [.bool (decide (i = 0)), .bool (decide (i = 1)), .bool (decide (i = 2)), .bool (decide (i = 3)), .bool true]
theorem wh_NoCase : Wh K C_NoCase C_NoPlan C_NoFloor C_BadLine C_NoCase (wd_ 0) := ⟨T.xe_NoCase, _, _, _, _, _, T.kt_NoCase_NoCase, T.kt_NoCase_NoPlan, T.kt_NoCase_NoFloor, T.kt_NoCase_BadLine, T.kv_NoCase, rfl⟩
theorem wh_NoPlan : Wh K C_NoCase C_NoPlan C_NoFloor C_BadLine C_NoPlan (wd_ 1) := ⟨T.xe_NoPlan, _, _, _, _, _, T.kt_NoPlan_NoCase, T.kt_NoPlan_NoPlan, T.kt_NoPlan_NoFloor, T.kt_NoPlan_BadLine, T.kv_NoPlan, rfl⟩
theorem wh_NoFloor : Wh K C_NoCase C_NoPlan C_NoFloor C_BadLine C_NoFloor (wd_ 2) := ⟨T.xe_NoFloor, _, _, _, _, _, T.kt_NoFloor_NoCase, T.kt_NoFloor_NoPlan, T.kt_NoFloor_NoFloor, T.kt_NoFloor_BadLine, T.kv_NoFloor, rfl⟩
theorem wh_BadLine : Wh K C_NoCase C_NoPlan C_NoFloor C_BadLine C_BadLine (wd_ 3) := ⟨T.xe_BadLine, _, _, _, _, _, T.kt_BadLine_NoCase, T.kt_BadLine_NoPlan, T.kt_BadLine_NoFloor, T.kt_BadLine_BadLine, T.kv_BadLine, rfl⟩
theorem ok_number_at {f : Addr} {fd : FuncData} (F : Fun K "number_at" "number_at" s_number_at f fd) (hm : mg "number_at" = some (.ref f)) (b : Binds K fd ["text", "at"] []) : Fn P w K mg base 1 "number_at" (R_numat C_BadLine) := by
  refine ok_fn F sc_number_at hm b (fun ds r ⟨_, _, _, e, _⟩ => by subst e; rfl) (fun cdv A outer s H E hr => ⟨_, (pss_cons (ps_set (i := 2) sc_number_at.nd rfl (Or.inl rfl) (pv 1))
      (pss_cons (ps_while (passes_of rfl) (PW.pt (pw_and (pt_cmpR op_lt (pv 2) (pe_callB cLenS (by rfl) T.z_len (by decide +kernel) (pa_cons (pv 0) pa_nil)) (nomark _)) (pw_and1 (pt_cmpR oInS (pe_ix ix_str (pv 0) (pv 2) (fun _ _ => rfl)) (pe_gl (.str "0123456789") T.m_FIGURES) rfl)))) (pss_one (ps_set (i := 2) sc_number_at.nd rfl (Or.inl rfl) (pe_op op_add (pv 2) pe_int))))
      (pss_cons (ps_set (i := 3) sc_number_at.nd rfl (Or.inl rfl) (pe_slice sl_str (pv 0) (po_some (pv 1)) (po_some (pv 2))))
      (pss_cons (ps_if (PW.pt (pw_or (pt_cmpR op_eq (pv 3) pe_str (nomark _)) (pw_or (pt_cmpR op_gt (pe_callB cLenS (by rfl) T.z_len (by decide +kernel) (pa_cons (pv 3) pa_nil)) pe_int (nomark _)) (pw_or (PW.pt (pw_and (pt_cmpR op_eq (pe_ix ix_str (pv 3) pe_int (fun _ _ => rfl)) pe_str (nomark _)) (pw_and1 (pt_cmpR op_gt (pe_callB cLenS (by rfl) T.z_len (by decide +kernel) (pa_cons (pv 3) pa_nil)) pe_int (nomark _))))) (pw_or1 (pt_cmpR op_gt (pe_callTy cIntS (by rfl) T.z_int (by decide +kernel) (pa_cons (pv 3) pa_nil)) (pe_gl (.int 60) T.m_MOST_TREE) (nomark _))))))) (pss_one (ps_rs T.e_BadLine rfl (takes_of rfl rfl rfl rfl))) pss_nil)
      (pss_one (ps_ret (pe_tup (pa_cons (pe_callTy cIntS (by rfl) T.z_int (by decide +kernel) (pa_cons (pv 3) pa_nil)) (pa_cons (pv 2) pa_nil))))))))), ?_⟩)
  rintro ds r ⟨l, s, a, rfl, ⟨p, hp⟩, rfl, hl, rfl⟩
  obtain ⟨u, q, rfl, hu, hq⟩ := cut_digits s
  rw [pNum_cut hu hq]
  have ea : l.length - (u ++ q).length = p.length := by rw [← hp]; simp
  have el : l.length = p.length + u.length + q.length := by rw [← hp]; simp; omega
  rw [ea]
  show GS K E _ [some (.dat (.str (tx l))), some (.dat (.int (p.length : Nat))), none, none] _ _
  have wd : ∀ {ρ : Rho}, ρ[3]? = some (some (.dat (.str (tx u)))) → GE K E (tVar 3) ρ (.ok (.str (tx u))) := fun h => GE.var h
  refine GS.seq (GS.asg (d := .int ((p.length + 0 : Nat) : Int)) (GE.var rfl) ?_)
  refine GS.seq (GS.mono (Nx := fun ρ' => ρ' = [some (.dat (.str (tx l))), some (.dat (.int (p.length : Nat))), some (.dat (.int ((p.length + u.length : Nat) : Int))), none]) (GS.while (fun m ρ' => ∃ h : Nat, m + h = u.length ∧ ρ' = [some (.dat (.str (tx l))), some (.dat (.int (p.length : Nat))), some (.dat (.int ((p.length + h : Nat) : Int))), none]) u.length ⟨0, rfl, rfl⟩ ?_) ?_)
  · rintro m ρ' ⟨h, hm', rfl⟩
    by_cases hh : h < u.length
    · have hc : isD u[h] = true := hu _ (List.getElem_mem hh)
      have hat : atI l ((p.length + h : Nat) : Int) = some u[h] := at_mid (p ++ u.take h) u[h] (u.drop (h + 1) ++ q) (by rw [List.append_assoc, ← List.cons_append, ← List.append_assoc (u.take h), List.getElem_cons_drop, List.take_append_drop, hp]) (by simp; omega)
      refine ⟨true, (GT.and (a := true) (b := isD u[h]) ((GT.test (GE.op (GE.var rfl) (GE.lenS (l := l) (GE.var rfl) (by omega)) rd_bl)).to (Eq.trans (decide_eq_decide (q := p.length + h < l.length).mpr (by omega)) (decide_eq_true (by omega)))) fun _ => (GT.test (GE.op (GE.op (GE.var rfl) (GE.var rfl) (rd_ixS hat (by omega))) (GE.to (GE.c (d := .str "0123456789") fun _ => .str _) (congrArg (fun z => Rs.ok (.str z)) (tx_eq (l := [48, 49, 50, 51, 52, 53, 54, 55, 56, 57]) (by decide +kernel)))) rd_inS)).to figs).to (by rw [hc]; rfl), fun _ => ?_, (fun hb => nomatch hb)⟩
      exact GS.asg (d := .int ((p.length + (h + 1) : Nat) : Int)) (GE.op (GE.var rfl) GE.int rd_int) ⟨m - 1, by omega, h + 1, by omega, rfl⟩
    · have eh : h = u.length := by omega
      subst eh
      refine ⟨false, ?_, (fun hb => nomatch hb), fun _ => rfl⟩
      cases q with
      | nil => exact (GT.and (a := false) (b := false) ((GT.test (GE.op (GE.var rfl) (GE.lenS (l := l) (GE.var rfl) (by omega)) rd_bl)).to (Eq.trans (decide_eq_decide (q := p.length + u.length < l.length).mpr (by omega)) (decide_eq_false (by simp at el; omega)))) fun hb => nomatch hb)
      | cons c q =>
        have hat : atI l ((p.length + u.length : Nat) : Int) = some c := at_mid (p ++ u) c q (by rw [← hp]; simp) (by simp)
        have hc := hq c q rfl
        exact (GT.and (a := true) (b := isD c) ((GT.test (GE.op (GE.var rfl) (GE.lenS (l := l) (GE.var rfl) (by omega)) rd_bl)).to (Eq.trans (decide_eq_decide (q := p.length + u.length < l.length).mpr (by omega)) (decide_eq_true (by simp at el; omega)))) fun _ => (GT.test (GE.op (GE.op (GE.var rfl) (GE.var rfl) (rd_ixS hat (by omega))) (GE.to (GE.c (d := .str "0123456789") fun _ => .str _) (congrArg (fun z => Rs.ok (.str z)) (tx_eq (l := [48, 49, 50, 51, 52, 53, 54, 55, 56, 57]) (by decide +kernel)))) rd_inS)).to figs).to (by rw [hc]; rfl)
  · rintro ρ' rfl
    refine GS.seq (GS.asg (d := .str (tx u)) (GE.slS (GE.var rfl) (GO.some (GE.var rfl)) (GO.some (GE.var rfl)) (by omega) (cut_mid p u q (by rw [← hp, List.append_assoc]) rfl rfl)) ?_)
    have hv := nm_val u
    have hb := nm_bad u hu
    refine GS.seq (GS.ifs (b := (nmW u).isNone) ((GT.or (a := decide (u = [])) ((GT.test (GE.op (wd rfl) (GE.strC (l := []) (by decide +kernel)) rd_eqS)).to txd) fun h0 => GT.or (a := decide (2 < u.length)) ((GT.test (GE.op (GE.lenS (wd rfl) (by omega)) GE.int rd_bl)).to (decide_eq_decide.mpr (by omega))) fun h1 => GT.or (a := decide (u.head? = some 48) && decide (1 < u.length)) (GT.and ?_ fun _ => (GT.test (GE.op (GE.lenS (wd rfl) (by omega)) GE.int rd_bl)).to (decide_eq_decide.mpr (by omega))) fun h2 => (GT.test (GE.op (GE.intS (wd rfl) (isD_all hu) (of_decide_eq_false h0) (by have := of_decide_eq_false h1; omega) rfl) (GE.c (d := .int 60) fun _ => .int _) rd_bl)).to (decide_eq_decide.mpr (by omega))).to hb) (fun hb' => ?_) fun hb' => GS.next ?_)
    · cases u with
      | nil => exact absurd rfl (of_decide_eq_false h0)
      | cons c u =>
        refine (GT.test (GE.op (GE.op (wd rfl) GE.int (rd_ixS (c := c) (at_mid [] c u rfl rfl) (by omega))) (GE.strC (l := [48]) (by decide +kernel)) rd_eqS)).to ?_
        rw [txd]
        simp
    · have e : nmW u = none := Option.isNone_iff_eq_none.mp hb'
      rw [e]
      exact GS.raise
    · cases e : nmW u with
      | none =>
        rw [e] at hb'
        cases hb'
      | some n =>
        obtain ⟨h1, h2, h3⟩ := hv n e
        have ep : l.length - q.length = p.length + u.length := by omega
        show GS K E _ _ _ (.ok (.tuple [.int n, .int (l.length - q.length : Nat)]))
        rw [ep]
        exact GS.retD (GE.tup (GA.cons (GE.intS (wd rfl) (isD_all hu) h2 (by omega) (by rw [h1])) (GA.cons (GE.var rfl) GA.nil)) (by simp))
theorem ok_sign_at {f : Addr} {fd : FuncData} (F : Fun K "sign_at" "sign_at" s_sign_at f fd) (hm : mg "sign_at" = some (.ref f)) (b : Binds K fd ["text", "at", "sign"] []) : Fn P w K mg base 1 "sign_at" (R_signat C_BadLine) := by
  refine ok_fn F sc_sign_at hm b (fun ds r ⟨_, _, _, _, e, _⟩ => by subst e; rfl) (fun cdv A outer s H E hr => ⟨_, (pss_cons (ps_if (pt_cmpR op_ne (pe_slice sl_str (pv 0) (po_some (pv 1)) (po_some (pe_op op_add (pv 1) pe_int))) (pv 2) (nomark _)) (pss_one (ps_rs T.e_BadLine rfl (takes_of rfl rfl rfl rfl))) pss_nil)
      (pss_one (ps_ret (pe_op op_add (pv 1) pe_int)))), ?_⟩)
  rintro ds r ⟨l, s, a, c, rfl, ⟨p, hp⟩, rfl, hl, rfl⟩
  have ea : l.length - s.length = p.length := by rw [← hp]; simp
  have el : l.length = p.length + s.length := by rw [← hp]; simp
  rw [ea]
  show GS K E _ [some (.dat (.str (tx l))), some (.dat (.int (p.length : Nat))), some (.dat (.str (tx [c])))] _ _
  refine GS.seq (GS.ifs (b := !(pS c s).isSome) ((GT.test (GE.op (GE.slS (GE.var rfl) (GO.some (GE.var rfl)) (GO.some (GE.op (GE.var rfl) GE.int rd_int)) (by omega) (cut_sign p s hp.symm rfl rfl)) (GE.var rfl) rd_neS)).to (by rw [txd, pS_take])) (fun hb => ?_) fun hb => GS.next ?_)
  · cases e : pS c s with
    | some r' =>
      rw [e] at hb
      cases hb
    | none => exact GS.raise
  · cases e : pS c s with
    | none =>
      rw [e] at hb
      cases hb
    | some r' =>
      have := (sfx_s e).2
      show GS K E _ _ _ (.ok (.int (l.length - r'.length : Nat)))
      rw [show l.length - r'.length = p.length + 1 by omega]
      exact GS.retD (GE.op (GE.var rfl) GE.int rd_int)
theorem ok_tree_at_n (C_number_at : Fn P w K mg base 1 "number_at" (R_numat C_BadLine)) (C_sign_at : Fn P w K mg base 1 "sign_at" (R_signat C_BadLine)) {f : Addr} {fd : FuncData} (F : Fun K "tree_at" "tree_at" s_tree_at f fd) (hm : mg "tree_at" = some (.ref f)) (b : Binds K fd ["text", "at"] []) : ∀ n : Nat, Fn P w K mg base (1 + n) "tree_at" (R_treeat C_BadLine n)
  | 0 => by
    have z : Fn P w K mg base 0 "tree_at" (R_treeat C_BadLine 0) := fn_none F hm b fun ds r ⟨_, _, _, _, _, _, _, h, _⟩ => h.elim (fun h => by omega) fun h => nomatch h
    exact z.up (by omega)
  | n + 1 => by
    have C_tree_at := ok_tree_at_n C_number_at C_sign_at F hm b n
    refine ok_fn (k := 1 + n) F sc_tree_at hm b (fun ds r ⟨_, _, _, e, _⟩ => by subst e; rfl) (fun cdv A outer s H E hr => ⟨_, (pss_cons (ps_if (pt_cmpR op_eq (pe_slice sl_str (pv 0) (po_some (pv 1)) (po_some (pe_op op_add (pv 1) pe_int))) pe_str (nomark _)) (pss_cons (ps_asg (pe_f (E := E) C_number_at hr (by omega) (fun σ => passAt (takes_of rfl rfl rfl rfl) σ) (pa_cons (pv 0) (pa_cons (pe_op op_add (pv 1) pe_int) pa_nil))) (pg_tup (by rfl) (pgs_cons (pg_name (i := 2) sc_tree_at.nd rfl (Or.inl rfl)) (pgs_cons (pg_name (i := 3) sc_tree_at.nd rfl (Or.inl rfl)) pgs_nil))))
      (pss_one (ps_ret (pe_tup (pa_cons (pe_tup (pa_cons pe_str (pa_cons (pv 2) pa_nil))) (pa_cons (pv 3) pa_nil)))))) pss_nil)
      (pss_cons (ps_asg (pe_f (E := E) C_number_at hr (by omega) (fun σ => passAt (takes_of rfl rfl rfl rfl) σ) (pa_cons (pv 0) (pa_cons (pv 1) pa_nil))) (pg_tup (by rfl) (pgs_cons (pg_name (i := 2) sc_tree_at.nd rfl (Or.inl rfl)) (pgs_cons (pg_name (i := 3) sc_tree_at.nd rfl (Or.inl rfl)) pgs_nil))))
      (pss_cons (ps_asg (pe_f (E := E) C_tree_at hr (by omega) (fun σ => passAt (takes_of rfl rfl rfl rfl) σ) (pa_cons (pv 0) (pa_cons (pe_f (E := E) C_sign_at hr (by omega) (fun σ => passAt (takes_of rfl rfl rfl rfl) σ) (pa_cons (pv 0) (pa_cons (pv 3) (pa_cons pe_str pa_nil)))) pa_nil))) (pg_tup (by rfl) (pgs_cons (pg_name (i := 4) sc_tree_at.nd rfl (Or.inl rfl)) (pgs_cons (pg_name (i := 3) sc_tree_at.nd rfl (Or.inl rfl)) pgs_nil))))
      (pss_cons (ps_asg (pe_f (E := E) C_tree_at hr (by omega) (fun σ => passAt (takes_of rfl rfl rfl rfl) σ) (pa_cons (pv 0) (pa_cons (pe_f (E := E) C_sign_at hr (by omega) (fun σ => passAt (takes_of rfl rfl rfl rfl) σ) (pa_cons (pv 0) (pa_cons (pv 3) (pa_cons pe_str pa_nil)))) pa_nil))) (pg_tup (by rfl) (pgs_cons (pg_name (i := 5) sc_tree_at.nd rfl (Or.inl rfl)) (pgs_cons (pg_name (i := 3) sc_tree_at.nd rfl (Or.inl rfl)) pgs_nil))))
      (pss_one (ps_ret (pe_tup (pa_cons (pe_tup (pa_cons pe_str (pa_cons (pv 2) (pa_cons (pv 4) (pa_cons (pv 5) pa_nil))))) (pa_cons (pe_f (E := E) C_sign_at hr (by omega) (fun σ => passAt (takes_of rfl rfl rfl rfl) σ) (pa_cons (pv 0) (pa_cons (pv 3) (pa_cons pe_str pa_nil)))) pa_nil))))))))), ?_⟩)
    rintro ds r ⟨l, s, a, rfl, hs, rfl, hl, hn, rfl⟩
    show GS K E _ [some (.dat (.str (tx l))), some (.dat (.int (l.length - s.length : Nat))), none, none, none, none] _ _
    have hsl := hs.length_le
    obtain ⟨p, hp⟩ := hs
    have hs : s <:+ l := ⟨p, hp⟩
    have ea : l.length - s.length = p.length := by rw [← hp]; simp
    refine GS.seq (GS.ifs (b := (pS 61 s).isSome) ((GT.test (GE.op (GE.slS (GE.var rfl) (GO.some (GE.var rfl)) (GO.some (GE.op (GE.var rfl) GE.int rd_int)) (by omega) (cut_sign p s hp.symm (by rw [ea]) (by rw [ea]; rfl))) (GE.strC (l := [61]) (by decide +kernel)) rd_eqS)).to (by rw [txd, pS_take])) (fun hb => ?_) fun hb => GS.next ?_)
    · cases e : pS 61 s with
      | none =>
        rw [e] at hb
        cases hb
      | some s1 =>
        obtain ⟨f1, g1⟩ := sfx_s e
        have q1 : R_numat C_BadLine [.str (tx l), .int (((l.length - s.length : Nat) : Int) + 1)] (resN C_BadLine l.length (pNum s1)) := ⟨l, s1, _, rfl, f1.trans hs, by omega, hl, rfl⟩
        unfold pT
        rw [e]
        show GS K E _ _ _ (resT C_BadLine l.length ((pNum s1).map _))
        cases e2 : pNum s1 with
        | none =>
          rw [e2] at q1
          exact GS.seq (GS.asgX (GE.call (GA.cons (GE.var rfl) (GA.cons (GE.op (GE.var rfl) GE.int rd_int) GA.nil)) q1))
        | some x =>
          rw [e2] at q1
          refine GS.seq (GS.asg2 (GE.call (GA.cons (GE.var rfl) (GA.cons (GE.op (GE.var rfl) GE.int rd_int) GA.nil)) q1) ?_)
          exact GS.retD (GE.tup (GA.cons (GE.tup (ds := [.str "told", .int x.1]) (GA.cons GE.str (GA.cons (GE.var rfl) GA.nil)) (by simp)) (GA.cons (GE.var rfl) GA.nil)) (by simp))
    · cases e : pS 61 s with
      | some s1 =>
        rw [e] at hb
        cases hb
      | none =>
        have q1 : R_numat C_BadLine [.str (tx l), .int ((l.length - s.length : Nat) : Int)] (resN C_BadLine l.length (pNum s)) := ⟨l, s, _, rfl, hs, rfl, hl, rfl⟩
        unfold pT
        rw [e]
        show GS K E _ _ _ (resT C_BadLine l.length ((pNum s).bind _))
        cases e1 : pNum s with
        | none =>
          rw [e1] at q1
          exact GS.seq (GS.asgX (GE.call (GA.cons (GE.var rfl) (GA.cons (GE.var rfl) GA.nil)) q1))
        | some x =>
        rw [e1] at q1
        obtain ⟨f1, g1⟩ := sfx_num e1
        have f1 := f1.trans hs
        refine GS.seq (GS.asg2 (GE.call (GA.cons (GE.var rfl) (GA.cons (GE.var rfl) GA.nil)) q1) ?_)
        rw [Option.bind_some]
        have q2 : R_signat C_BadLine [.str (tx l), .int ((l.length - x.2.length : Nat) : Int), .str (tx [40])] (resG C_BadLine l.length (pS 40 x.2)) := ⟨l, x.2, _, 40, rfl, f1, rfl, hl, rfl⟩
        cases e2 : pS 40 x.2 with
        | none =>
          rw [e2] at q2
          exact GS.seq (GS.asgX (GE.callx (GAx.there (GE.var rfl) (GAx.here (GE.call (GA.cons (GE.var rfl) (GA.cons (GE.var rfl) (GA.cons (GE.strC (l := [40]) (by decide +kernel)) GA.nil))) q2)))))
        | some r2 =>
        rw [e2] at q2
        obtain ⟨f2, g2⟩ := sfx_s e2
        have f2 := f2.trans f1
        rw [Option.bind_some]
        have q3 : R_treeat C_BadLine n [.str (tx l), .int ((l.length - r2.length : Nat) : Int)] (resT C_BadLine l.length (pT n r2)) := ⟨l, r2, _, rfl, f2, rfl, hl, pT_sub1 e e1 e2 hn (by omega), rfl⟩
        have ga2 := fun (ρ : Rho) (h0 : ρ[0]? = some (some (.dat (.str (tx l))))) (h3 : ρ[3]? = some (some (.dat (.int ((l.length - x.2.length : Nat) : Int))))) => GA.cons (K := K) (E := E) (GE.var h0) (GA.cons (GE.call (R := R_signat C_BadLine) (GA.cons (GE.var h0) (GA.cons (GE.var h3) (GA.cons (GE.strC (x := "(") (l := [40]) (by decide +kernel)) GA.nil))) q2) GA.nil)
        cases e3 : pT n r2 with
        | none =>
          rw [e3] at q3
          exact GS.seq (GS.asgX (GE.call (ga2 _ rfl rfl) q3))
        | some y =>
        rw [e3] at q3
        have f3 := (sfx_t e3).trans f2
        have g3 := (sfx_t e3).length_le
        refine GS.seq (GS.asg2 (GE.call (ga2 _ rfl rfl) q3) ?_)
        rw [Option.bind_some]
        have q4 : R_signat C_BadLine [.str (tx l), .int ((l.length - y.2.length : Nat) : Int), .str (tx [44])] (resG C_BadLine l.length (pS 44 y.2)) := ⟨l, y.2, _, 44, rfl, f3, rfl, hl, rfl⟩
        cases e4 : pS 44 y.2 with
        | none =>
          rw [e4] at q4
          exact GS.seq (GS.asgX (GE.callx (GAx.there (GE.var rfl) (GAx.here (GE.call (GA.cons (GE.var rfl) (GA.cons (GE.var rfl) (GA.cons (GE.strC (l := [44]) (by decide +kernel)) GA.nil))) q4)))))
        | some r4 =>
        rw [e4] at q4
        obtain ⟨f4, g4⟩ := sfx_s e4
        have f4 := f4.trans f3
        rw [Option.bind_some]
        have q5 : R_treeat C_BadLine n [.str (tx l), .int ((l.length - r4.length : Nat) : Int)] (resT C_BadLine l.length (pT n r4)) := ⟨l, r4, _, rfl, f4, rfl, hl, pT_sub2 e e1 e2 e3 e4 hn (by omega), rfl⟩
        have ga4 := fun (ρ : Rho) (h0 : ρ[0]? = some (some (.dat (.str (tx l))))) (h3 : ρ[3]? = some (some (.dat (.int ((l.length - y.2.length : Nat) : Int))))) => GA.cons (K := K) (E := E) (GE.var h0) (GA.cons (GE.call (R := R_signat C_BadLine) (GA.cons (GE.var h0) (GA.cons (GE.var h3) (GA.cons (GE.strC (x := ",") (l := [44]) (by decide +kernel)) GA.nil))) q4) GA.nil)
        cases e5 : pT n r4 with
        | none =>
          rw [e5] at q5
          exact GS.seq (GS.asgX (GE.call (ga4 _ rfl rfl) q5))
        | some z =>
        rw [e5] at q5
        have f5 := (sfx_t e5).trans f4
        refine GS.seq (GS.asg2 (GE.call (ga4 _ rfl rfl) q5) ?_)
        rw [Option.bind_some]
        have q6 : R_signat C_BadLine [.str (tx l), .int ((l.length - z.2.length : Nat) : Int), .str (tx [41])] (resG C_BadLine l.length (pS 41 z.2)) := ⟨l, z.2, _, 41, rfl, f5, rfl, hl, rfl⟩
        have gt : ∀ {ρ : Rho}, ρ[2]? = some (some (.dat (.int x.1))) → ρ[4]? = some (some (.dat y.1.d)) → ρ[5]? = some (some (.dat z.1.d)) → GE K E _ ρ (.ok (Tr.drop x.1 y.1 z.1).d) := fun h2 h4 h5 => GE.tup (GA.cons (GE.str (x := "drop")) (GA.cons (GE.var h2) (GA.cons (GE.var h4) (GA.cons (GE.var h5) GA.nil)))) (by simp)
        cases e6 : pS 41 z.2 with
        | none =>
          rw [e6] at q6
          exact GS.retX (GE.tupx (GAx.there (gt rfl rfl rfl) (GAx.here (GE.call (GA.cons (GE.var rfl) (GA.cons (GE.var rfl) (GA.cons (GE.strC (l := [41]) (by decide +kernel)) GA.nil))) q6))))
        | some r6 =>
          rw [e6] at q6
          exact GS.retD (GE.tup (GA.cons (gt rfl rfl rfl) (GA.cons (GE.call (GA.cons (GE.var rfl) (GA.cons (GE.var rfl) (GA.cons (GE.strC (l := [41]) (by decide +kernel)) GA.nil))) q6) GA.nil)) (by simp))
theorem ok_tree_at (C_number_at : Fn P w K mg base 1 "number_at" (R_numat C_BadLine)) (C_sign_at : Fn P w K mg base 1 "sign_at" (R_signat C_BadLine)) {f : Addr} {fd : FuncData} (F : Fun K "tree_at" "tree_at" s_tree_at f fd) (hm : mg "tree_at" = some (.ref f)) (b : Binds K fd ["text", "at"] []) : Fn P w K mg base 65 "tree_at" (R_treeat C_BadLine 64) := ok_tree_at_n T C_number_at C_sign_at F hm b 64
theorem ok_read (C_tree_at : Fn P w K mg base 65 "tree_at" (R_treeat C_BadLine 64)) {f : Addr} {fd : FuncData} (F : Fun K "read" "read" s_read f fd) (hm : mg "read" = some (.ref f)) (b : Binds K fd ["text"] []) : Fn P w K mg base 66 "read" (R_read C_BadLine 64) := by
  refine ok_fn F sc_read hm b (fun ds r ⟨_, e, _⟩ => by subst e; rfl) (fun cdv A outer s H E hr => ⟨_, (pss_cons (ps_asg (pe_f (E := E) C_tree_at hr (by omega) (fun σ => passAt (takes_of rfl rfl rfl rfl) σ) (pa_cons (pv 0) (pa_cons pe_int pa_nil))) (pg_tup (by rfl) (pgs_cons (pg_name (i := 1) sc_read.nd rfl (Or.inl rfl)) (pgs_cons (pg_name (i := 2) sc_read.nd rfl (Or.inl rfl)) pgs_nil))))
      (pss_cons (ps_if (pt_cmpR op_ne (pv 2) (pe_callB cLenS (by rfl) T.z_len (by decide +kernel) (pa_cons (pv 0) pa_nil)) (nomark _)) (pss_one (ps_rs T.e_BadLine rfl (takes_of rfl rfl rfl rfl))) pss_nil)
      (pss_one (ps_ret (pv 1))))), ?_⟩)
  rintro ds r ⟨s, rfl, hn, hl, rfl⟩
  show GS K E _ [some (.dat (.str (tx s))), none, none] _ _
  have q1 : R_treeat C_BadLine 64 [.str (tx s), .int 0] (resT C_BadLine s.length (pT 64 s)) := ⟨s, s, _, rfl, List.suffix_refl _, by rw [Nat.sub_self]; rfl, hl, hn, rfl⟩
  unfold pR
  cases e : pT 64 s with
  | none =>
    rw [e] at q1
    exact GS.seq (GS.asgX (GE.call (GA.cons (GE.var rfl) (GA.cons GE.int GA.nil)) q1))
  | some x =>
    rw [e] at q1
    have g := (sfx_t e).length_le
    refine GS.seq (GS.asg2 (GE.call (GA.cons (GE.var rfl) (GA.cons GE.int GA.nil)) q1) ?_)
    rw [Option.bind_some]
    refine GS.seq (GS.ifs (b := !decide (x.2 = [])) ((GT.test (GE.op (GE.var rfl) (GE.lenS (GE.var rfl) (by omega)) rd_neI)).to ?_) (fun hb => ?_) fun hb => GS.next ?_)
    · refine congrArg Bool.not (decide_eq_decide.mpr ⟨fun h => List.length_eq_zero_iff.mp (by omega), fun h => by rw [h]; simp⟩)
    · rw [if_neg (by simpa using hb)]
      exact GS.raise
    · rw [if_pos (by simpa using hb)]
      exact GS.retD (GE.var rfl)
theorem ok_law_cell_at {f : Addr} {fd : FuncData} (F : Fun K "_law_cell_at" "_law_cell_at" s_law_cell_at f fd) (hm : mg "_law_cell_at" = some (.ref f)) (b : Binds K fd ["script", "k"] []) : Fn P w K mg base 1 "_law_cell_at" R_cell := by
  refine ok_fn F sc_law_cell_at hm b (fun ds r ⟨ns, k, e, _⟩ => by subst e; rfl) (fun cdv A outer s H E hr => ⟨_, (pss_cons (ps_if (pt_cmpR op_lt (pv 1) (pe_callB (cLen K) (by rfl) T.z_len (by decide +kernel) (pa_cons (pv 0) pa_nil)) (nomark _)) (pss_one (ps_ret (pe_ix (ixL K) (pv 0) (pv 1) (fun _ _ => rfl)))) pss_nil)
      (pss_one (ps_ret pe_int))), ?_⟩)
  rintro ds r ⟨ns, k, rfl, rfl⟩
  show GS K E _ [some (.dat (.list (ns.map .int))), some (.dat (.int k))] _ _
  refine GS.seq (GS.ifs (b := decide (k < ns.length)) ((GT.test (GE.op (GE.var rfl) (GE.len (GE.var rfl) (.ls (.ok _))) rd_bl)).to ?_) (fun hb => ?_) fun hb => ?_)
  · rw [List.length_map]
    exact decide_eq_decide.mpr (by omega)
  · have h := of_decide_eq_true hb
    exact GS.retD (GE.ixL (GE.var rfl) (.ok _) (GE.var rfl) (cell_in h))
  · have h := of_decide_eq_false hb
    refine GS.next (GS.retD ?_)
    rw [cell_out (by omega)]
    exact GE.int
theorem ok_law_whole {f : Addr} {fd : FuncData} (F : Fun K "_law_whole" "_law_whole" s_law_whole f fd) (hm : mg "_law_whole" = some (.ref f)) (b : Binds K fd ["found"] []) : Fn P w K mg base 1 "_law_whole" R_whole := by
  refine ok_fn F sc_law_whole hm b (fun ds r ⟨i, e, _⟩ => by subst e; rfl) (fun cdv A outer s H E hr => ⟨_, (pss_one (ps_ret (pe_and (pe_callB (cIsi K) (by rfl) T.z_isinstance (by decide +kernel) (pa_cons (pv 0) (pa_cons (pe_bltn (v := .ty "int") (by rfl) T.z_int (by decide +kernel) rfl) pa_nil))) (pe_one (pe_not (pe_callB (cIsi K) (by rfl) T.z_isinstance (by decide +kernel) (pa_cons (pv 0) (pa_cons (pe_bltn (v := .ty "bool") (by rfl) T.z_bool (by decide +kernel) rfl) pa_nil)))))))), ?_⟩)
  rintro ds r ⟨i, rfl, rfl⟩
  show GS K E _ [some (.dat (.int i))] _ _
  exact GS.retD (GE.andV (a := true) (b := !false) (GE.isi (GE.var rfl) trivial (show kitB "int" "int" = some true by decide +kernel)) fun _ => GE.notV (GE.isi (GE.var rfl) trivial (show kitB "int" "bool" = some false by decide +kernel)))
theorem ok_law_tree_n (C_law_cell_at : Fn P w K mg base 1 "_law_cell_at" R_cell) {f : Addr} {fd : FuncData} (F : Fun K "_law_tree" "_law_tree" s_law_tree f fd) (hm : mg "_law_tree" = some (.ref f)) (b : Binds K fd ["script", "at", "low", "high", "things"] []) : ∀ n : Nat, Fn P w K mg base (1 + n) "_law_tree" (R_ltree n)
  | 0 => by
    have z : Fn P w K mg base 0 "_law_tree" (R_ltree 0) := fn_none F hm b fun ds r ⟨_, _, _, _, _, _, _, _, _, _, _, _, h, _⟩ => by omega
    exact z.up (by omega)
  | n + 1 => by
    have C_law_tree := ok_law_tree_n C_law_cell_at F hm b n
    refine ok_fn (k := 1 + n) F sc_law_tree hm b (fun ds r ⟨_, _, _, _, _, _, _, _, e, _⟩ => by subst e; rfl) (fun cdv A outer s H E hr => ⟨_, (pss_cons (ps_if (pt_cmpR op_eq (pv 2) (pv 3) (nomark _)) (pss_one (ps_ret (pe_tup (pa_cons pe_str (pa_cons (pv 2) pa_nil))))) pss_nil)
      (pss_cons (ps_set (i := 5) sc_law_tree.nd rfl (Or.inl rfl) (pe_op op_fdiv (pe_f (E := E) C_law_cell_at hr (by omega) (fun σ => passAt (takes_of rfl rfl rfl rfl) σ) (pa_cons (pv 0) (pa_cons (pe_op op_add (pv 1) (pe_op op_mod (pe_op op_add (pe_op op_mul pe_int (pv 2)) (pe_op op_mul pe_int (pv 3))) pe_int)) pa_nil))) (pe_op op_add pe_int (pv 4))))
      (pss_cons (ps_set (i := 6) sc_law_tree.nd rfl (Or.inl rfl) (pe_op op_add (pe_op op_add (pv 2) pe_int) (pe_op op_mod (pv 5) (pe_op op_sub (pv 3) (pv 2)))))
      (pss_cons (ps_if (pt_cmpR op_eq (pv 4) pe_int (nomark _)) (pss_one (ps_set (i := 6) sc_law_tree.nd rfl (Or.inl rfl) (pe_op op_add (pv 2) pe_int))) pss_nil)
      (pss_cons (ps_set (i := 7) sc_law_tree.nd rfl (Or.inl rfl) (pe_f (E := E) C_law_tree hr (by omega) (fun σ => passAt (takes_of rfl rfl rfl rfl) σ) (pa_cons (pv 0) (pa_cons (pv 1) (pa_cons (pv 2) (pa_cons (pe_op op_sub (pv 6) pe_int) (pa_cons (pe_op op_sub (pv 4) pe_int) pa_nil)))))))
      (pss_one (ps_ret (pe_tup (pa_cons pe_str (pa_cons (pv 6) (pa_cons (pv 7) (pa_cons (pe_f (E := E) C_law_tree hr (by omega) (fun σ => passAt (takes_of rfl rfl rfl rfl) σ) (pa_cons (pv 0) (pa_cons (pv 1) (pa_cons (pv 6) (pa_cons (pv 3) (pa_cons (pv 4) pa_nil)))))) pa_nil)))))))))))), ?_⟩)
    rintro ds r ⟨ns, at_, lo, s, k, a, b', c, rfl, rfl, rfl, rfl, hsn, hs, hk, h0, rfl⟩
    show GS K E _ [some (.dat (.list (ns.map .int))), some (.dat (.int at_)), some (.dat (.int lo)), some (.dat (.int ((lo : Int) + s))), some (.dat (.int k)), none, none, none] _ _
    refine GS.seq (GS.ifs (b := decide ((lo : Int) = (lo : Int) + s)) (GT.test (GE.op (GE.var rfl) (GE.var rfl) rd_eqI)) (fun hb => ?_) fun hb => GS.next ?_)
    · have hz : s = 0 := by have := of_decide_eq_true hb; omega
      subst hz
      rw [drT_0]
      exact GS.retD (GE.tup (GA.cons GE.str (GA.cons (GE.var rfl) GA.nil)) (by simp))
    · have hz : s ≠ 0 := by have := of_decide_eq_false hb; omega
      have hk1 : 1 ≤ k := by omega
      have h1 := dR_pos ns at_ lo s k
      have h2 := dR_le (ns := ns) (at_ := at_) (lo := lo) (k := k) hz
      have h3 := dR_left (ns := ns) (at_ := at_) (lo := lo) (s := s) hk1
      refine GS.seq (GS.asg (d := .int (cell ns (at_ + (7 * lo + 3 * (lo + s)) % 40) / (1 + (k : Int)))) (GE.op (GE.call (ds := [.list (ns.map .int), .int ((at_ + (7 * lo + 3 * (lo + s)) % 40 : Nat) : Int)]) (GA.cons (GE.var rfl) (GA.cons (GE.to (GE.op (GE.var rfl) (GE.op (GE.op (GE.op GE.int (GE.var rfl) (rd_intC (.inl (by decide)))) (GE.op GE.int (GE.var rfl) (rd_intC (.inl (by decide)))) rd_int) GE.int (rd_intC (by decide))) rd_int) (congrArg (fun z => Rs.ok (.int z)) (by omega))) GA.nil)) ⟨ns, _, rfl, rfl⟩) (GE.op GE.int (GE.var rfl) rd_int) (rd_intC ⟨by omega, by omega⟩)) ?_)
      refine GS.seq (GS.asg (d := .int ((lo : Int) + 1 + cell ns (at_ + (7 * lo + 3 * (lo + s)) % 40) / (1 + (k : Int)) % (s : Int))) (GE.to (GE.op (GE.op (GE.var rfl) GE.int rd_int) (GE.op (GE.var rfl) (GE.op (GE.var rfl) (GE.var rfl) rd_int) (rd_intC (by omega))) rd_int) (by rw [show (lo : Int) + s - lo = (s : Int) by omega])) ?_)
      refine GS.seq (GS.mono (Nx := fun ρ' => ∃ x, ρ' = [some (.dat (.list (ns.map .int))), some (.dat (.int at_)), some (.dat (.int lo)), some (.dat (.int ((lo : Int) + s))), some (.dat (.int k)), x, some (.dat (.int ((lo + dR ns at_ lo s k : Nat) : Int))), none]) (GS.ifs (b := decide ((k : Int) = 1)) (GT.test (GE.op (GE.var rfl) GE.int rd_eqI)) (fun hb => ?_) fun hb => ?_) ?_)
      · have e : dR ns at_ lo s k = 1 := if_pos (by have := of_decide_eq_true hb; omega)
        exact GS.asg (d := .int ((lo + dR ns at_ lo s k : Nat) : Int)) (GE.to (GE.op (GE.var rfl) GE.int rd_int) (congrArg (fun z => Rs.ok (.int z)) (by rw [e]; omega))) ⟨_, rfl⟩
      · have e : dR ns at_ lo s k = _ := if_neg (by have := of_decide_eq_false hb; omega)
        have hp := Int.emod_nonneg (cell ns (at_ + (7 * lo + 3 * (lo + s)) % 40) / (1 + (k : Int))) (show (s : Int) ≠ 0 by omega)
        refine GS.next ⟨some (.dat (.int (cell ns (at_ + (7 * lo + 3 * (lo + s)) % 40) / (1 + (k : Int))))), ?_⟩
        rw [e, show ((lo + (1 + (cell ns (at_ + (7 * lo + 3 * (lo + s)) % 40) / (1 + (k : Int)) % (s : Int)).toNat) : Nat) : Int) = (lo : Int) + 1 + cell ns (at_ + (7 * lo + 3 * (lo + s)) % 40) / (1 + (k : Int)) % (s : Int) by omega]
        rfl
      · rintro ρ' ⟨x, rfl⟩
        refine GS.seq (GS.asg (d := (drT ns at_ lo (dR ns at_ lo s k - 1) (k - 1)).d) (GE.call (GA.cons (GE.var rfl) (GA.cons (GE.var rfl) (GA.cons (GE.var rfl) (GA.cons (GE.op (GE.var rfl) GE.int rd_int) (GA.cons (GE.op (GE.var rfl) GE.int rd_int) GA.nil))))) ⟨ns, at_, lo, dR ns at_ lo s k - 1, k - 1, _, _, _, rfl, rfl, by omega, by omega, by omega, by omega, by omega, h3, rfl⟩) ?_)
        rw [drT_s hz]
        exact GS.retD (GE.tup (GA.cons GE.str (GA.cons (GE.var rfl) (GA.cons (GE.var rfl) (GA.cons (GE.call (GA.cons (GE.var rfl) (GA.cons (GE.var rfl) (GA.cons (GE.var rfl) (GA.cons (GE.var rfl) (GA.cons (GE.var rfl) GA.nil))))) ⟨ns, at_, lo + dR ns at_ lo s k, s - dR ns at_ lo s k, k, _, _, _, rfl, rfl, by omega, rfl, by omega, by omega, hk, .inr hk1, rfl⟩) GA.nil)))) (by simp))
theorem ok_law_tree (C_law_cell_at : Fn P w K mg base 1 "_law_cell_at" R_cell) {f : Addr} {fd : FuncData} (F : Fun K "_law_tree" "_law_tree" s_law_tree f fd) (hm : mg "_law_tree" = some (.ref f)) (b : Binds K fd ["script", "at", "low", "high", "things"] []) : Fn P w K mg base 65 "_law_tree" (R_ltree 64) := ok_law_tree_n T C_law_cell_at F hm b 64
theorem ok_law_which {f : Addr} {fd : FuncData} (F : Fun K "_law_which" "_law_which" s_law_which f fd) (hm : mg "_law_which" = some (.ref f)) (b : Binds K fd ["e"] []) : FnW P w K mg base "_law_which" (Wh K C_NoCase C_NoPlan C_NoFloor C_BadLine) := by
  refine fnW_mk F sc_law_which rfl hm b fun cdv A outer s H E p D ds hz hf hW => ?_
  obtain ⟨hE, b1, b2, b3, b4, b5, h1, h2, h3, h4, h5, rfl⟩ := hW
  refine ⟨_, (pss_cons (ps_set (i := 1) sc_law_which.nd rfl (Or.inl rfl) (pe_lst (pa_cons (pe_callB (isE hE hz hf (List.mem_singleton.mpr rfl)) (by rfl) T.z_isinstance (by decide +kernel) (pa_cons (pv 0) (pa_cons (pe_gl (.ref C_NoCase) ⟨_, T.e_NoCase.g, rfl⟩) pa_nil))) (pa_cons (pe_callB (isE hE hz hf (List.mem_singleton.mpr rfl)) (by rfl) T.z_isinstance (by decide +kernel) (pa_cons (pv 0) (pa_cons (pe_gl (.ref C_NoPlan) ⟨_, T.e_NoPlan.g, rfl⟩) pa_nil))) (pa_cons (pe_callB (isE hE hz hf (List.mem_singleton.mpr rfl)) (by rfl) T.z_isinstance (by decide +kernel) (pa_cons (pv 0) (pa_cons (pe_gl (.ref C_NoFloor) ⟨_, T.e_NoFloor.g, rfl⟩) pa_nil))) (pa_cons (pe_callB (isE hE hz hf (List.mem_singleton.mpr rfl)) (by rfl) T.z_isinstance (by decide +kernel) (pa_cons (pv 0) (pa_cons (pe_gl (.ref C_BadLine) ⟨_, T.e_BadLine.g, rfl⟩) pa_nil))) pa_nil))))))
      (pss_one (ps_ret (pe_op op_cat (pv 1) (pe_lst (pa_cons (pe_callB (isE hE hz hf (List.mem_singleton.mpr rfl)) (by rfl) T.z_isinstance (by decide +kernel) (pa_cons (pv 0) (pa_cons (pe_bltn (v := .ty "ValueError") (by rfl) T.z_ValueError (by decide +kernel) rfl) pa_nil))) pa_nil)))))), ?_⟩
  refine GS.seq (GS.asgN (ds := [.bool b1, .bool b2, .bool b3, .bool b4]) (GE.lst (GA.cons (GE.isE rfl (fun u h => h) h1) (GA.cons (GE.isE rfl (fun u h => h) h2) (GA.cons (GE.isE rfl (fun u h => h) h3) (GA.cons (GE.isE rfl (fun u h => h) h4) GA.nil)))) (by simp)) ?_)
  exact GS.retN (GE.cat (ds := [.bool b1, .bool b2, .bool b3, .bool b4]) (es := [.bool b5]) (GE.own rfl) (.ali _) (GE.lst (GA.cons (GE.isE rfl (fun u h => h) h5) GA.nil) (by simp)) (.new _) (by simp))
theorem ok_law_text_n {f : Addr} {fd : FuncData} (F : Fun K "_law_text" "_law_text" s_law_text f fd) (hm : mg "_law_text" = some (.ref f)) (b : Binds K fd ["tree"] []) : ∀ n : Nat, Fn P w K mg base n "_law_text" (R_shown n)
  | 0 => fn_none F hm b fun ds r ⟨_, _, h, _⟩ => by omega
  | n + 1 => by
    have C_law_text := ok_law_text_n F hm b n
    refine ok_fn (k := n) F sc_law_text hm b (fun ds r ⟨_, e, _⟩ => by subst e; rfl) (fun cdv A outer s H E hr => ⟨_, (pss_cons (ps_if (pt_cmpR op_eq (pe_ix (ixT K) (pv 0) pe_int (fun _ _ => rfl)) pe_str (nomark _)) (pss_one (ps_ret (pe_op oAddT pe_str (pe_callTy cStrI (by rfl) T.z_str (by decide +kernel) (pa_cons (pe_ix (ixT K) (pv 0) pe_int (fun _ _ => rfl)) pa_nil))))) pss_nil)
      (pss_one (ps_ret (pe_op oAddT (pe_op oAddT (pe_op oAddT (pe_op oAddT (pe_op oAddT (pe_callTy cStrI (by rfl) T.z_str (by decide +kernel) (pa_cons (pe_ix (ixT K) (pv 0) pe_int (fun _ _ => rfl)) pa_nil)) pe_str) (pe_f (E := E) C_law_text hr (by omega) (fun σ => passAt (takes_of rfl rfl rfl rfl) σ) (pa_cons (pe_ix (ixT K) (pv 0) pe_int (fun _ _ => rfl)) pa_nil))) pe_str) (pe_f (E := E) C_law_text hr (by omega) (fun σ => passAt (takes_of rfl rfl rfl rfl) σ) (pa_cons (pe_ix (ixT K) (pv 0) pe_int (fun _ _ => rfl)) pa_nil))) pe_str)))), ?_⟩)
    rintro ds r ⟨t, rfl, hd, hc, hsm, rfl⟩
    show GS K E _ [some (.dat t.d)] _ _
    cases t with
    | told m =>
      have hm0 : 0 ≤ m ∧ m ≤ 60 := hsm
      have hl := numL_2 (n := m.toNat) (by omega)
      refine GS.seq (GS.ifs (b := true) ((GT.test (GE.op (GE.ixT (GE.var (d := .tuple [.str "told", .int m]) rfl) GE.int rfl) GE.str rd_eqS)).to tt_told) (fun _ => ?_) fun hb => nomatch hb)
      exact GS.retD (GE.op (GE.strC (l := [61]) (by decide +kernel)) (GE.strI (n := m.toNat) (GE.to (GE.ixT (GE.var (d := .tuple [.str "told", .int m]) rfl) GE.int rfl) (by rw [Int.toNat_of_nonneg hm0.1])) (by omega)) (rd_addT (by rw [List.length_singleton]; omega)))
    | drop m u v =>
      have hdu : u.dep < n := by unfold Tr.dep at hd; omega
      have hdv : v.dep < n := by unfold Tr.dep at hd; omega
      have hcu : u.cnt ≤ 100 := by unfold Tr.cnt at hc; omega
      have hcv : v.cnt ≤ 100 := by unfold Tr.cnt at hc; omega
      have hm0 : 0 ≤ m ∧ m ≤ 60 := hsm.1
      have hl := numL_2 (n := m.toNat) (by omega)
      have hlu := Tr.tx_len u hsm.2.1
      have hlv := Tr.tx_len v hsm.2.2
      have ev : ∀ {ρ : Rho}, ρ[0]? = some (some (.dat (Tr.drop m u v).d)) → GE K E (tVar 0) ρ (.ok (.tuple [.str "drop", .int m, u.d, v.d])) := fun h => GE.var h
      refine GS.seq (GS.ifs (b := false) ((GT.test (GE.op (GE.ixT (ev rfl) GE.int rfl) GE.str rd_eqS)).to tt_dt) (fun hb => nomatch hb) fun _ => GS.next ?_)
      rw [Tr.tx_drop]
      refine GS.retD (GE.op (GE.op (GE.op (GE.op (GE.op (GE.strI (n := m.toNat) (GE.to (GE.ixT (ev rfl) GE.int rfl) (by rw [Int.toNat_of_nonneg hm0.1])) (by omega)) (GE.strC (l := [40]) (by decide +kernel)) (rd_addT ?_)) (GE.call (GA.cons (GE.ixT (ev rfl) GE.int rfl) GA.nil) ⟨u, rfl, hdu, hcu, hsm.2.1, rfl⟩) (rd_addT ?_)) (GE.strC (l := [44]) (by decide +kernel)) (rd_addT ?_)) (GE.call (GA.cons (GE.ixT (ev rfl) GE.int rfl) GA.nil) ⟨v, rfl, hdv, hcv, hsm.2.2, rfl⟩) (rd_addT ?_)) (GE.strC (l := [41]) (by decide +kernel)) (rd_addT ?_))
      all_goals
        simp only [List.length_append, List.length_singleton]
        omega
theorem ok_law_text {f : Addr} {fd : FuncData} (F : Fun K "_law_text" "_law_text" s_law_text f fd) (hm : mg "_law_text" = some (.ref f)) (b : Binds K fd ["tree"] []) : Fn P w K mg base 100 "_law_text" (R_shown 100) := ok_law_text_n T F hm b 100
theorem ok_law_sign_by {f : Addr} {fd : FuncData} (F : Fun K "_law_sign_by" "_law_sign_by" s_law_sign_by f fd) (hm : mg "_law_sign_by" = some (.ref f)) (b : Binds K fd ["cell"] []) : Fn P w K mg base 1 "_law_sign_by" R_sign := by
  refine ok_fn F sc_law_sign_by hm b (fun ds r ⟨_, e, _⟩ => by subst e; rfl) (fun cdv A outer s H E hr => ⟨_, (pss_cons (ps_if (pt_cmpR op_eq (pe_op op_mod (pv 0) pe_int) pe_int (nomark _)) (pss_one (ps_ret (pe_ix ix_str pe_str (pe_op op_mod (pe_op op_fdiv (pv 0) pe_int) pe_int) (fun _ _ => rfl)))) pss_nil)
      (pss_cons (ps_set (i := 1) sc_law_sign_by.nd rfl (Or.inl rfl) pe_str)
      (pss_cons (ps_set (i := 1) sc_law_sign_by.nd rfl (Or.inl rfl) (pe_op oAddT (pv 1) pe_str))
      (pss_one (ps_ret (pe_ix ix_str (pv 1) (pe_op op_mod (pe_op op_fdiv (pv 0) pe_int) pe_int) (fun _ _ => rfl))))))), ?_⟩)
  rintro ds r ⟨c, rfl, rfl⟩
  show GS K E _ [some (.dat (.int c)), none] _ _
  refine GS.seq (GS.ifs (b := decide (c % 2 = 1)) (GT.test (GE.op (GE.op (GE.var rfl) GE.int (rd_intC (by decide))) GE.int rd_eqI)) (fun hb => ?_) fun hb => GS.next ?_)
  · have h0 := Int.emod_nonneg (c / 2) (show (16 : Int) ≠ 0 by decide)
    have h1 := Int.emod_lt_of_pos (c / 2) (show (0 : Int) < 16 by decide)
    have e : sgn c = _ := if_pos (of_decide_eq_true hb)
    rw [e]
    exact GS.retD (GE.op (GE.strC (l := sgn1) rfl) (GE.op (GE.op (GE.var rfl) GE.int (rd_intC ⟨by decide, by decide⟩)) GE.int (rd_intC (by decide))) (rd_ixS (at_getD 0 h0 (by rw [sgn1_len]; exact h1)) (by rw [sgn1_len]; decide)))
  · have h0 := Int.emod_nonneg (c / 2) (show (94 : Int) ≠ 0 by decide)
    have h1 := Int.emod_lt_of_pos (c / 2) (show (0 : Int) < 94 by decide)
    have e : sgn c = _ := if_neg (of_decide_eq_false hb)
    rw [e]
    have hz : (TL.tl (" !\"#$&'()*+,-./0123456789:;<=>?@ABCDEFGHIJKLMNOPQRSTUVWXYZ[\\]^_`" : Str)).length + (TL.tl ("abcdefghijklmnopqrstuvwxyz{|}~" : Str)).length ≤ 1000000 := by decide +kernel
    refine GS.seq (GS.asg (GE.strC (l := TL.tl (" !\"#$&'()*+,-./0123456789:;<=>?@ABCDEFGHIJKLMNOPQRSTUVWXYZ[\\]^_`" : Str)) rfl) ?_)
    refine GS.seq (GS.asg (d := .str (tx sgn2)) (GE.op (GE.var rfl) (GE.strC (l := TL.tl ("abcdefghijklmnopqrstuvwxyz{|}~" : Str)) rfl) (rd_addT hz)) ?_)
    exact GS.retD (GE.op (GE.var rfl) (GE.op (GE.op (GE.var rfl) GE.int (rd_intC ⟨by decide, by decide⟩)) GE.int (rd_intC (by decide))) (rd_ixS (at_getD 0 h0 (by rw [sgn2_len]; exact h1)) (by rw [sgn2_len]; decide)))
theorem ok_law_odd {f : Addr} {fd : FuncData} (F : Fun K "_law_odd" "_law_odd" s_law_odd f fd) (hm : mg "_law_odd" = some (.ref f)) (b : Binds K fd ["cell"] []) : Fn P w K mg base 1 "_law_odd" R_odd := by
  refine ok_fn F sc_law_odd hm b (fun ds r ⟨_, e, _⟩ => by subst e; rfl) (fun cdv A outer s H E hr => ⟨_, (pss_cons (ps_set (i := 1) sc_law_odd.nd rfl (Or.inl rfl) (pe_lst (pa_cons pe_str (pa_cons pe_str (pa_cons pe_str (pa_cons pe_str (pa_cons pe_str (pa_cons pe_str (pa_cons pe_str (pa_cons pe_str (pa_cons pe_str (pa_cons pe_str (pa_cons pe_str (pa_cons pe_str pa_nil))))))))))))))
      (pss_cons (ps_set (i := 1) sc_law_odd.nd rfl (Or.inl rfl) (pe_op op_cat (pv 1) (pe_lst (pa_cons pe_str (pa_cons pe_str (pa_cons pe_str (pa_cons pe_str (pa_cons pe_str (pa_cons pe_str (pa_cons pe_str pa_nil))))))))))
      (pss_cons (ps_set (i := 1) sc_law_odd.nd rfl (Or.inl rfl) (pe_op op_cat (pv 1) (pe_lst (pa_cons pe_str (pa_cons pe_str (pa_cons pe_str pa_nil))))))
      (pss_one (ps_ret (pe_ix (ixL K) (pv 1) (pe_op op_mod (pv 0) pe_int) (fun _ _ => rfl))))))), ?_⟩)
  rintro ds r ⟨c, rfl, rfl⟩
  show GS K E _ [some (.dat (.int c)), none] _ _
  have h0 := Int.emod_nonneg c (show (22 : Int) ≠ 0 by decide)
  have h1 := Int.emod_lt_of_pos c (show (0 : Int) < 22 by decide)
  refine GS.seq (GS.asgN (ds := ((odds.take 12).map PyData.str)) (GE.lst (GA.cons GE.str (GA.cons GE.str (GA.cons GE.str (GA.cons GE.str (GA.cons GE.str (GA.cons GE.str (GA.cons GE.str (GA.cons GE.str (GA.cons GE.str (GA.cons GE.str (GA.cons GE.str (GA.cons GE.str GA.nil)))))))))))) (show 12 ≤ 1000 by omega)) ?_)
  refine GS.seq (GS.asgN (ds := ((odds.take 19).map PyData.str)) (GE.cat (ds := ((odds.take 12).map PyData.str)) (es := (((odds.take 19).drop 12).map PyData.str)) (GE.own rfl) (.ali _) (GE.lst (GA.cons GE.str (GA.cons GE.str (GA.cons GE.str (GA.cons GE.str (GA.cons GE.str (GA.cons GE.str (GA.cons GE.str GA.nil))))))) (show 7 ≤ 1000 by omega)) (.new _) (show 12 + 7 ≤ 100000 by omega)) ?_)
  refine GS.seq (GS.asgN (ds := (odds.map PyData.str)) (GE.cat (ds := ((odds.take 19).map PyData.str)) (es := ((odds.drop 19).map PyData.str)) (GE.own rfl) (.ali _) (GE.lst (GA.cons GE.str (GA.cons GE.str (GA.cons GE.str GA.nil))) (show 3 ≤ 1000 by omega)) (.new _) (show 19 + 3 ≤ 100000 by omega)) ?_)
  refine GS.retD (GE.ixL (GE.own rfl) (.ali _) (GE.op (GE.var rfl) GE.int (rd_intC (by decide))) ?_)
  refine atI_nat' (j := (c % 22).toNat) (by omega) ?_
  rw [List.getElem?_map, List.getD_eq_getElem?_getD, List.getElem?_eq_getElem (show (c % 22).toNat < odds.length by rw [odds_len]; omega)]
  rfl
theorem ok_law_end {f : Addr} {fd : FuncData} (F : Fun K "_law_end" "_law_end" s_law_end f fd) (hm : mg "_law_end" = some (.ref f)) (b : Binds K fd ["text", "at"] []) : Fn P w K mg base 1 "_law_end" R_lend := by
  refine ok_fn F sc_law_end hm b (fun ds r ⟨_, _, _, e, _⟩ => by subst e; rfl) (fun cdv A outer s H E hr => ⟨_, (pss_cons (ps_set (i := 2) sc_law_end.nd rfl (Or.inl rfl) (pv 1))
      (pss_cons (ps_while (passes_of rfl) (PW.pt (pw_and (pt_cmpR op_lt (pv 2) (pe_callB cLenS (by rfl) T.z_len (by decide +kernel) (pa_cons (pv 0) pa_nil)) (nomark _)) (pw_and1 (pt_cmpR oInS (pe_ix ix_str (pv 0) (pv 2) (fun _ _ => rfl)) pe_str rfl)))) (pss_one (ps_set (i := 2) sc_law_end.nd rfl (Or.inl rfl) (pe_op op_add (pv 2) pe_int))))
      (pss_cons (ps_set (i := 3) sc_law_end.nd rfl (Or.inl rfl) (pe_slice sl_str (pv 0) (po_some (pv 1)) (po_some (pv 2))))
      (pss_cons (ps_if (PW.pt (pw_or (pt_cmpR op_lt (pe_callB cLenS (by rfl) T.z_len (by decide +kernel) (pa_cons (pv 3) pa_nil)) pe_int (nomark _)) (pw_or (pt_cmpR op_gt (pe_callB cLenS (by rfl) T.z_len (by decide +kernel) (pa_cons (pv 3) pa_nil)) pe_int (nomark _)) (pw_or (PW.pt (pw_and (pt_cmpR op_gt (pe_callB cLenS (by rfl) T.z_len (by decide +kernel) (pa_cons (pv 3) pa_nil)) pe_int (nomark _)) (pw_and1 (pt_cmpR op_eq (pe_ix ix_str (pv 3) pe_int (fun _ _ => rfl)) pe_str (nomark _))))) (pw_or1 (pt_cmpR op_gt (pe_callTy cIntS (by rfl) T.z_int (by decide +kernel) (pa_cons (pv 3) pa_nil)) pe_int (nomark _))))))) (pss_one (ps_ret (pe_un un_neg pe_int))) pss_nil)
      (pss_one (ps_ret (pv 2))))))), ?_⟩)
  rintro ds r ⟨l, s, a, rfl, ⟨p, hp⟩, rfl, hl, rfl⟩
  obtain ⟨u, q, rfl, hu, hq⟩ := cut_digits s
  rw [pNum_cut hu hq]
  have ea : l.length - (u ++ q).length = p.length := by rw [← hp]; simp
  have el : l.length = p.length + u.length + q.length := by rw [← hp]; simp; omega
  rw [ea]
  show GS K E _ [some (.dat (.str (tx l))), some (.dat (.int (p.length : Nat))), none, none] _ _
  have wd : ∀ {ρ : Rho}, ρ[3]? = some (some (.dat (.str (tx u)))) → GE K E (tVar 3) ρ (.ok (.str (tx u))) := fun h => GE.var h
  refine GS.seq (GS.asg (d := .int ((p.length + 0 : Nat) : Int)) (GE.var rfl) ?_)
  refine GS.seq (GS.mono (Nx := fun ρ' => ρ' = [some (.dat (.str (tx l))), some (.dat (.int (p.length : Nat))), some (.dat (.int ((p.length + u.length : Nat) : Int))), none]) (GS.while (fun m ρ' => ∃ h : Nat, m + h = u.length ∧ ρ' = [some (.dat (.str (tx l))), some (.dat (.int (p.length : Nat))), some (.dat (.int ((p.length + h : Nat) : Int))), none]) u.length ⟨0, rfl, rfl⟩ ?_) ?_)
  · rintro m ρ' ⟨h, hm', rfl⟩
    by_cases hh : h < u.length
    · have hc : isD u[h] = true := hu _ (List.getElem_mem hh)
      have hat : atI l ((p.length + h : Nat) : Int) = some u[h] := at_mid (p ++ u.take h) u[h] (u.drop (h + 1) ++ q) (by rw [List.append_assoc, ← List.cons_append, ← List.append_assoc (u.take h), List.getElem_cons_drop, List.take_append_drop, hp]) (by simp; omega)
      refine ⟨true, (GT.and (a := true) (b := isD u[h]) ((GT.test (GE.op (GE.var rfl) (GE.lenS (l := l) (GE.var rfl) (by omega)) rd_bl)).to (Eq.trans (decide_eq_decide (q := p.length + h < l.length).mpr (by omega)) (decide_eq_true (by omega)))) fun _ => (GT.test (GE.op (GE.op (GE.var rfl) (GE.var rfl) (rd_ixS hat (by omega))) (GE.to GE.str (congrArg (fun z => Rs.ok (.str z)) (tx_eq (l := [48, 49, 50, 51, 52, 53, 54, 55, 56, 57]) (by decide +kernel)))) rd_inS)).to figs).to (by rw [hc]; rfl), fun _ => ?_, (fun hb => nomatch hb)⟩
      exact GS.asg (d := .int ((p.length + (h + 1) : Nat) : Int)) (GE.op (GE.var rfl) GE.int rd_int) ⟨m - 1, by omega, h + 1, by omega, rfl⟩
    · have eh : h = u.length := by omega
      subst eh
      refine ⟨false, ?_, (fun hb => nomatch hb), fun _ => rfl⟩
      cases q with
      | nil => exact (GT.and (a := false) (b := false) ((GT.test (GE.op (GE.var rfl) (GE.lenS (l := l) (GE.var rfl) (by omega)) rd_bl)).to (Eq.trans (decide_eq_decide (q := p.length + u.length < l.length).mpr (by omega)) (decide_eq_false (by simp at el; omega)))) fun hb => nomatch hb)
      | cons c q =>
        have hat : atI l ((p.length + u.length : Nat) : Int) = some c := at_mid (p ++ u) c q (by rw [← hp]; simp) (by simp)
        have hc := hq c q rfl
        exact (GT.and (a := true) (b := isD c) ((GT.test (GE.op (GE.var rfl) (GE.lenS (l := l) (GE.var rfl) (by omega)) rd_bl)).to (Eq.trans (decide_eq_decide (q := p.length + u.length < l.length).mpr (by omega)) (decide_eq_true (by simp at el; omega)))) fun _ => (GT.test (GE.op (GE.op (GE.var rfl) (GE.var rfl) (rd_ixS hat (by omega))) (GE.to GE.str (congrArg (fun z => Rs.ok (.str z)) (tx_eq (l := [48, 49, 50, 51, 52, 53, 54, 55, 56, 57]) (by decide +kernel)))) rd_inS)).to figs).to (by rw [hc]; rfl)
  · rintro ρ' rfl
    refine GS.seq (GS.asg (d := .str (tx u)) (GE.slS (GE.var rfl) (GO.some (GE.var rfl)) (GO.some (GE.var rfl)) (by omega) (cut_mid p u q (by rw [← hp, List.append_assoc]) rfl rfl)) ?_)
    have hv := nm_val u
    have hb := nm_bad2 u hu
    refine GS.seq (GS.ifs (b := (nmW u).isNone) ((GT.or (a := decide (u.length < 1)) ((GT.test (GE.op (GE.lenS (wd rfl) (by omega)) GE.int rd_bl)).to (decide_eq_decide.mpr (by omega))) fun h0 => GT.or (a := decide (2 < u.length)) ((GT.test (GE.op (GE.lenS (wd rfl) (by omega)) GE.int rd_bl)).to (decide_eq_decide.mpr (by omega))) fun h1 => GT.or (a := decide (1 < u.length) && decide (u.head? = some 48)) (GT.and ((GT.test (GE.op (GE.lenS (wd rfl) (by omega)) GE.int rd_bl)).to (decide_eq_decide.mpr (by omega))) fun _ => ?_) fun h2 => (GT.test (GE.op (GE.intS (wd rfl) (isD_all hu) (fun z => by have := of_decide_eq_false h0; rw [z] at this; exact this (by decide)) (by have := of_decide_eq_false h1; omega) rfl) GE.int rd_bl)).to (decide_eq_decide.mpr (by omega))).to hb) (fun hb' => ?_) fun hb' => GS.next ?_)
    · cases u with
      | nil => exact absurd (show ([] : List Nat).length < 1 by decide) (of_decide_eq_false h0)
      | cons c u =>
        refine (GT.test (GE.op (GE.op (wd rfl) GE.int (rd_ixS (c := c) (at_mid [] c u rfl rfl) (by omega))) (GE.strC (l := [48]) (by decide +kernel)) rd_eqS)).to ?_
        rw [txd]
        simp
    · have e : nmW u = none := Option.isNone_iff_eq_none.mp hb'
      rw [e]
      exact GS.retD (GE.un GE.int)
    · cases e : nmW u with
      | none =>
        rw [e] at hb'
        cases hb'
      | some n =>
        have ep : l.length - q.length = p.length + u.length := by omega
        show GS K E _ _ _ (.ok (.int ((l.length - q.length : Nat) : Int)))
        rw [ep]
        exact GS.retD (GE.var rfl)
theorem ok_law_due (C_law_end : Fn P w K mg base 1 "_law_end" R_lend) {f : Addr} {fd : FuncData} (F : Fun K "_law_due" "_law_due" s_law_due f fd) (hm : mg "_law_due" = some (.ref f)) (b : Binds K fd ["text"] []) : Fn P w K mg base 2 "_law_due" R_due := by
  refine ok_fn F sc_law_due hm b (fun ds r ⟨_, e, _⟩ => by subst e; rfl) (fun cdv A outer s H E hr => ⟨_, (pss_cons (ps_set (i := 1) sc_law_due.nd rfl (Or.inl rfl) (pe_lst pa_nil))
      (pss_cons (ps_set (i := 2) sc_law_due.nd rfl (Or.inl rfl) pe_int)
      (pss_cons (ps_set (i := 3) sc_law_due.nd rfl (Or.inl rfl) pe_non)
      (pss_cons (ps_while (passes_of rfl) (PW.pt (pw_and (pt_cmpR op_lt (pv 2) (pe_callB cLenS (by rfl) T.z_len (by decide +kernel) (pa_cons (pv 0) pa_nil)) (nomark _)) (pw_and1 (pt_cmpR op_isN' (pv 3) pe_non (nomark _))))) (pss_cons (ps_set (i := 4) sc_law_due.nd rfl (Or.inl rfl) (pe_cmpR op_eq (pe_ix ix_str (pv 0) (pv 2) (fun _ _ => rfl)) pe_str (nomark _)))
      (pss_cons (ps_set (i := 5) sc_law_due.nd rfl (Or.inl rfl) (pe_f (E := E) C_law_end hr (by omega) (fun σ => passAt (takes_of rfl rfl rfl rfl) σ) (pa_cons (pv 0) (pa_cons (pe_op op_add (pv 2) (pe_callTy cIntB (by rfl) T.z_int (by decide +kernel) (pa_cons (pv 4) pa_nil))) pa_nil))))
      (pss_cons (ps_if (pt_cmpR op_lt (pv 5) pe_int (nomark _)) (pss_one (ps_ret pe_non)) pss_nil)
      (pss_cons (ps_set (i := 6) sc_law_due.nd rfl (Or.inl rfl) (pe_callTy cIntS (by rfl) T.z_int (by decide +kernel) (pa_cons (pe_slice sl_str (pv 0) (po_some (pe_op op_add (pv 2) (pe_callTy cIntB (by rfl) T.z_int (by decide +kernel) (pa_cons (pv 4) pa_nil)))) (po_some (pv 5))) pa_nil)))
      (pss_one (ps_if (pt_not (pt_val (pv 4))) (pss_cons (ps_if (pt_cmpR op_ne (pe_slice sl_str (pv 0) (po_some (pv 5)) (po_some (pe_op op_add (pv 5) pe_int))) pe_str (nomark _)) (pss_one (ps_ret pe_non)) pss_nil)
      (pss_cons (ps_expr (pe_bm PySem.F.plainAttrs_list PySem.F.slot_list_append PySem.F.type_list_append mt_append (pv 1) (pa_cons (pe_lst (pa_cons (pv 6) pa_nil)) pa_nil)))
      (pss_one (ps_set (i := 2) sc_law_due.nd rfl (Or.inl rfl) (pe_op op_add (pv 5) pe_int))))) (pss_cons (ps_set (i := 7) sc_law_due.nd rfl (Or.inl rfl) (pe_tup (pa_cons pe_str (pa_cons (pv 6) pa_nil))))
      (pss_cons (ps_set (i := 2) sc_law_due.nd rfl (Or.inl rfl) (pv 5))
      (pss_cons (ps_while (passes_of rfl) (PW.pt (pw_and (pt_cmpR op_gt (pe_callB (cLen K) (by rfl) T.z_len (by decide +kernel) (pa_cons (pv 1) pa_nil)) pe_int (nomark _)) (pw_and (pt_cmpR op_eq (pe_callB (cLen K) (by rfl) T.z_len (by decide +kernel) (pa_cons (pe_ix (ixL K) (pv 1) (pe_un un_neg pe_int) (fun _ _ => rfl)) pa_nil)) pe_int (nomark _)) (pw_and1 (pt_cmpR op_noN' (pv 7) pe_non (nomark _)))))) (pss_cons (ps_if (pt_cmpR op_ne (pe_slice sl_str (pv 0) (po_some (pv 2)) (po_some (pe_op op_add (pv 2) pe_int))) pe_str (nomark _)) (pss_one (ps_ret pe_non)) pss_nil)
      (pss_cons (ps_set (i := 7) sc_law_due.nd rfl (Or.inl rfl) (pe_tup (pa_cons pe_str (pa_cons (pe_ix (ixL K) (pe_ix (ixL K) (pv 1) (pe_un un_neg pe_int) (fun _ _ => rfl)) pe_int (fun _ _ => rfl)) (pa_cons (pe_ix (ixL K) (pe_ix (ixL K) (pv 1) (pe_un un_neg pe_int) (fun _ _ => rfl)) pe_int (fun _ _ => rfl)) (pa_cons (pv 7) pa_nil))))))
      (pss_cons (ps_expr (pe_bm0 PySem.F.plainAttrs_list PySem.F.slot_list_pop PySem.F.type_list_pop mt_pop (pv 1)))
      (pss_one (ps_set (i := 2) sc_law_due.nd rfl (Or.inl rfl) (pe_op op_add (pv 2) pe_int)))))))
      (pss_one (ps_if (pt_cmpR op_eq (pe_callB (cLen K) (by rfl) T.z_len (by decide +kernel) (pa_cons (pv 1) pa_nil)) pe_int (nomark _)) (pss_one (ps_set (i := 3) sc_law_due.nd rfl (Or.inl rfl) (pv 7))) (pss_one (ps_if (pt_cmpR op_ne (pe_slice sl_str (pv 0) (po_some (pv 2)) (po_some (pe_op op_add (pv 2) pe_int))) pe_str (nomark _)) (pss_one (ps_ret pe_non)) (pss_cons (ps_expr (pe_bm PySem.F.plainAttrs_list PySem.F.slot_list_append PySem.F.type_list_append mt_append (pe_ix (ixL K) (pv 1) (pe_un un_neg pe_int) (fun _ _ => rfl)) (pa_cons (pv 7) pa_nil)))
      (pss_one (ps_set (i := 2) sc_law_due.nd rfl (Or.inl rfl) (pe_op op_add (pv 2) pe_int))))))))))))))))))
      (pss_cons (ps_if (PW.pt (pw_or (pt_cmpR op_isN' (pv 3) pe_non (nomark _)) (pw_or1 (pt_cmpR op_lt (pv 2) (pe_callB cLenS (by rfl) T.z_len (by decide +kernel) (pa_cons (pv 0) pa_nil)) (nomark _))))) (pss_one (ps_ret pe_non)) pss_nil)
      (pss_one (ps_ret (pv 3)))))))), ?_⟩)
  rintro ds r ⟨l, rfl, hl, rfl⟩
  obtain ⟨res, eres⟩ : ∃ res, pR 64 l = res := ⟨_, rfl⟩
  rw [eres]
  show GS K E _ [some (.dat (.str (tx l))), none, none, none, none, none, none, none] _ _
  refine GS.seq (GS.pilNew fun p => ?_)
  refine GS.seq (GS.asg (d := .int ((l.length - l.length : Nat) : Int)) (GE.to GE.int (by rw [Nat.sub_self]; rfl)) ?_)
  refine GS.seq (GS.asg (d := .none) GE.non ?_)
  have tx0 : ∀ {ρ : Rho}, ρ[0]? = some (some (.dat (.str (tx l)))) → GE K E (tVar 0) ρ (.ok (.str (tx l))) := fun h => GE.var h
  have len0 : ∀ {ρ : Rho}, ρ[0]? = some (some (.dat (.str (tx l)))) → GE K E (tCB rLenS (tCons (tVar 0) tNil)) ρ (.ok (.int l.length)) := fun h => GE.lenS (GE.var h) (by omega)
  refine GS.seq (GS.mono (Nx := fun ρ' => (res = none ∧ ∃ c1 x2 x4 x5 x6 x7, ρ' = [some (.dat (.str (tx l))), c1, x2, some (.dat .none), x4, x5, x6, x7]) ∨ ∃ t s c1 x4 x5 x6 x7, s <:+ l ∧ (if s = [] then some t else none) = res ∧ ρ' = [some (.dat (.str (tx l))), c1, some (.dat (.int ((l.length - s.length : Nat) : Int))), some (.dat (Tr.d t)), x4, x5, x6, x7])
    (GS.while (fun m ρ' => (∃ p as k s x4 x5 x6 x7, s <:+ l ∧ strt k s = res ∧ m = s.length + 1 ∧ as.length = k.length ∧ k.length + s.length ≤ l.length ∧ ρ' = [some (.dat (.str (tx l))), some (.inv (.ref p) (pileIv K p as (k.map Fr.ds))), some (.dat (.int ((l.length - s.length : Nat) : Int))), some (.dat .none), x4, x5, x6, x7]) ∨ ∃ t s c1 x4 x5 x6 x7, m = 0 ∧ s <:+ l ∧ (if s = [] then some t else none) = res ∧ ρ' = [some (.dat (.str (tx l))), c1, some (.dat (.int ((l.length - s.length : Nat) : Int))), some (.dat (Tr.d t)), x4, x5, x6, x7]) (l.length + 1) (.inl ⟨p, [], [], l, none, none, none, none, List.suffix_refl _, ?_, rfl, rfl, by simp, rfl⟩) ?_) ?_)
  · rw [← eres]
    unfold strt pR
    rfl
  · rintro m ρ' (⟨p, as, k, s, x4, x5, x6, x7, hs, hres, rfl, hak, hkl, rfl⟩ | ⟨t, s, c1, x4, x5, x6, x7, rfl, hs, hres, rfl⟩)
    · have hsl := hs.length_le
      refine ⟨decide (0 < s.length) && true, GT.and ((GT.test (GE.op (GE.var rfl) (len0 rfl) rd_bl)).to (decide_eq_decide.mpr (by omega))) fun _ => GT.test (GE.op (GE.var (d := .none) rfl) GE.non rd_isN), fun hb => ?_, fun hb => ?_⟩
      · obtain ⟨pre, hpre⟩ := id hs
        have epre : l.length - s.length = pre.length := by rw [← hpre]; simp
        obtain ⟨c, s0, rfl⟩ : ∃ c s0, s = c :: s0 := by
          cases s with
          | nil => simp at hb
          | cons c s0 => exact ⟨c, s0, rfl⟩
        refine GS.seq (GS.asg (d := .bool (pS 61 (c :: s0)).isSome) (GE.to (GE.op (GE.op (tx0 rfl) (GE.var rfl) (rd_ixS (c := c) (at_mid pre c s0 hpre.symm (by rw [epre])) (by omega))) (GE.strC (l := [61]) (by decide +kernel)) rd_eqS) (congrArg (fun z => Rs.ok (.bool z)) (by rw [txd, ← pS_take]; rfl))) ?_)
        obtain ⟨s1, es1, hs1, hlf⟩ : ∃ s1, (l.length - (c :: s0).length : Nat) + (if (pS 61 (c :: s0)).isSome then 1 else 0 : Int) = (l.length - s1.length : Nat) ∧ s1 <:+ l ∧ ((pS 61 (c :: s0)) = some s1 ∨ (pS 61 (c :: s0) = none ∧ s1 = c :: s0)) := by
          cases e : pS 61 (c :: s0) with
          | none => exact ⟨c :: s0, by simp, hs, .inr ⟨rfl, rfl⟩⟩
          | some s1 =>
            have f := sfx_s e
            exact ⟨s1, by have := f.2; have := (f.1.trans hs).length_le; simp only [Option.isSome_some, if_true]; omega, f.1.trans hs, .inl rfl⟩
        have hs1l : s1.length ≤ s0.length + 1 := by
          rcases hlf with e | ⟨_, rfl⟩
          · have := (sfx_s e).2
            simp only [List.length_cons] at this
            omega
          · exact Nat.le_refl _
        refine GS.seq (GS.asg (d := .int (resE l.length (pNum s1))) (GE.call (GA.cons (tx0 rfl) (GA.cons (GE.to (GE.op (GE.var rfl) (GE.intB (GE.var rfl)) rd_int) (congrArg (fun z => Rs.ok (.int z)) es1)) GA.nil)) ⟨l, s1, _, rfl, hs1, rfl, by omega, rfl⟩) ?_)
        have stop : pNum s1 = none → res = none := fun e => by
          rw [← hres]
          rcases hlf with e1 | ⟨e1, rfl⟩
          · rw [strt_leaf e1, e]
            rfl
          · rw [strt_drop e1 (by omega), e]
            rfl
        refine GS.seq (GS.ifs (b := (pNum s1).isNone) ((GT.test (GE.op (GE.var rfl) GE.int rd_bl)).to ?_) (fun hb2 => ?_) fun hb2 => GS.next ?_)
        · cases pNum s1 with
          | none => rfl
          | some x =>
            show decide (((l.length - x.2.length : Nat) : Int) < 0) = false
            exact decide_eq_false (by omega)
        · rw [stop (Option.isNone_iff_eq_none.mp hb2)]
          exact GS.retD GE.non
        cases en : pNum s1 with
        | none =>
          rw [en] at hb2
          cases hb2
        | some x =>
        have fx := sfx_num en
        have hx := fx.1.trans hs1
        have hxl := hx.length_le
        obtain ⟨u, eu, hu1, hu2, hu3, hu4⟩ := pNum_full en
        obtain ⟨pre1, hpre1⟩ := id hs1
        have epre1 : l.length - s1.length = pre1.length := by rw [← hpre1]; simp
        have elx : l.length - x.2.length = pre1.length + u.length := by rw [← hpre1, eu]; simp; omega
        refine GS.seq (GS.asg (d := .int x.1) (GE.intS (GE.slS (tx0 rfl) (GO.some (GE.to (GE.op (GE.var rfl) (GE.intB (GE.var rfl)) rd_int) (congrArg (fun z => Rs.ok (.int z)) es1))) (GO.some (GE.var rfl)) (by omega) (cut_mid pre1 u x.2 (by rw [← hpre1, eu, List.append_assoc]) (by rw [epre1]) (show ((l.length - x.2.length : Nat) : Int) = _ by rw [elx]))) hu1 hu2 (by omega) (by rw [hu4])) ?_)
        obtain ⟨prex, hprex⟩ := id hx
        have eprex : l.length - x.2.length = prex.length := by rw [← hprex]; simp
        refine GS.ifs (b := !(pS 61 (c :: s0)).isSome) (GT.not (GT.val (GE.var rfl))) (fun hb3 => ?_) fun hb3 => ?_
        · -- a drop
          have e61 : pS 61 (c :: s0) = none := by
            cases e : pS 61 (c :: s0) with
            | none => rfl
            | some z =>
              rw [e] at hb3
              cases hb3
          have es : s1 = c :: s0 := by
            rcases hlf with e | ⟨_, e⟩
            · rw [e61] at e
              cases e
            · exact e
          subst es
          rw [strt_drop e61 (by omega), en, Option.bind_some] at hres
          refine GS.seq (GS.ifs (b := !(pS 40 x.2).isSome) ((GT.test (GE.op (GE.slS (tx0 rfl) (GO.some (GE.var rfl)) (GO.some (GE.op (GE.var rfl) GE.int rd_int)) (by omega) (cut_sign prex x.2 hprex.symm (by show ((l.length - x.2.length : Nat) : Int) = _; rw [eprex]) (by show ((l.length - x.2.length : Nat) : Int) + 1 = _; rw [eprex]; rfl))) (GE.strC (l := [40]) (by decide +kernel)) rd_neS)).to (by rw [txd, pS_take])) (fun hb4 => ?_) fun hb4 => GS.next ?_)
          · cases e : pS 40 x.2 with
            | some z =>
              rw [e] at hb4
              cases hb4
            | none =>
              rw [e] at hres
              rw [← hres]
              exact GS.retD GE.non
          · cases e : pS 40 x.2 with
            | none =>
              rw [e] at hb4
              cases hb4
            | some r2 =>
              rw [e, Option.bind_some] at hres
              have fr := sfx_s e
              have hr2 := fr.1.trans hx
              have := hr2.length_le
              have := fx.2
              have := fr.2
              refine GS.seq (GS.pilPush (p := p) (as := as) (dss := k.map Fr.ds) rfl (by omega) (GE.var rfl) fun a => ?_)
              exact GS.asg (d := .int ((l.length - r2.length : Nat) : Int)) (GE.to (GE.op (GE.var rfl) GE.int rd_int) (congrArg (fun z => Rs.ok (.int z)) (by show ((l.length - x.2.length : Nat) : Int) + 1 = _; omega))) ⟨r2.length + 1, by omega, .inl ⟨p, a :: as, (x.1, none) :: k, r2, _, _, _, _, hr2, hres, rfl, by simp [hak], by simp only [List.length_cons] at *; omega, rfl⟩⟩
        · -- a leaf
          have e61 : pS 61 (c :: s0) = some s1 := by
            rcases hlf with e | ⟨e, _⟩
            · exact e
            · rw [e] at hb3
              cases hb3
          rw [strt_leaf e61, en, Option.bind_some] at hres
          have hx0 : x.2.length < (c :: s0).length := by
            have := fx.2
            have := (sfx_s e61).2
            omega
          refine GS.seq (GS.asg (d := (Tr.told x.1).d) (GE.tup (ds := [.str "told", .int x.1]) (GA.cons GE.str (GA.cons (GE.var rfl) GA.nil)) (by simp)) ?_)
          refine GS.seq (GS.asg (d := .int ((l.length - x.2.length : Nat) : Int)) (GE.var rfl) ?_)
          refine GS.seq (GS.mono (Nx := fun ρ' => ∃ as k t s x4 x5 x6, s <:+ l ∧ cont k t s = res ∧ as.length = k.length ∧ k.length + s.length ≤ l.length ∧ s.length ≤ x.2.length ∧ (k = [] ∨ ∃ n k', k = (n, none) :: k') ∧ ρ' = [some (.dat (.str (tx l))), some (.inv (.ref p) (pileIv K p as (k.map Fr.ds))), some (.dat (.int ((l.length - s.length : Nat) : Int))), some (.dat .none), x4, x5, x6, some (.dat (Tr.d t))])
            (GS.while (fun m ρ' => ∃ as k t s x4 x5 x6, m = k.length ∧ s <:+ l ∧ cont k t s = res ∧ as.length = k.length ∧ k.length + s.length ≤ l.length ∧ s.length ≤ x.2.length ∧ ρ' = [some (.dat (.str (tx l))), some (.inv (.ref p) (pileIv K p as (k.map Fr.ds))), some (.dat (.int ((l.length - s.length : Nat) : Int))), some (.dat .none), x4, x5, x6, some (.dat (Tr.d t))]) k.length ⟨as, k, .told x.1, x.2, _, _, _, rfl, hx, hres, hak, by omega, Nat.le_refl _, rfl⟩ ?_) ?_)
          · rintro m ρ' ⟨as, k, t, s, x4, x5, x6, rfl, hs, hres, hak, hkl, hsx, rfl⟩
            cases k with
            | nil => exact ⟨false, GT.and (a := false) (b := false) ((GT.test (GE.op (GE.pilLen rfl) GE.int rd_bl)).to rfl) (fun z => nomatch z), (fun z => nomatch z), fun _ => ⟨as, [], t, s, _, _, _, hs, hres, hak, hkl, hsx, .inl rfl, rfl⟩⟩
            | cons f0 k =>
            cases as with
            | nil => simp at hak
            | cons a as =>
            have len1 : decide ((((f0 :: k).map Fr.ds).length : Int) > 0) = true := decide_eq_true (by simp only [List.map_cons, List.length_cons]; omega)
            obtain ⟨n, ob⟩ := f0
            cases ob with
            | none => exact ⟨false, GT.and (a := true) (b := false) ((GT.test (GE.op (GE.pilLen rfl) GE.int rd_bl)).to len1) fun _ => GT.and (a := false) (b := false) ((GT.test (GE.op (GE.len (GE.pilTop (ds := [.int n]) (dss := k.map Fr.ds) rfl (GE.un GE.int)) (.ls (.ali _))) GE.int rd_eqI)).to rfl) (fun z => nomatch z), (fun z => nomatch z), fun _ => ⟨_, _, t, s, _, _, _, hs, hres, hak, hkl, hsx, .inr ⟨n, k, rfl⟩, rfl⟩⟩
            | some q =>
              refine ⟨true, GT.and (a := true) (b := true) ((GT.test (GE.op (GE.pilLen rfl) GE.int rd_bl)).to len1) fun _ => GT.and (a := true) (b := true) ((GT.test (GE.op (GE.len (GE.pilTop (ds := [.int n, q.d]) (dss := k.map Fr.ds) rfl (GE.un GE.int)) (.ls (.ali _))) GE.int rd_eqI)).to rfl) fun _ => (GT.test (GE.op (GE.var rfl) GE.non rd_noN)).to (by rw [tr_non]; rfl), fun _ => ?_, (fun z => nomatch z)⟩
              obtain ⟨pre2, hpre2⟩ := id hs
              have epre2 : l.length - s.length = pre2.length := by rw [← hpre2]; simp
              have hsl2 := hs.length_le
              rw [cont_some] at hres
              refine GS.seq (GS.ifs (b := !(pS 41 s).isSome) ((GT.test (GE.op (GE.slS (tx0 rfl) (GO.some (GE.var rfl)) (GO.some (GE.op (GE.var rfl) GE.int rd_int)) (by omega) (cut_sign pre2 s hpre2.symm (by rw [epre2]) (by rw [epre2]; rfl))) (GE.strC (l := [41]) (by decide +kernel)) rd_neS)).to (by rw [txd, pS_take])) (fun hb4 => ?_) fun hb4 => GS.next ?_)
              · cases e : pS 41 s with
                | some z =>
                  rw [e] at hb4
                  cases hb4
                | none =>
                  rw [e] at hres
                  rw [← hres]
                  exact GS.retD GE.non
              · cases e : pS 41 s with
                | none =>
                  rw [e] at hb4
                  cases hb4
                | some r2 =>
                  rw [e, Option.bind_some] at hres
                  have fr := sfx_s e
                  have := fr.2
                  refine GS.seq (GS.asg (d := (Tr.drop n q t).d) (GE.tup (ds := [.str "drop", .int n, q.d, t.d]) (GA.cons GE.str (GA.cons (GE.ixL (GE.pilTop (ds := [.int n, q.d]) (dss := k.map Fr.ds) rfl (GE.un GE.int)) (.ali _) GE.int rfl) (GA.cons (GE.ixL (GE.pilTop (ds := [.int n, q.d]) (dss := k.map Fr.ds) rfl (GE.un GE.int)) (.ali _) GE.int rfl) (GA.cons (GE.var rfl) GA.nil)))) (by simp)) ?_)
                  refine GS.seq (GS.pilPop (p := p) (a := a) (as := as) (ds := [.int n, q.d]) (dss := k.map Fr.ds) rfl ?_)
                  exact GS.asg (d := .int ((l.length - r2.length : Nat) : Int)) (GE.to (GE.op (GE.var rfl) GE.int rd_int) (congrArg (fun z => Rs.ok (.int z)) (by omega))) ⟨k.length, by simp, as, k, .drop n q t, r2, _, _, _, rfl, fr.1.trans hs, hres, by simpa using hak, by simp only [List.length_cons] at hkl; omega, by omega, rfl⟩
          · rintro ρ' ⟨as, k, t, s, x4, x5, x6, hs, hres, hak, hkl, hsx, hk, rfl⟩
            rcases hk with rfl | ⟨n, k, rfl⟩
            · refine GS.ifs (b := true) ((GT.test (GE.op (GE.pilLen rfl) GE.int rd_eqI)).to rfl) (fun _ => ?_) fun z => nomatch z
              exact GS.asg (GE.var rfl) ⟨0, by omega, .inr ⟨t, s, _, _, _, _, _, rfl, hs, hres, rfl⟩⟩
            · cases as with
              | nil => simp at hak
              | cons a as =>
              have len1 : decide (((((n, none) :: k : List Fr).map Fr.ds).length : Int) = 0) = false := by simp; omega
              refine GS.ifs (b := false) ((GT.test (GE.op (GE.pilLen rfl) GE.int rd_eqI)).to len1) (fun z => nomatch z) fun _ => ?_
              obtain ⟨pre2, hpre2⟩ := id hs
              have epre2 : l.length - s.length = pre2.length := by rw [← hpre2]; simp
              have hsl2 := hs.length_le
              rw [cont_none] at hres
              refine GS.ifs (b := !(pS 44 s).isSome) ((GT.test (GE.op (GE.slS (tx0 rfl) (GO.some (GE.var rfl)) (GO.some (GE.op (GE.var rfl) GE.int rd_int)) (by omega) (cut_sign pre2 s hpre2.symm (by rw [epre2]) (by rw [epre2]; rfl))) (GE.strC (l := [44]) (by decide +kernel)) rd_neS)).to (by rw [txd, pS_take])) (fun hb4 => ?_) fun hb4 => ?_
              · cases e : pS 44 s with
                | some z =>
                  rw [e] at hb4
                  cases hb4
                | none =>
                  rw [e] at hres
                  rw [← hres]
                  exact GS.retD GE.non
              · cases e : pS 44 s with
                | none =>
                  rw [e] at hb4
                  cases hb4
                | some r2 =>
                  rw [e, Option.bind_some] at hres
                  have fr := sfx_s e
                  have := fr.2
                  refine GS.seq (GS.pilApp (p := p) (a := a) (as := as) (ds := [.int n]) (dss := k.map Fr.ds) rfl (by simp) (GE.un GE.int) (GE.var rfl) ?_)
                  exact GS.asg (d := .int ((l.length - r2.length : Nat) : Int)) (GE.to (GE.op (GE.var rfl) GE.int rd_int) (congrArg (fun z => Rs.ok (.int z)) (by omega))) ⟨r2.length + 1, by omega, .inl ⟨p, a :: as, (n, some t) :: k, r2, _, _, _, _, fr.1.trans hs, hres, rfl, by simpa using hak, by simp only [List.length_cons] at hkl ⊢; omega, rfl⟩⟩
      · have es : s = [] := by
          cases s with
          | nil => rfl
          | cons c s => simp at hb
        subst es
        exact .inl ⟨by rw [← hres]; rfl, _, _, _, _, _, _, rfl⟩
    · refine ⟨decide (((l.length - s.length : Nat) : Int) < (l.length : Int)) && false, GT.and (GT.test (GE.op (GE.var rfl) (len0 rfl) rd_bl)) fun _ => (GT.test (GE.op (GE.var rfl) GE.non rd_isN)).to (tr_non t), fun hb => ?_, fun _ => .inr ⟨t, s, _, _, _, _, _, hs, hres, rfl⟩⟩
      simp at hb
  · rintro ρ' (⟨rfl, c1, x2, x4, x5, x6, x7, rfl⟩ | ⟨t, s, c1, x4, x5, x6, x7, hs, hres, rfl⟩)
    · refine GS.seq (GS.ifs (b := true) (GT.or (a := true) (b := true) (GT.test (GE.op (GE.var (d := .none) rfl) GE.non rd_isN)) fun z => nomatch z) (fun _ => GS.retD GE.non) fun z => nomatch z)
    · have hsl := hs.length_le
      refine GS.seq (GS.ifs (b := decide (s ≠ [])) ((GT.or (a := false) (b := decide (s ≠ [])) ((GT.test (GE.op (GE.var rfl) GE.non rd_isN)).to (tr_non t)) fun _ => (GT.test (GE.op (GE.var rfl) (len0 rfl) rd_bl)).to (decide_eq_decide.mpr ?_)).to (Bool.false_or _)) (fun hb => ?_) fun hb => GS.next ?_)
      · cases s with
        | nil => simp
        | cons c s => simp; simp at hsl; omega
      · rw [← hres, if_neg (by simpa using hb)]
        exact GS.retD GE.non
      · rw [← hres, if_pos (by simpa using hb)]
        exact GS.retD (GE.var rfl)
theorem ok_law_told (C_law_which : FnW P w K mg base "_law_which" (Wh K C_NoCase C_NoPlan C_NoFloor C_BadLine)) (C_read : Fn P w K mg base 66 "read" (R_read C_BadLine 64)) {f : Addr} {fd : FuncData} (F : Fun K "_law_told" "_law_told" s_law_told f fd) (hm : mg "_law_told" = some (.ref f)) (b : Binds K fd ["text"] []) : Fn P w K mg base 67 "_law_told" R_told12 := by
  refine ok_fn F sc_law_told hm b (fun ds r ⟨_, e, _⟩ => by subst e; rfl) (fun cdv A outer s H E hr => ⟨_, (pss_cons (ps_set (i := 1) sc_law_told.nd rfl (Or.inl rfl) pe_non)
      (pss_cons (ps_tryA (i := 2) K rfl rfl sc_law_told.nd rfl rfl ⟨rfl, by decide, Or.inl T.e_FloorError.g⟩ (takes_of rfl rfl rfl rfl) (fun W pn xe tk ps => (pss_one (ps_set (i := 1) sc_law_told.nd rfl (Or.inl rfl) (pe_fW C_read hr (by omega) tk (pa_cons (pv 0) pa_nil))))) (fun a oe cls d pn hz hf => (pss_one (ps_set (i := 1) sc_law_told.nd rfl (Or.inl rfl) (pe_which (i := 2) C_law_which hz hf hr (by omega) (pa_cons (pv 2) pa_nil))))))
      (pss_one (ps_ret (pv 1))))), ?_⟩)
  rintro ds r ⟨l, rfl, hl, rfl⟩
  show GS K E _ [some (.dat (.str (tx l))), none, none] _ _
  refine GS.seq (GS.asg (d := .none) GE.non ?_)
  have q : R_read C_BadLine 64 [.str (tx l)] (resR C_BadLine (pR 64 l)) := ⟨l, rfl, .inl (by omega), by omega, rfl⟩
  cases e : pR 64 l with
  | some t =>
    rw [e] at q
    refine GS.seq (GS.mono (Nx := fun ρ' => ρ' = [some (.dat (.str (tx l))), some (.dat t.d), none]) (GS.tryAs none (GB.asg (E' := E0) (GA.cons (GE.var rfl) GA.nil) q rfl) fun C z => nomatch z) ?_)
    rintro ρ' rfl
    exact GS.retD (GE.var rfl)
  | none =>
    rw [e] at q
    refine GS.seq (GS.mono (Nx := fun ρ' => ρ' = [some (.dat (.str (tx l))), some (.own (wd_ 3)), none]) (GS.tryAs (some C_BadLine) (GB.asgX (E' := E0) (GA.cons (GE.var rfl) GA.nil) q) fun C z => ⟨by cases z; exact T.xf_BadLine, fun a => by cases z; exact GS.asgWhich (wh_BadLine T) rfl rfl⟩) ?_)
    rintro ρ' rfl
    exact GS.retOwn rfl
theorem ok_law_spoiled (C_law_sign_by : Fn P w K mg base 1 "_law_sign_by" R_sign) {f : Addr} {fd : FuncData} (F : Fun K "_law_spoiled" "_law_spoiled" s_law_spoiled f fd) (hm : mg "_law_spoiled" = some (.ref f)) (b : Binds K fd ["text", "cell", "other"] []) : Fn P w K mg base 2 "_law_spoiled" R_spo := by
  refine ok_fn F sc_law_spoiled hm b (fun ds r ⟨_, _, _, e, _⟩ => by subst e; rfl) (fun cdv A outer s H E hr => ⟨_, (pss_cons (ps_set (i := 3) sc_law_spoiled.nd rfl (Or.inl rfl) (pe_op op_mod (pe_op op_fdiv (pv 1) pe_int) (pe_op op_add (pe_callB cLenS (by rfl) T.z_len (by decide +kernel) (pa_cons (pv 0) pa_nil)) pe_int)))
      (pss_cons (ps_if (pt_cmpR op_eq (pe_op op_mod (pv 1) pe_int) pe_int (nomark _)) (pss_one (ps_ret (pe_op oAddT (pe_slice sl_str (pv 0) po_none (po_some (pv 3))) (pe_slice sl_str (pv 0) (po_some (pe_op op_add (pv 3) pe_int)) po_none)))) pss_nil)
      (pss_cons (ps_if (pt_cmpR op_eq (pe_op op_mod (pv 1) pe_int) pe_int (nomark _)) (pss_one (ps_ret (pe_op oAddT (pe_op oAddT (pe_slice sl_str (pv 0) po_none (po_some (pv 3))) (pe_f (E := E) C_law_sign_by hr (by omega) (fun σ => passAt (takes_of rfl rfl rfl rfl) σ) (pa_cons (pv 2) pa_nil))) (pe_slice sl_str (pv 0) (po_some (pe_op op_add (pv 3) pe_int)) po_none)))) pss_nil)
      (pss_one (ps_ret (pe_op oAddT (pe_op oAddT (pe_slice sl_str (pv 0) po_none (po_some (pv 3))) (pe_f (E := E) C_law_sign_by hr (by omega) (fun σ => passAt (takes_of rfl rfl rfl rfl) σ) (pa_cons (pv 2) pa_nil))) (pe_slice sl_str (pv 0) (po_some (pv 3)) po_none))))))), ?_⟩)
  rintro ds r ⟨l, c, o, rfl, hl, rfl⟩
  show GS K E _ [some (.dat (.str (tx l))), some (.dat (.int c)), some (.dat (.int o)), none] _ _
  have h0 := Int.emod_nonneg (c / 3) (show (l.length : Int) + 1 ≠ 0 by omega)
  have h1 := Int.emod_lt_of_pos (c / 3) (show (0 : Int) < (l.length : Int) + 1 by omega)
  unfold spo
  obtain ⟨m, em⟩ : ∃ m : Nat, c / 3 % ((l.length : Int) + 1) = m := ⟨_, (Int.toNat_of_nonneg h0).symm⟩
  rw [em] at h1 ⊢
  have hm' : m ≤ l.length := by omega
  rw [Int.toNat_natCast]
  refine GS.seq (GS.asg (d := .int (m : Nat)) (GE.to (GE.op (GE.op (GE.var rfl) GE.int (rd_intC ⟨by decide, by decide⟩)) (GE.op (GE.lenS (l := l) (GE.var rfl) (by omega)) GE.int rd_int) (rd_intC (by omega))) (congrArg (fun z => Rs.ok (.int z)) em)) ?_)
  have hsp : l = l.take m ++ l.drop m := (List.take_append_drop m l).symm
  have hlt : (l.take m).length = m := by rw [List.length_take]; omega
  have ld : ∀ j, (l.drop j).length ≤ 1000 := fun j => by rw [List.length_drop]; omega
  have c1 : cutS (tx l) none (some ((m : Nat) : Int)) = tx (l.take m) := cut_to (l.take m) (l.drop m) hsp (by rw [hlt])
  refine GS.seq (GS.ifs (b := decide (c % 3 = 0)) (GT.test (GE.op (GE.op (GE.var rfl) GE.int (rd_intC (by decide))) GE.int rd_eqI)) (fun hb => ?_) fun hb => GS.next ?_)
  · rw [if_pos (of_decide_eq_true hb)]
    exact GS.retD (GE.op (GE.slS (GE.var rfl) GO.none (GO.some (GE.var rfl)) (by omega) c1) (GE.slS (GE.var rfl) (GO.some (GE.op (GE.var rfl) GE.int rd_int)) GO.none (by omega) (cut_from (m + 1) (by omega))) (rd_addT (by have := ld (m + 1); omega)))
  · rw [if_neg (of_decide_eq_false hb)]
    refine GS.seq (GS.ifs (b := decide (c % 3 = 1)) (GT.test (GE.op (GE.op (GE.var rfl) GE.int (rd_intC (by decide))) GE.int rd_eqI)) (fun hb => ?_) fun hb => GS.next ?_)
    · rw [if_pos (of_decide_eq_true hb)]
      exact GS.retD (GE.op (GE.op (GE.slS (GE.var rfl) GO.none (GO.some (GE.var rfl)) (by omega) c1) (GE.call (GA.cons (GE.var rfl) GA.nil) ⟨o, rfl, rfl⟩) (rd_addT (by rw [List.length_singleton]; omega))) (GE.slS (GE.var rfl) (GO.some (GE.op (GE.var rfl) GE.int rd_int)) GO.none (by omega) (cut_from (m + 1) (by omega))) (rd_addT (by have := ld (m + 1); rw [List.length_append, List.length_singleton]; omega)))
    · rw [if_neg (of_decide_eq_false hb)]
      exact GS.retD (GE.op (GE.op (GE.slS (GE.var rfl) GO.none (GO.some (GE.var rfl)) (by omega) c1) (GE.call (GA.cons (GE.var rfl) GA.nil) ⟨o, rfl, rfl⟩) (rd_addT (by rw [List.length_singleton]; omega))) (GE.slS (GE.var rfl) (GO.some (GE.var rfl)) GO.none (by omega) (cut_from m rfl)) (rd_addT (by have := ld m; rw [List.length_append, List.length_singleton]; omega)))
theorem ok_law (C_law_cell_at : Fn P w K mg base 1 "_law_cell_at" R_cell) (C_law_tree : Fn P w K mg base 65 "_law_tree" (R_ltree 64)) (C_law_text : Fn P w K mg base 100 "_law_text" (R_shown 100)) (C_law_spoiled : Fn P w K mg base 2 "_law_spoiled" R_spo) (C_law_odd : Fn P w K mg base 1 "_law_odd" R_odd) (C_law_due : Fn P w K mg base 2 "_law_due" R_due) (C_law_told : Fn P w K mg base 67 "_law_told" R_told12) {f : Addr} {fd : FuncData} (F : Fun K "law" "law" s_law f fd) : FnOk P w K mg base (L2.CX P w) 101 f fd ["script"] (spR K RLaw) := by
  refine ok_fnk F sc_law (fun ds r ⟨ns, e, _⟩ => by subst e; rfl) (fun cdv A outer s H E hr => ⟨_, (pss_cons (ps_set (i := 1) sc_law.nd rfl (Or.inl rfl) (pe_op op_mod (pe_f (E := E) C_law_cell_at hr (by omega) (fun σ => passAt (takes_of rfl rfl rfl rfl) σ) (pa_cons (pv 0) (pa_cons pe_int pa_nil))) pe_int))
      (pss_cons (ps_set (i := 2) sc_law.nd rfl (Or.inl rfl) (pe_f (E := E) C_law_text hr (by omega) (fun σ => passAt (takes_of rfl rfl rfl rfl) σ) (pa_cons (pe_f (E := E) C_law_tree hr (by omega) (fun σ => passAt (takes_of rfl rfl rfl rfl) σ) (pa_cons (pv 0) (pa_cons pe_int (pa_cons pe_int (pa_cons (pv 1) (pa_cons (pe_op op_add pe_int (pe_op op_mod (pe_f (E := E) C_law_cell_at hr (by omega) (fun σ => passAt (takes_of rfl rfl rfl rfl) σ) (pa_cons (pv 0) (pa_cons pe_int pa_nil))) pe_int)) pa_nil)))))) pa_nil)))
      (pss_cons (ps_if (pt_cmpR op_gt (pe_op op_mod (pe_f (E := E) C_law_cell_at hr (by omega) (fun σ => passAt (takes_of rfl rfl rfl rfl) σ) (pa_cons (pv 0) (pa_cons pe_int pa_nil))) pe_int) pe_int (nomark _)) (pss_one (ps_set (i := 2) sc_law.nd rfl (Or.inl rfl) (pe_f (E := E) C_law_spoiled hr (by omega) (fun σ => passAt (takes_of rfl rfl rfl rfl) σ) (pa_cons (pv 2) (pa_cons (pe_f (E := E) C_law_cell_at hr (by omega) (fun σ => passAt (takes_of rfl rfl rfl rfl) σ) (pa_cons (pv 0) (pa_cons pe_int pa_nil))) (pa_cons (pe_f (E := E) C_law_cell_at hr (by omega) (fun σ => passAt (takes_of rfl rfl rfl rfl) σ) (pa_cons (pv 0) (pa_cons pe_int pa_nil))) pa_nil)))))) pss_nil)
      (pss_cons (ps_if (pt_cmpR op_eq (pe_op op_mod (pe_op op_fdiv (pe_f (E := E) C_law_cell_at hr (by omega) (fun σ => passAt (takes_of rfl rfl rfl rfl) σ) (pa_cons (pv 0) (pa_cons pe_int pa_nil))) pe_int) pe_int) pe_int (nomark _)) (pss_one (ps_set (i := 2) sc_law.nd rfl (Or.inl rfl) (pe_f (E := E) C_law_odd hr (by omega) (fun σ => passAt (takes_of rfl rfl rfl rfl) σ) (pa_cons (pe_f (E := E) C_law_cell_at hr (by omega) (fun σ => passAt (takes_of rfl rfl rfl rfl) σ) (pa_cons (pv 0) (pa_cons pe_int pa_nil))) pa_nil)))) pss_nil)
      (pss_cons (ps_set (i := 3) sc_law.nd rfl (Or.inl rfl) (pe_f (E := E) C_law_due hr (by omega) (fun σ => passAt (takes_of rfl rfl rfl rfl) σ) (pa_cons (pv 2) pa_nil)))
      (pss_cons (ps_set (i := 4) sc_law.nd rfl (Or.inl rfl) (pe_f (E := E) C_law_told hr (by omega) (fun σ => passAt (takes_of rfl rfl rfl rfl) σ) (pa_cons (pv 2) pa_nil)))
      (pss_cons (ps_if (pt_cmpR op_isN' (pv 3) pe_non (nomark _)) (pss_one (ps_ret (pe_cmpR (oEqD K hr.units) (pv 4) (pe_lst (pa_cons pe_bl (pa_cons pe_bl (pa_cons pe_bl (pa_cons pe_bl (pa_cons pe_bl pa_nil)))))) (nomark _)))) pss_nil)
      (pss_one (ps_ret (pe_and (pe_callB (cIsi K) (by rfl) T.z_isinstance (by decide +kernel) (pa_cons (pv 4) (pa_cons (pe_bltn (v := .ty "tuple") (by rfl) T.z_tuple (by decide +kernel) rfl) pa_nil))) (pe_one (pe_cmpR (oEqD K hr.units) (pv 4) (pv 3) (nomark _))))))))))))), ?_⟩)
  rintro ds r ⟨ns, rfl, hl, rfl⟩
  show GS K E _ [some (.dat (.list (ns.map .int))), none, none, none, none] _ _
  obtain ⟨f', hf, ef⟩ := mod_nat (cell ns 0) (m := 13) (by decide)
  obtain ⟨k0, hk0, ek⟩ := mod_nat (cell ns 1) (m := 4) (by decide)
  obtain ⟨k, hk, hk1, hk6⟩ : ∃ k : Nat, (1 : Int) + (k0 : Int) = k ∧ 1 ≤ k ∧ k ≤ 4 := ⟨1 + k0, by omega, by omega, by omega⟩
  refine GS.seq (GS.asg (d := .int f') (GE.to (GE.op (GE.call (GA.cons (GE.var rfl) (GA.cons GE.int GA.nil)) ⟨ns, 0, rfl, rfl⟩) GE.int (rd_intC (by decide))) (by rw [ef])) ?_)
  obtain ⟨hsm, hcnt⟩ := drT_small ns 6 f' 0 k (by omega)
  have hdep := dep_cnt (drT ns 6 0 f' k)
  have hlen := Tr.tx_len _ hsm
  refine GS.seq (GS.asg (d := .str (tx (drT ns 6 0 f' k).tx)) (GE.call (GA.cons (GE.call (GA.cons (GE.var rfl) (GA.cons GE.int (GA.cons GE.int (GA.cons (GE.var rfl) (GA.cons (GE.to (GE.op GE.int (GE.op (GE.call (GA.cons (GE.var rfl) (GA.cons GE.int GA.nil)) ⟨ns, 1, rfl, rfl⟩) GE.int (rd_intC (by decide))) rd_int) (by rw [ek, hk])) GA.nil))))) ⟨ns, 6, 0, f', k, _, _, _, rfl, rfl, by omega, rfl, by omega, by omega, by omega, .inr hk1, rfl⟩) GA.nil) ⟨_, rfl, by omega, by omega, hsm, rfl⟩) ?_)
  have hl0 : (drT ns 6 0 f' k).tx.length ≤ 99 := by omega
  generalize (drT ns 6 0 f' k).tx = l at hl0 ⊢
  refine GS.seq (GS.mono (Nx := fun ρ' => ∃ l : List Nat, l.length ≤ 100 ∧ ρ' = [some (.dat (.list (ns.map .int))), some (.dat (.int f')), some (.dat (.str (tx l))), none, none]) (GS.ifs (b := decide (cell ns 2 % 4 > 0)) (GT.test (GE.op (GE.op (GE.call (GA.cons (GE.var rfl) (GA.cons GE.int GA.nil)) ⟨ns, 2, rfl, rfl⟩) GE.int (rd_intC (by decide))) GE.int rd_bl)) (fun _ => ?_) fun _ => GS.next ⟨l, by omega, rfl⟩) ?_)
  · have hs := spo_len l (cell ns 3) (cell ns 4)
    exact GS.asg (GE.call (GA.cons (GE.var rfl) (GA.cons (GE.call (GA.cons (GE.var rfl) (GA.cons GE.int GA.nil)) ⟨ns, 3, rfl, rfl⟩) (GA.cons (GE.call (GA.cons (GE.var rfl) (GA.cons GE.int GA.nil)) ⟨ns, 4, rfl, rfl⟩) GA.nil))) ⟨l, cell ns 3, cell ns 4, rfl, by omega, rfl⟩) ⟨_, by omega, rfl⟩
  rintro ρ' ⟨l, hl1, rfl⟩
  refine GS.seq (GS.mono (Nx := fun ρ' => ∃ l : List Nat, l.length ≤ 100 ∧ ρ' = [some (.dat (.list (ns.map .int))), some (.dat (.int f')), some (.dat (.str (tx l))), none, none]) (GS.ifs (b := decide (cell ns 2 / 4 % 8 = 1)) (GT.test (GE.op (GE.op (GE.op (GE.call (GA.cons (GE.var rfl) (GA.cons GE.int GA.nil)) ⟨ns, 2, rfl, rfl⟩) GE.int (rd_intC ⟨by decide, by decide⟩)) GE.int (rd_intC (by decide))) GE.int rd_eqI)) (fun _ => ?_) fun _ => GS.next ⟨l, by omega, rfl⟩) ?_)
  · have h0 := Int.emod_nonneg (cell ns 5) (show (22 : Int) ≠ 0 by decide)
    have h1 := Int.emod_lt_of_pos (cell ns 5) (show (0 : Int) < 22 by decide)
    have hin : odds.getD (cell ns 5 % 22).toNat "" ∈ odds := by
      rw [List.getD_eq_getElem?_getD, List.getElem?_eq_getElem (show (cell ns 5 % 22).toNat < odds.length by rw [odds_len]; omega)]
      exact List.getElem_mem _
    have hsz := odds_small _ hin
    exact GS.asg (GE.call (GA.cons (GE.call (GA.cons (GE.var rfl) (GA.cons GE.int GA.nil)) ⟨ns, 5, rfl, rfl⟩) GA.nil) ⟨cell ns 5, rfl, rfl⟩) ⟨TL.tl (odds.getD (cell ns 5 % 22).toNat ""), by omega, by rw [← tx_eq (l := TL.tl (odds.getD (cell ns 5 % 22).toNat "")) rfl]; rfl⟩
  rintro ρ' ⟨l, hl2, rfl⟩
  have q1 : R_due [.str (tx l)] (resD (pR 64 l)) := ⟨l, rfl, by omega, rfl⟩
  have q2 : R_told12 [.str (tx l)] (resO (pR 64 l)) := ⟨l, rfl, by omega, rfl⟩
  cases e : pR 64 l with
  | none =>
    rw [e] at q1 q2
    refine GS.seq (GS.asg (GE.call (GA.cons (GE.var rfl) GA.nil) q1) ?_)
    refine GS.seq (GS.asgN (GE.call (GA.cons (GE.var rfl) GA.nil) q2) ?_)
    have sh : SeqAt.shaped (.list [.bool false, .bool false, .bool false, .bool true, .bool true]) = true := sh_bools [false, false, false, true, true]
    refine GS.seq (GS.ifs (b := true) (GT.test (GE.op (GE.var (d := .none) rfl) GE.non rd_isN)) (fun _ => ?_) fun z => nomatch z)
    exact GS.retD (GE.to (GE.opH (GE.own rfl) (.ali _) (GE.lst (GA.cons GE.bool (GA.cons GE.bool (GA.cons GE.bool (GA.cons GE.bool (GA.cons GE.bool GA.nil))))) (by simp)) (.new _) (rh_eq sh sh)) (by rw [eqv_self sh]))
  | some t =>
    rw [e] at q1 q2
    have sh : SeqAt.shaped t.d = true := sh_tr (by have := pR_dep (by omega) e; omega)
    refine GS.seq (GS.asg (d := t.d) (GE.call (GA.cons (GE.var rfl) GA.nil) q1) ?_)
    refine GS.seq (GS.asg (d := t.d) (GE.call (GA.cons (GE.var rfl) GA.nil) q2) ?_)
    refine GS.seq (GS.ifs (b := false) ((GT.test (GE.op (GE.var rfl) GE.non rd_isN)).to (tr_non t)) (fun z => nomatch z) fun _ => GS.next ?_)
    exact GS.retD (GE.to (GE.andV (a := true) (GE.isi (GE.var (d := t.d) rfl) trivial (by rw [tr_ty]; decide +kernel)) fun _ => GE.op (GE.var rfl) (GE.var rfl) (rd_eqD sh sh)) (by rw [eqv_self sh] <;> rfl))
end
theorem all_mk {P : Program} {w : World} {K : PySem.W.Frag} {h : Heap} {mg : Str → Option Value} {fa f0 f1 f2 f3 f4 f6 f7 f8 f9 f10 f11 f12 f13 f14 f15 C_FloorError C_NoCase C_NoPlan C_NoFloor C_BadLine : Addr} (X : K.In h) (G : h.Ns mainGlobals mg) (hfa : mg "law" = some (.ref fa))
    {od0 an0 od1 an1 od2 an2 od3 an3 od4 an4 od6 an6 od7 an7 od8 an8 od9 an9 od10 an10 od11 an11 od12 an12 od13 an13 od14 an14 od15 an15 : Option Addr} {sl0 sl1 sl2 sl3 sl4 sl6 sl7 sl8 sl9 sl10 sl11 sl12 sl13 sl14 sl15 : Array (Option Value)} {oc0 kV0 dc0 pm0 cd0 ct0 oc1 kV1 dc1 pm1 cd1 ct1 oc2 kV2 dc2 pm2 cd2 ct2 oc3 kV3 dc3 pm3 cd3 ct3 oc4 kV4 dc4 pm4 cd4 ct4 oc6 kV6 dc6 pm6 cd6 ct6 oc7 kV7 dc7 pm7 cd7 ct7 oc8 kV8 dc8 pm8 cd8 ct8 oc9 kV9 dc9 pm9 cd9 ct9 oc10 kV10 dc10 pm10 cd10 ct10 oc11 kV11 dc11 pm11 cd11 ct11 oc12 kV12 dc12 pm12 cd12 ct12 oc13 kV13 dc13 pm13 cd13 ct13 oc14 kV14 dc14 pm14 cd14 ct14 oc15 kV15 dc15 pm15 cd15 ct15 : Value} {t_FIGURES t_MOST_TREE : Tok}
    (a0 : PySem.W.nsIn K mainGlobals "number_at" = some (some (.ref f0))) (l0 : K.lookup f0 = some ⟨oc0, od0, .func (PySem.W.fnOf "number_at" "number_at" (defArgs s_number_at) (defBody s_number_at) (defScope s_number_at) .none kV0 dc0 pm0 an0 cd0 ct0), sl0⟩) (c0 : PySem.W.codeIn K cd0 "number_at" = true) (k0 : PySem.W.keepIn K (.ref f0) = true)
    (a1 : PySem.W.nsIn K mainGlobals "sign_at" = some (some (.ref f1))) (l1 : K.lookup f1 = some ⟨oc1, od1, .func (PySem.W.fnOf "sign_at" "sign_at" (defArgs s_sign_at) (defBody s_sign_at) (defScope s_sign_at) .none kV1 dc1 pm1 an1 cd1 ct1), sl1⟩) (c1 : PySem.W.codeIn K cd1 "sign_at" = true) (k1 : PySem.W.keepIn K (.ref f1) = true)
    (a2 : PySem.W.nsIn K mainGlobals "tree_at" = some (some (.ref f2))) (l2 : K.lookup f2 = some ⟨oc2, od2, .func (PySem.W.fnOf "tree_at" "tree_at" (defArgs s_tree_at) (defBody s_tree_at) (defScope s_tree_at) .none kV2 dc2 pm2 an2 cd2 ct2), sl2⟩) (c2 : PySem.W.codeIn K cd2 "tree_at" = true) (k2 : PySem.W.keepIn K (.ref f2) = true)
    (a3 : PySem.W.nsIn K mainGlobals "read" = some (some (.ref f3))) (l3 : K.lookup f3 = some ⟨oc3, od3, .func (PySem.W.fnOf "read" "read" (defArgs s_read) (defBody s_read) (defScope s_read) .none kV3 dc3 pm3 an3 cd3 ct3), sl3⟩) (c3 : PySem.W.codeIn K cd3 "read" = true) (k3 : PySem.W.keepIn K (.ref f3) = true)
    (a4 : PySem.W.nsIn K mainGlobals "_law_cell_at" = some (some (.ref f4))) (l4 : K.lookup f4 = some ⟨oc4, od4, .func (PySem.W.fnOf "_law_cell_at" "_law_cell_at" (defArgs s_law_cell_at) (defBody s_law_cell_at) (defScope s_law_cell_at) .none kV4 dc4 pm4 an4 cd4 ct4), sl4⟩) (c4 : PySem.W.codeIn K cd4 "_law_cell_at" = true) (k4 : PySem.W.keepIn K (.ref f4) = true)
    (a6 : PySem.W.nsIn K mainGlobals "_law_tree" = some (some (.ref f6))) (l6 : K.lookup f6 = some ⟨oc6, od6, .func (PySem.W.fnOf "_law_tree" "_law_tree" (defArgs s_law_tree) (defBody s_law_tree) (defScope s_law_tree) .none kV6 dc6 pm6 an6 cd6 ct6), sl6⟩) (c6 : PySem.W.codeIn K cd6 "_law_tree" = true) (k6 : PySem.W.keepIn K (.ref f6) = true)
    (a7 : PySem.W.nsIn K mainGlobals "_law_which" = some (some (.ref f7))) (l7 : K.lookup f7 = some ⟨oc7, od7, .func (PySem.W.fnOf "_law_which" "_law_which" (defArgs s_law_which) (defBody s_law_which) (defScope s_law_which) .none kV7 dc7 pm7 an7 cd7 ct7), sl7⟩) (c7 : PySem.W.codeIn K cd7 "_law_which" = true) (k7 : PySem.W.keepIn K (.ref f7) = true)
    (a8 : PySem.W.nsIn K mainGlobals "_law_text" = some (some (.ref f8))) (l8 : K.lookup f8 = some ⟨oc8, od8, .func (PySem.W.fnOf "_law_text" "_law_text" (defArgs s_law_text) (defBody s_law_text) (defScope s_law_text) .none kV8 dc8 pm8 an8 cd8 ct8), sl8⟩) (c8 : PySem.W.codeIn K cd8 "_law_text" = true) (k8 : PySem.W.keepIn K (.ref f8) = true)
    (a9 : PySem.W.nsIn K mainGlobals "_law_sign_by" = some (some (.ref f9))) (l9 : K.lookup f9 = some ⟨oc9, od9, .func (PySem.W.fnOf "_law_sign_by" "_law_sign_by" (defArgs s_law_sign_by) (defBody s_law_sign_by) (defScope s_law_sign_by) .none kV9 dc9 pm9 an9 cd9 ct9), sl9⟩) (c9 : PySem.W.codeIn K cd9 "_law_sign_by" = true) (k9 : PySem.W.keepIn K (.ref f9) = true)
    (a10 : PySem.W.nsIn K mainGlobals "_law_odd" = some (some (.ref f10))) (l10 : K.lookup f10 = some ⟨oc10, od10, .func (PySem.W.fnOf "_law_odd" "_law_odd" (defArgs s_law_odd) (defBody s_law_odd) (defScope s_law_odd) .none kV10 dc10 pm10 an10 cd10 ct10), sl10⟩) (c10 : PySem.W.codeIn K cd10 "_law_odd" = true) (k10 : PySem.W.keepIn K (.ref f10) = true)
    (a11 : PySem.W.nsIn K mainGlobals "_law_end" = some (some (.ref f11))) (l11 : K.lookup f11 = some ⟨oc11, od11, .func (PySem.W.fnOf "_law_end" "_law_end" (defArgs s_law_end) (defBody s_law_end) (defScope s_law_end) .none kV11 dc11 pm11 an11 cd11 ct11), sl11⟩) (c11 : PySem.W.codeIn K cd11 "_law_end" = true) (k11 : PySem.W.keepIn K (.ref f11) = true)
    (a12 : PySem.W.nsIn K mainGlobals "_law_due" = some (some (.ref f12))) (l12 : K.lookup f12 = some ⟨oc12, od12, .func (PySem.W.fnOf "_law_due" "_law_due" (defArgs s_law_due) (defBody s_law_due) (defScope s_law_due) .none kV12 dc12 pm12 an12 cd12 ct12), sl12⟩) (c12 : PySem.W.codeIn K cd12 "_law_due" = true) (k12 : PySem.W.keepIn K (.ref f12) = true)
    (a13 : PySem.W.nsIn K mainGlobals "_law_told" = some (some (.ref f13))) (l13 : K.lookup f13 = some ⟨oc13, od13, .func (PySem.W.fnOf "_law_told" "_law_told" (defArgs s_law_told) (defBody s_law_told) (defScope s_law_told) .none kV13 dc13 pm13 an13 cd13 ct13), sl13⟩) (c13 : PySem.W.codeIn K cd13 "_law_told" = true) (k13 : PySem.W.keepIn K (.ref f13) = true)
    (a14 : PySem.W.nsIn K mainGlobals "_law_spoiled" = some (some (.ref f14))) (l14 : K.lookup f14 = some ⟨oc14, od14, .func (PySem.W.fnOf "_law_spoiled" "_law_spoiled" (defArgs s_law_spoiled) (defBody s_law_spoiled) (defScope s_law_spoiled) .none kV14 dc14 pm14 an14 cd14 ct14), sl14⟩) (c14 : PySem.W.codeIn K cd14 "_law_spoiled" = true) (k14 : PySem.W.keepIn K (.ref f14) = true)
    (a15 : PySem.W.nsIn K mainGlobals "law" = some (some (.ref f15))) (l15 : K.lookup f15 = some ⟨oc15, od15, .func (PySem.W.fnOf "law" "law" (defArgs s_law) (defBody s_law) (defScope s_law) .none kV15 dc15 pm15 an15 cd15 ct15), sl15⟩) (c15 : PySem.W.codeIn K cd15 "law" = true) (k15 : PySem.W.keepIn K (.ref f15) = true)
    (z_ValueError : PySem.W.nsIn K mainGlobals "ValueError" = some none)
    (z_bool : PySem.W.nsIn K mainGlobals "bool" = some none)
    (z_int : PySem.W.nsIn K mainGlobals "int" = some none)
    (z_isinstance : PySem.W.nsIn K mainGlobals "isinstance" = some none)
    (z_len : PySem.W.nsIn K mainGlobals "len" = some none)
    (z_str : PySem.W.nsIn K mainGlobals "str" = some none)
    (z_tuple : PySem.W.nsIn K mainGlobals "tuple" = some none)
    (m_FIGURES : PySem.W.nsIn K mainGlobals "FIGURES" = some (some (.str "0123456789" t_FIGURES)))
    (m_MOST_TREE : PySem.W.nsIn K mainGlobals "MOST_TREE" = some (some (.int 60 t_MOST_TREE)))
    (g_FloorError : PySem.W.nsIn K mainGlobals "FloorError" = some (some (.ref C_FloorError))) (x_FloorError : PySem.W.excIn K C_FloorError [.type "ValueError", .type "Exception", .type "BaseException", .type "object"] "ValueError.__new__" = true) (kk_FloorError : PySem.W.keepIn K (.ref C_FloorError) = true) (b_FloorError : PySem.W.subIn K (.ref C_FloorError) (.type "BaseException") = some true) (t_FloorError : PySem.W.typeIn K (.ref C_FloorError) = some (.type "type"))
    (g_NoCase : PySem.W.nsIn K mainGlobals "NoCase" = some (some (.ref C_NoCase))) (x_NoCase : PySem.W.excIn K C_NoCase [.type "ValueError", .type "Exception", .type "BaseException", .type "object"] "ValueError.__new__" = true) (kk_NoCase : PySem.W.keepIn K (.ref C_NoCase) = true) (b_NoCase : PySem.W.subIn K (.ref C_NoCase) (.type "BaseException") = some true) (t_NoCase : PySem.W.typeIn K (.ref C_NoCase) = some (.type "type"))
    (g_NoPlan : PySem.W.nsIn K mainGlobals "NoPlan" = some (some (.ref C_NoPlan))) (x_NoPlan : PySem.W.excIn K C_NoPlan [.type "ValueError", .type "Exception", .type "BaseException", .type "object"] "ValueError.__new__" = true) (kk_NoPlan : PySem.W.keepIn K (.ref C_NoPlan) = true) (b_NoPlan : PySem.W.subIn K (.ref C_NoPlan) (.type "BaseException") = some true) (t_NoPlan : PySem.W.typeIn K (.ref C_NoPlan) = some (.type "type"))
    (g_NoFloor : PySem.W.nsIn K mainGlobals "NoFloor" = some (some (.ref C_NoFloor))) (x_NoFloor : PySem.W.excIn K C_NoFloor [.type "ValueError", .type "Exception", .type "BaseException", .type "object"] "ValueError.__new__" = true) (kk_NoFloor : PySem.W.keepIn K (.ref C_NoFloor) = true) (b_NoFloor : PySem.W.subIn K (.ref C_NoFloor) (.type "BaseException") = some true) (t_NoFloor : PySem.W.typeIn K (.ref C_NoFloor) = some (.type "type"))
    (g_BadLine : PySem.W.nsIn K mainGlobals "BadLine" = some (some (.ref C_BadLine))) (x_BadLine : PySem.W.excIn K C_BadLine [.type "ValueError", .type "Exception", .type "BaseException", .type "object"] "ValueError.__new__" = true) (kk_BadLine : PySem.W.keepIn K (.ref C_BadLine) = true) (b_BadLine : PySem.W.subIn K (.ref C_BadLine) (.type "BaseException") = some true) (t_BadLine : PySem.W.typeIn K (.ref C_BadLine) = some (.type "type"))
    (sp_ : PySem.W.specialIn K (.builtin "object.__class__") "__get__" = some (some (.builtin "getset_descriptor.__get__"))) (tk_ : PySem.W.takesIn K (.builtin "object.__class__") = some true)
    (hd_FloorError : PySem.W.hasDictIn K C_FloorError = true)
    (hd_NoCase : PySem.W.hasDictIn K C_NoCase = true)
    (hd_NoPlan : PySem.W.hasDictIn K C_NoPlan = true)
    (hd_NoFloor : PySem.W.hasDictIn K C_NoFloor = true)
    (hd_BadLine : PySem.W.hasDictIn K C_BadLine = true)
    (h1_NoCase : PySem.W.findIn K (.ref C_NoCase) "__getattribute__" = some (some (.builtin "BaseException.__getattribute__"))) (h2_NoCase : PySem.W.findIn K (.ref C_NoCase) "__getattr__" = some none) (h3_NoCase : PySem.W.findIn K (.ref C_NoCase) "__class__" = some (some (.builtin "object.__class__"))) (h4_NoCase : PySem.W.mroIn K C_NoCase (.type "object") = some true)
    (s_NoCase_FloorError : PySem.W.subIn K (.ref C_NoCase) (.ref C_FloorError) = some true) (s_NoCase_ValueError : PySem.W.subIn K (.ref C_NoCase) (.type "ValueError") = some true)
    (s_NoCase_NoCase : PySem.W.subIn K (.ref C_NoCase) (.ref C_NoCase) = some true)
    (s_NoCase_NoPlan : PySem.W.subIn K (.ref C_NoCase) (.ref C_NoPlan) = some false)
    (n_NoCase_NoPlan : (Value.ref C_NoCase == Value.ref C_NoPlan) = false)
    (s_NoCase_NoFloor : PySem.W.subIn K (.ref C_NoCase) (.ref C_NoFloor) = some false)
    (n_NoCase_NoFloor : (Value.ref C_NoCase == Value.ref C_NoFloor) = false)
    (s_NoCase_BadLine : PySem.W.subIn K (.ref C_NoCase) (.ref C_BadLine) = some false)
    (n_NoCase_BadLine : (Value.ref C_NoCase == Value.ref C_BadLine) = false)
    (h1_NoPlan : PySem.W.findIn K (.ref C_NoPlan) "__getattribute__" = some (some (.builtin "BaseException.__getattribute__"))) (h2_NoPlan : PySem.W.findIn K (.ref C_NoPlan) "__getattr__" = some none) (h3_NoPlan : PySem.W.findIn K (.ref C_NoPlan) "__class__" = some (some (.builtin "object.__class__"))) (h4_NoPlan : PySem.W.mroIn K C_NoPlan (.type "object") = some true)
    (s_NoPlan_FloorError : PySem.W.subIn K (.ref C_NoPlan) (.ref C_FloorError) = some true) (s_NoPlan_ValueError : PySem.W.subIn K (.ref C_NoPlan) (.type "ValueError") = some true)
    (s_NoPlan_NoCase : PySem.W.subIn K (.ref C_NoPlan) (.ref C_NoCase) = some false)
    (n_NoPlan_NoCase : (Value.ref C_NoPlan == Value.ref C_NoCase) = false)
    (s_NoPlan_NoPlan : PySem.W.subIn K (.ref C_NoPlan) (.ref C_NoPlan) = some true)
    (s_NoPlan_NoFloor : PySem.W.subIn K (.ref C_NoPlan) (.ref C_NoFloor) = some false)
    (n_NoPlan_NoFloor : (Value.ref C_NoPlan == Value.ref C_NoFloor) = false)
    (s_NoPlan_BadLine : PySem.W.subIn K (.ref C_NoPlan) (.ref C_BadLine) = some false)
    (n_NoPlan_BadLine : (Value.ref C_NoPlan == Value.ref C_BadLine) = false)
    (h1_NoFloor : PySem.W.findIn K (.ref C_NoFloor) "__getattribute__" = some (some (.builtin "BaseException.__getattribute__"))) (h2_NoFloor : PySem.W.findIn K (.ref C_NoFloor) "__getattr__" = some none) (h3_NoFloor : PySem.W.findIn K (.ref C_NoFloor) "__class__" = some (some (.builtin "object.__class__"))) (h4_NoFloor : PySem.W.mroIn K C_NoFloor (.type "object") = some true)
    (s_NoFloor_FloorError : PySem.W.subIn K (.ref C_NoFloor) (.ref C_FloorError) = some true) (s_NoFloor_ValueError : PySem.W.subIn K (.ref C_NoFloor) (.type "ValueError") = some true)
    (s_NoFloor_NoCase : PySem.W.subIn K (.ref C_NoFloor) (.ref C_NoCase) = some false)
    (n_NoFloor_NoCase : (Value.ref C_NoFloor == Value.ref C_NoCase) = false)
    (s_NoFloor_NoPlan : PySem.W.subIn K (.ref C_NoFloor) (.ref C_NoPlan) = some false)
    (n_NoFloor_NoPlan : (Value.ref C_NoFloor == Value.ref C_NoPlan) = false)
    (s_NoFloor_NoFloor : PySem.W.subIn K (.ref C_NoFloor) (.ref C_NoFloor) = some true)
    (s_NoFloor_BadLine : PySem.W.subIn K (.ref C_NoFloor) (.ref C_BadLine) = some false)
    (n_NoFloor_BadLine : (Value.ref C_NoFloor == Value.ref C_BadLine) = false)
    (h1_BadLine : PySem.W.findIn K (.ref C_BadLine) "__getattribute__" = some (some (.builtin "BaseException.__getattribute__"))) (h2_BadLine : PySem.W.findIn K (.ref C_BadLine) "__getattr__" = some none) (h3_BadLine : PySem.W.findIn K (.ref C_BadLine) "__class__" = some (some (.builtin "object.__class__"))) (h4_BadLine : PySem.W.mroIn K C_BadLine (.type "object") = some true)
    (s_BadLine_FloorError : PySem.W.subIn K (.ref C_BadLine) (.ref C_FloorError) = some true) (s_BadLine_ValueError : PySem.W.subIn K (.ref C_BadLine) (.type "ValueError") = some true)
    (s_BadLine_NoCase : PySem.W.subIn K (.ref C_BadLine) (.ref C_NoCase) = some false)
    (n_BadLine_NoCase : (Value.ref C_BadLine == Value.ref C_NoCase) = false)
    (s_BadLine_NoPlan : PySem.W.subIn K (.ref C_BadLine) (.ref C_NoPlan) = some false)
    (n_BadLine_NoPlan : (Value.ref C_BadLine == Value.ref C_NoPlan) = false)
    (s_BadLine_NoFloor : PySem.W.subIn K (.ref C_BadLine) (.ref C_NoFloor) = some false)
    (n_BadLine_NoFloor : (Value.ref C_BadLine == Value.ref C_NoFloor) = false)
    (s_BadLine_BadLine : PySem.W.subIn K (.ref C_BadLine) (.ref C_BadLine) = some true)
    : ∃ fd : FuncData, (∀ (s : Shared) (v : Value), BindsTo s fd ⟨[v], []⟩ [("script", v)]) ∧ ∀ base : Heap, K.In base → base.Ns mainGlobals mg → FnOk P w K mg base (L2.CX P w) 101 fa fd ["script"] (spR K RLaw) := by
  have e := hfa.symm.trans (PySem.W.mg_of X G a15)
  cases e
  have T : Tx K mg C_FloorError C_NoCase C_NoPlan C_NoFloor C_BadLine := ⟨PySem.W.mg_none_of X G z_ValueError, PySem.W.mg_none_of X G z_bool, PySem.W.mg_none_of X G z_int, PySem.W.mg_none_of X G z_isinstance, PySem.W.mg_none_of X G z_len, PySem.W.mg_none_of X G z_str, PySem.W.mg_none_of X G z_tuple, ⟨_, PySem.W.mg_of X G m_FIGURES, ⟨_, rfl⟩⟩, ⟨_, PySem.W.mg_of X G m_MOST_TREE, ⟨_, rfl⟩⟩, ⟨PySem.W.mg_of X G g_FloorError, x_FloorError, kk_FloorError, b_FloorError, t_FloorError⟩, ⟨PySem.W.mg_of X G g_NoCase, x_NoCase, kk_NoCase, b_NoCase, t_NoCase⟩, ⟨PySem.W.mg_of X G g_NoPlan, x_NoPlan, kk_NoPlan, b_NoPlan, t_NoPlan⟩, ⟨PySem.W.mg_of X G g_NoFloor, x_NoFloor, kk_NoFloor, b_NoFloor, t_NoFloor⟩, ⟨PySem.W.mg_of X G g_BadLine, x_BadLine, kk_BadLine, b_BadLine, t_BadLine⟩, ⟨h1_NoCase, h2_NoCase, b_NoCase, hd_NoCase, h3_NoCase, sp_, tk_, h4_NoCase⟩, PySem.W.exm_ref b_FloorError hd_FloorError t_FloorError s_NoCase_FloorError, kit_own hd_NoCase t_NoCase s_NoCase_NoCase (fun h => nomatch h), kit_own hd_NoPlan t_NoPlan s_NoCase_NoPlan (fun _ => n_NoCase_NoPlan), kit_own hd_NoFloor t_NoFloor s_NoCase_NoFloor (fun _ => n_NoCase_NoFloor), kit_own hd_BadLine t_BadLine s_NoCase_BadLine (fun _ => n_NoCase_BadLine), kit_val (by decide +kernel) s_NoCase_ValueError rfl, ⟨h1_NoPlan, h2_NoPlan, b_NoPlan, hd_NoPlan, h3_NoPlan, sp_, tk_, h4_NoPlan⟩, PySem.W.exm_ref b_FloorError hd_FloorError t_FloorError s_NoPlan_FloorError, kit_own hd_NoCase t_NoCase s_NoPlan_NoCase (fun _ => n_NoPlan_NoCase), kit_own hd_NoPlan t_NoPlan s_NoPlan_NoPlan (fun h => nomatch h), kit_own hd_NoFloor t_NoFloor s_NoPlan_NoFloor (fun _ => n_NoPlan_NoFloor), kit_own hd_BadLine t_BadLine s_NoPlan_BadLine (fun _ => n_NoPlan_BadLine), kit_val (by decide +kernel) s_NoPlan_ValueError rfl, ⟨h1_NoFloor, h2_NoFloor, b_NoFloor, hd_NoFloor, h3_NoFloor, sp_, tk_, h4_NoFloor⟩, PySem.W.exm_ref b_FloorError hd_FloorError t_FloorError s_NoFloor_FloorError, kit_own hd_NoCase t_NoCase s_NoFloor_NoCase (fun _ => n_NoFloor_NoCase), kit_own hd_NoPlan t_NoPlan s_NoFloor_NoPlan (fun _ => n_NoFloor_NoPlan), kit_own hd_NoFloor t_NoFloor s_NoFloor_NoFloor (fun h => nomatch h), kit_own hd_BadLine t_BadLine s_NoFloor_BadLine (fun _ => n_NoFloor_BadLine), kit_val (by decide +kernel) s_NoFloor_ValueError rfl, ⟨h1_BadLine, h2_BadLine, b_BadLine, hd_BadLine, h3_BadLine, sp_, tk_, h4_BadLine⟩, PySem.W.exm_ref b_FloorError hd_FloorError t_FloorError s_BadLine_FloorError, kit_own hd_NoCase t_NoCase s_BadLine_NoCase (fun _ => n_BadLine_NoCase), kit_own hd_NoPlan t_NoPlan s_BadLine_NoPlan (fun _ => n_BadLine_NoPlan), kit_own hd_NoFloor t_NoFloor s_BadLine_NoFloor (fun _ => n_BadLine_NoFloor), kit_own hd_BadLine t_BadLine s_BadLine_BadLine (fun h => nomatch h), kit_val (by decide +kernel) s_BadLine_ValueError rfl⟩
  refine ⟨PySem.W.fnOf "law" "law" (defArgs s_law) (defBody s_law) (defScope s_law) .none kV15 dc15 pm15 an15 cd15 ct15, fun s v => .of_eq rfl, fun base _ _ => ?_⟩
  have F_number_at := fun_mk (st := s_number_at) l0 c0 k0
  have M_number_at := PySem.W.mg_of X G a0
  have b_number_at := F_number_at.binds (ps := ["text", "at"]) fun _ _ _ _ _ _ us hl => match us, hl with | [_, _], _ => rfl
  have C_number_at := ok_number_at (P := P) (w := w) (base := base) T  F_number_at M_number_at b_number_at
  have F_sign_at := fun_mk (st := s_sign_at) l1 c1 k1
  have M_sign_at := PySem.W.mg_of X G a1
  have b_sign_at := F_sign_at.binds (ps := ["text", "at", "sign"]) fun _ _ _ _ _ _ us hl => match us, hl with | [_, _, _], _ => rfl
  have C_sign_at := ok_sign_at (P := P) (w := w) (base := base) T  F_sign_at M_sign_at b_sign_at
  have F_tree_at := fun_mk (st := s_tree_at) l2 c2 k2
  have M_tree_at := PySem.W.mg_of X G a2
  have b_tree_at := F_tree_at.binds (ps := ["text", "at"]) fun _ _ _ _ _ _ us hl => match us, hl with | [_, _], _ => rfl
  have C_tree_at := ok_tree_at (P := P) (w := w) (base := base) T C_number_at C_sign_at F_tree_at M_tree_at b_tree_at
  have F_read := fun_mk (st := s_read) l3 c3 k3
  have M_read := PySem.W.mg_of X G a3
  have b_read := F_read.binds (ps := ["text"]) fun _ _ _ _ _ _ us hl => match us, hl with | [_], _ => rfl
  have C_read := ok_read (P := P) (w := w) (base := base) T C_tree_at F_read M_read b_read
  have F_law_cell_at := fun_mk (st := s_law_cell_at) l4 c4 k4
  have M_law_cell_at := PySem.W.mg_of X G a4
  have b_law_cell_at := F_law_cell_at.binds (ps := ["script", "k"]) fun _ _ _ _ _ _ us hl => match us, hl with | [_, _], _ => rfl
  have C_law_cell_at := ok_law_cell_at (P := P) (w := w) (base := base) T  F_law_cell_at M_law_cell_at b_law_cell_at
  have F_law_tree := fun_mk (st := s_law_tree) l6 c6 k6
  have M_law_tree := PySem.W.mg_of X G a6
  have b_law_tree := F_law_tree.binds (ps := ["script", "at", "low", "high", "things"]) fun _ _ _ _ _ _ us hl => match us, hl with | [_, _, _, _, _], _ => rfl
  have C_law_tree := ok_law_tree (P := P) (w := w) (base := base) T C_law_cell_at F_law_tree M_law_tree b_law_tree
  have F_law_which := fun_mk (st := s_law_which) l7 c7 k7
  have M_law_which := PySem.W.mg_of X G a7
  have b_law_which := F_law_which.binds (ps := ["e"]) fun _ _ _ _ _ _ us hl => match us, hl with | [_], _ => rfl
  have C_law_which := ok_law_which (P := P) (w := w) (base := base) T  F_law_which M_law_which b_law_which
  have F_law_text := fun_mk (st := s_law_text) l8 c8 k8
  have M_law_text := PySem.W.mg_of X G a8
  have b_law_text := F_law_text.binds (ps := ["tree"]) fun _ _ _ _ _ _ us hl => match us, hl with | [_], _ => rfl
  have C_law_text := ok_law_text (P := P) (w := w) (base := base) T  F_law_text M_law_text b_law_text
  have F_law_sign_by := fun_mk (st := s_law_sign_by) l9 c9 k9
  have M_law_sign_by := PySem.W.mg_of X G a9
  have b_law_sign_by := F_law_sign_by.binds (ps := ["cell"]) fun _ _ _ _ _ _ us hl => match us, hl with | [_], _ => rfl
  have C_law_sign_by := ok_law_sign_by (P := P) (w := w) (base := base) T  F_law_sign_by M_law_sign_by b_law_sign_by
  have F_law_odd := fun_mk (st := s_law_odd) l10 c10 k10
  have M_law_odd := PySem.W.mg_of X G a10
  have b_law_odd := F_law_odd.binds (ps := ["cell"]) fun _ _ _ _ _ _ us hl => match us, hl with | [_], _ => rfl
  have C_law_odd := ok_law_odd (P := P) (w := w) (base := base) T  F_law_odd M_law_odd b_law_odd
  have F_law_end := fun_mk (st := s_law_end) l11 c11 k11
  have M_law_end := PySem.W.mg_of X G a11
  have b_law_end := F_law_end.binds (ps := ["text", "at"]) fun _ _ _ _ _ _ us hl => match us, hl with | [_, _], _ => rfl
  have C_law_end := ok_law_end (P := P) (w := w) (base := base) T  F_law_end M_law_end b_law_end
  have F_law_due := fun_mk (st := s_law_due) l12 c12 k12
  have M_law_due := PySem.W.mg_of X G a12
  have b_law_due := F_law_due.binds (ps := ["text"]) fun _ _ _ _ _ _ us hl => match us, hl with | [_], _ => rfl
  have C_law_due := ok_law_due (P := P) (w := w) (base := base) T C_law_end F_law_due M_law_due b_law_due
  have F_law_told := fun_mk (st := s_law_told) l13 c13 k13
  have M_law_told := PySem.W.mg_of X G a13
  have b_law_told := F_law_told.binds (ps := ["text"]) fun _ _ _ _ _ _ us hl => match us, hl with | [_], _ => rfl
  have C_law_told := ok_law_told (P := P) (w := w) (base := base) T C_law_which C_read F_law_told M_law_told b_law_told
  have F_law_spoiled := fun_mk (st := s_law_spoiled) l14 c14 k14
  have M_law_spoiled := PySem.W.mg_of X G a14
  have b_law_spoiled := F_law_spoiled.binds (ps := ["text", "cell", "other"]) fun _ _ _ _ _ _ us hl => match us, hl with | [_, _, _], _ => rfl
  have C_law_spoiled := ok_law_spoiled (P := P) (w := w) (base := base) T C_law_sign_by F_law_spoiled M_law_spoiled b_law_spoiled
  have F_law := fun_mk (st := s_law) l15 c15 k15
  exact ok_law (P := P) (w := w) (base := base) T C_law_cell_at C_law_tree C_law_text C_law_spoiled C_law_odd C_law_due C_law_told F_law
end Eg
open PySem PySem.W PyProof.Rows
set_option maxHeartbeats 0 in
theorem PySem.Challenge.cw_eggfloors_k12_texts_refused_holds : PySem.Challenge.rw_eggfloors_k12_texts_refused.Holds := by
  w_on; o_law; k_head; (case hw => w_witness2)
  k_fill
  refine Eg.walkE (l := PySem.Challenge.rw_eggfloors_k12_texts_refused) (k := 101) rfl rfl ⟨rfl, by decide, by decide⟩ (fun w h Y => PySem.W.kIn_of Y) ?F
  case F =>
    intro w mg fa h KX G hmg
    refine' Eg.all_mk KX G hmg ?a0 ?l0 ?c0 ?k0 ?a1 ?l1 ?c1 ?k1 ?a2 ?l2 ?c2 ?k2 ?a3 ?l3 ?c3 ?k3 ?a4 ?l4 ?c4 ?k4 ?a6 ?l6 ?c6 ?k6 ?a7 ?l7 ?c7 ?k7 ?a8 ?l8 ?c8 ?k8 ?a9 ?l9 ?c9 ?k9 ?a10 ?l10 ?c10 ?k10 ?a11 ?l11 ?c11 ?k11 ?a12 ?l12 ?c12 ?k12 ?a13 ?l13 ?c13 ?k13 ?a14 ?l14 ?c14 ?k14 ?a15 ?l15 ?c15 ?k15 ?z_ValueError ?z_bool ?z_int ?z_isinstance ?z_len ?z_str ?z_tuple ?m_FIGURES ?m_MOST_TREE ?g_FloorError ?x_FloorError ?kk_FloorError ?b_FloorError ?t_FloorError ?g_NoCase ?x_NoCase ?kk_NoCase ?b_NoCase ?t_NoCase ?g_NoPlan ?x_NoPlan ?kk_NoPlan ?b_NoPlan ?t_NoPlan ?g_NoFloor ?x_NoFloor ?kk_NoFloor ?b_NoFloor ?t_NoFloor ?g_BadLine ?x_BadLine ?kk_BadLine ?b_BadLine ?t_BadLine ?sp_ ?tk_ ?hd_FloorError ?hd_NoCase ?hd_NoPlan ?hd_NoFloor ?hd_BadLine ?h1_NoCase ?h2_NoCase ?h3_NoCase ?h4_NoCase ?s_NoCase_FloorError ?s_NoCase_ValueError ?s_NoCase_NoCase ?s_NoCase_NoPlan ?n_NoCase_NoPlan ?s_NoCase_NoFloor ?n_NoCase_NoFloor ?s_NoCase_BadLine ?n_NoCase_BadLine ?h1_NoPlan ?h2_NoPlan ?h3_NoPlan ?h4_NoPlan ?s_NoPlan_FloorError ?s_NoPlan_ValueError ?s_NoPlan_NoCase ?n_NoPlan_NoCase ?s_NoPlan_NoPlan ?s_NoPlan_NoFloor ?n_NoPlan_NoFloor ?s_NoPlan_BadLine ?n_NoPlan_BadLine ?h1_NoFloor ?h2_NoFloor ?h3_NoFloor ?h4_NoFloor ?s_NoFloor_FloorError ?s_NoFloor_ValueError ?s_NoFloor_NoCase ?n_NoFloor_NoCase ?s_NoFloor_NoPlan ?n_NoFloor_NoPlan ?s_NoFloor_NoFloor ?s_NoFloor_BadLine ?n_NoFloor_BadLine ?h1_BadLine ?h2_BadLine ?h3_BadLine ?h4_BadLine ?s_BadLine_FloorError ?s_BadLine_ValueError ?s_BadLine_NoCase ?n_BadLine_NoCase ?s_BadLine_NoPlan ?n_BadLine_NoPlan ?s_BadLine_NoFloor ?n_BadLine_NoFloor ?s_BadLine_BadLine
    (case g_FloorError => k_is)
    (case g_NoCase => k_is)
    (case g_NoPlan => k_is)
    (case g_NoFloor => k_is)
    (case g_BadLine => k_is)
    (case a0 => k_is)
    (case l0 => k_is)
    (case c0 => k_is)
    (case k0 => k_is)
    (case a1 => k_is)
    (case l1 => k_is)
    (case c1 => k_is)
    (case k1 => k_is)
    (case a2 => k_is)
    (case l2 => k_is)
    (case c2 => k_is)
    (case k2 => k_is)
    (case a3 => k_is)
    (case l3 => k_is)
    (case c3 => k_is)
    (case k3 => k_is)
    (case a4 => k_is)
    (case l4 => k_is)
    (case c4 => k_is)
    (case k4 => k_is)
    (case a6 => k_is)
    (case l6 => k_is)
    (case c6 => k_is)
    (case k6 => k_is)
    (case a7 => k_is)
    (case l7 => k_is)
    (case c7 => k_is)
    (case k7 => k_is)
    (case a8 => k_is)
    (case l8 => k_is)
    (case c8 => k_is)
    (case k8 => k_is)
    (case a9 => k_is)
    (case l9 => k_is)
    (case c9 => k_is)
    (case k9 => k_is)
    (case a10 => k_is)
    (case l10 => k_is)
    (case c10 => k_is)
    (case k10 => k_is)
    (case a11 => k_is)
    (case l11 => k_is)
    (case c11 => k_is)
    (case k11 => k_is)
    (case a12 => k_is)
    (case l12 => k_is)
    (case c12 => k_is)
    (case k12 => k_is)
    (case a13 => k_is)
    (case l13 => k_is)
    (case c13 => k_is)
    (case k13 => k_is)
    (case a14 => k_is)
    (case l14 => k_is)
    (case c14 => k_is)
    (case k14 => k_is)
    (case a15 => k_is)
    (case l15 => k_is)
    (case c15 => k_is)
    (case k15 => k_is)
    (case z_ValueError => k_is)
    (case z_bool => k_is)
    (case z_int => k_is)
    (case z_isinstance => k_is)
    (case z_len => k_is)
    (case z_str => k_is)
    (case z_tuple => k_is)
    (case m_FIGURES => k_is)
    (case m_MOST_TREE => k_is)
    (case x_FloorError => k_exc)
    (case kk_FloorError => k_is)
    (case b_FloorError => k_is)
    (case t_FloorError => k_is)
    (case x_NoCase => k_exc)
    (case kk_NoCase => k_is)
    (case b_NoCase => k_is)
    (case t_NoCase => k_is)
    (case x_NoPlan => k_exc)
    (case kk_NoPlan => k_is)
    (case b_NoPlan => k_is)
    (case t_NoPlan => k_is)
    (case x_NoFloor => k_exc)
    (case kk_NoFloor => k_is)
    (case b_NoFloor => k_is)
    (case t_NoFloor => k_is)
    (case x_BadLine => k_exc)
    (case kk_BadLine => k_is)
    (case b_BadLine => k_is)
    (case t_BadLine => k_is)
    (case sp_ => k_is)
    (case tk_ => k_is)
    (case hd_FloorError => k_is)
    (case hd_NoCase => k_is)
    (case hd_NoPlan => k_is)
    (case hd_NoFloor => k_is)
    (case hd_BadLine => k_is)
    (case h1_NoCase => k_is)
    (case h2_NoCase => k_is)
    (case h3_NoCase => k_is)
    (case h4_NoCase => k_is)
    (case s_NoCase_FloorError => k_is)
    (case s_NoCase_ValueError => k_is)
    (case s_NoCase_NoCase => k_is)
    (case s_NoCase_NoPlan => k_is)
    (case n_NoCase_NoPlan => rfl)
    (case s_NoCase_NoFloor => k_is)
    (case n_NoCase_NoFloor => rfl)
    (case s_NoCase_BadLine => k_is)
    (case n_NoCase_BadLine => rfl)
    (case h1_NoPlan => k_is)
    (case h2_NoPlan => k_is)
    (case h3_NoPlan => k_is)
    (case h4_NoPlan => k_is)
    (case s_NoPlan_FloorError => k_is)
    (case s_NoPlan_ValueError => k_is)
    (case s_NoPlan_NoCase => k_is)
    (case n_NoPlan_NoCase => rfl)
    (case s_NoPlan_NoPlan => k_is)
    (case s_NoPlan_NoFloor => k_is)
    (case n_NoPlan_NoFloor => rfl)
    (case s_NoPlan_BadLine => k_is)
    (case n_NoPlan_BadLine => rfl)
    (case h1_NoFloor => k_is)
    (case h2_NoFloor => k_is)
    (case h3_NoFloor => k_is)
    (case h4_NoFloor => k_is)
    (case s_NoFloor_FloorError => k_is)
    (case s_NoFloor_ValueError => k_is)
    (case s_NoFloor_NoCase => k_is)
    (case n_NoFloor_NoCase => rfl)
    (case s_NoFloor_NoPlan => k_is)
    (case n_NoFloor_NoPlan => rfl)
    (case s_NoFloor_NoFloor => k_is)
    (case s_NoFloor_BadLine => k_is)
    (case n_NoFloor_BadLine => rfl)
    (case h1_BadLine => k_is)
    (case h2_BadLine => k_is)
    (case h3_BadLine => k_is)
    (case h4_BadLine => k_is)
    (case s_BadLine_FloorError => k_is)
    (case s_BadLine_ValueError => k_is)
    (case s_BadLine_NoCase => k_is)
    (case n_BadLine_NoCase => rfl)
    (case s_BadLine_NoPlan => k_is)
    (case n_BadLine_NoPlan => rfl)
    (case s_BadLine_NoFloor => k_is)
    (case n_BadLine_NoFloor => rfl)
    (case s_BadLine_BadLine => k_is)
