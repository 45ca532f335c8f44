import PyProof.Rows.All
import Wide.All
import OpenK.AllK
import Wide.FinOn
import HandS.ForMost
import HandS.Exc
import HandS.TryOnly
import HandS.ExcOwn
import HandS.WordsExc
import HandS.Evl
import HandS.IsInst
import HandS.Deep
import HandS.Conv
import HandS.HotCalls
import HandS.ExcIs
import PySem.Challenge.RW_eggfloors_k13_each_refusal_its_own
set_option Elab.async false
set_option linter.all false
set_option maxRecDepth 100000
set_option maxHeartbeats 4000000
/-! Values as data, and the defs of a program as functions of data. -/
namespace Eg
open PySem PySem.Spec PyProof.Rows L2
open Evl (Ex fresh_back ex_l ex_t ex_rd)

/-! ### data under a growing heap -/
mutual
theorem dpM {K : PySem.W.Frag} {H H' : Hp} (e : Ex H H') : ∀ {v : V} {d : PyData}, Dp K H v d → Dp K H' v d
  | _, _, .non => .non
  | _, _, .bl b => .bl b
  | _, _, .int i => .int i
  | _, _, .str x => .str x
  | _, _, .lst hs ha => .lst (ex_l e hs) (dpsM e ha)
  | _, _, .tup hs ha => .tup (ex_t e hs) (dpsM e ha)
theorem dpsM {K : PySem.W.Frag} {H H' : Hp} (e : Ex H H') : ∀ {vs : List V} {ds : List PyData}, DpAll K H vs ds → DpAll K H' vs ds
  | _, _, .nil => .nil
  | _, _, .cons h t => .cons (dpM e h) (dpsM e t)
end
theorem dps_len {K : PySem.W.Frag} {H : Hp} : ∀ {vs : List V} {ds : List PyData}, DpAll K H vs ds → vs.length = ds.length
  | _, _, .nil => rfl
  | _, _, .cons _ t => congrArg Nat.succ (dps_len t)
theorem dps_get {K : PySem.W.Frag} {H : Hp} : ∀ {vs : List V} {ds : List PyData}, DpAll K H vs ds → ∀ {i : Nat} {d : PyData}, ds[i]? = some d → ∃ v, vs[i]? = some v ∧ Dp K H v d
  | _, _, .nil, i, d, h => by simp at h
  | _, _, .cons h t, 0, d, e => by
    simp at e
    subst e
    exact ⟨_, rfl, h⟩
  | _, _, .cons h t, i + 1, d, e => by
    obtain ⟨v, e1, e2⟩ := dps_get t (i := i) (d := d) (by simpa using e)
    exact ⟨v, by simpa using e1, e2⟩
theorem dps_app {K : PySem.W.Frag} {H : Hp} : ∀ {vs ws : List V} {ds es : List PyData}, DpAll K H vs ds → DpAll K H ws es → DpAll K H (vs ++ ws) (ds ++ es)
  | _, _, _, _, .nil, s => s
  | _, _, _, _, .cons h t, s => .cons h (dps_app t s)
theorem dps_flat {K : PySem.W.Frag} {H : Hp} {vs : List V} {ds : List PyData} (h : DpAll K H vs ds) : ∀ n : Nat, DpAll K H (List.replicate n vs).flatten (List.replicate n ds).flatten
  | 0 => .nil
  | n + 1 => by
    rw [List.replicate_succ, List.replicate_succ, List.flatten_cons, List.flatten_cons]
    exact dps_app h (dps_flat h n)
theorem dps_ints {K : PySem.W.Frag} {H : Hp} : ∀ {vs : List V} {ns : List Int}, DpAll K H vs (ns.map PyData.int) → vs = ns.map V.int
  | _, [], h => by cases h; rfl
  | _, n :: ns, h => by
    cases h with
    | cons h1 h2 =>
      cases h1
      rw [dps_ints h2] <;> rfl
theorem dps_of_ints {K : PySem.W.Frag} {H : Hp} : ∀ (ns : List Int), DpAll K H (ns.map V.int) (ns.map PyData.int)
  | [] => .nil
  | n :: ns => .cons (.int n) (dps_of_ints ns)
theorem dps_at {K : PySem.W.Frag} {H : Hp} {vs : List V} {ds : List PyData} (h : DpAll K H vs ds) {i : Int} {d : PyData} (e : atI ds i = some d) : ∃ v, atI vs i = some v ∧ Dp K H v d := by
  unfold atI at e ⊢
  rw [dps_len h]
  cases q : ixN ds.length i with
  | none => rw [q] at e; cases e
  | some j =>
    rw [q] at e
    exact dps_get h (show ds[j]? = some d from e)

/-! ### what a step of the walk leaves: B the heap of the data, H the whole -/
structure Step (B H B' H' : Hp) : Prop where
  d : Ex B B'
  h : Ex H H'
  dh : Ex B' H'
  fr : ∀ a, H a ≠ none → B a = none → B' a = none
theorem Step.refl {B H : Hp} (e : Ex B H) : Step B H B H := ⟨Ex.refl B, Ex.refl H, e, fun _ _ h => h⟩
theorem ex_some {H H' : Hp} (e : Ex H H') {a : Addr} (h : H a ≠ none) : H' a ≠ none := by
  cases q : H a with
  | none => exact absurd q h
  | some o => rw [e a o q]; exact fun z => nomatch z
theorem Step.trans {B H B1 H1 B2 H2 : Hp} (s : Step B H B1 H1) (t : Step B1 H1 B2 H2) : Step B H B2 H2 :=
  ⟨s.d.trans t.d, s.h.trans t.h, t.dh, fun a h n => t.fr a (ex_some s.h h) (s.fr a h n)⟩
theorem none_of {B H : Hp} (e : Ex B H) {p : Addr} (h : H p = none) : B p = none := fresh_back e h
/-- a new thing of the data -/
theorem Step.dat {B H : Hp} (e : Ex B H) {p : Addr} (h : H p = none) (o : HO) : Step B H (upd B p o) (upd H p o) := by
  refine ⟨Ex.new (none_of e h), Ex.new h, fun a u q => ?_, fun a ha hb => ?_⟩
  · by_cases z : a = p
    · subst z; rw [upd_same] at q ⊢; exact q
    · rw [upd_ne z] at q ⊢; exact e a u q
  · rw [upd_ne (fun z => ha (by rw [z]; exact h))]
    exact hb
/-- a new list of one's own -/
theorem Step.own {B H : Hp} (e : Ex B H) {p : Addr} (h : H p = none) (o : HO) : Step B H B (upd H p o) :=
  ⟨Ex.refl B, Ex.new h, fun a u q => by rw [upd_ne (ne_of_none (e a u q) h)]; exact e a u q, fun _ _ n => n⟩
/-- it becomes data -/
theorem Step.frz {B H B1 H1 : Hp} (s : Step B H B1 H1) {p : Addr} {o : HO} (h0 : H p = none) (hb : B1 p = none) (h1 : H1 p = some o) : Step B H (upd B1 p o) H1 := by
  refine ⟨s.d.trans (Ex.new hb), s.h, fun a u q => ?_, fun a ha hn => ?_⟩
  · by_cases z : a = p
    · subst z; rw [upd_same] at q; rw [h1]; exact q
    · rw [upd_ne z] at q; exact s.dh a u q
  · rw [upd_ne (fun z => ha (by rw [z]; exact h0))]
    exact s.fr a ha hn

/-- what an expression comes to: data; a new list of one's own; a list of one's own that a name holds; an error of the class at C -/
inductive Rs where
  | ok (d : PyData)
  | new (ds : List PyData)
  | ali (ds : List PyData)
  | exc (C : Addr)
/-- v is r, in the heaps B, H1; H the heap at the start -/
def Vok (K : PySem.W.Frag) (H B H1 : Hp) (v : V) : Rs → Prop
  | .ok d => Dp K B v d
  | .new ds => ∃ a xs, v = .ref a ∧ H a = none ∧ B a = none ∧ H1 a = some (.lst xs) ∧ DpAll K B xs ds
  | .ali ds => ∃ a xs, v = .ref a ∧ H1 a = some (.lst xs) ∧ DpAll K B xs ds
  | .exc _ => False
theorem Vok.mono {K : PySem.W.Frag} {H B H1 B' H' : Hp} {v : V} (s : Step B H1 B' H') : ∀ {r : Rs}, Vok K H B H1 v r → Vok K H B' H' v r
  | .ok _, h => dpM s.d h
  | .new _, ⟨a, xs, e, h0, hb, h1, hd⟩ => ⟨a, xs, e, h0, s.fr a (by rw [h1]; exact fun z => nomatch z) hb, s.h a _ h1, dpsM s.d hd⟩
  | .ali _, ⟨a, xs, e, h1, hd⟩ => ⟨a, xs, e, s.h a _ h1, dpsM s.d hd⟩
theorem Vok.back {K : PySem.W.Frag} {H0 H B H1 : Hp} {v : V} (e : Ex H0 H) : ∀ {r : Rs}, Vok K H B H1 v r → Vok K H0 B H1 v r
  | .ok _, h => h
  | .new _, ⟨a, xs, e1, h0, r⟩ => ⟨a, xs, e1, fresh_back e h0, r⟩
  | .ali _, h => h

/-! ### the names of a frame -/
inductive Cl where
  | dat (d : PyData)
  | own (ds : List PyData)
  | fix (v : V)
abbrev Rho := List (Option Cl)
structure Sl (K : PySem.W.Frag) (H0 B H : Hp) (σ : L2.St) (ρ : Rho) : Prop where
  len : σ.length = ρ.length
  dat : ∀ (i : Nat) (d : PyData), ρ[i]? = some (some (.dat d)) → ∃ v, σ[i]? = some (some v) ∧ Dp K B v d
  own : ∀ (i : Nat) (ds : List PyData), ρ[i]? = some (some (.own ds)) → ∃ a xs, σ[i]? = some (some (.ref a)) ∧ H0 a = none ∧ B a = none ∧ H a = some (.lst xs) ∧ DpAll K B xs ds
  sep : ∀ (i j : Nat) (di dj : List PyData), i ≠ j → ρ[i]? = some (some (.own di)) → ρ[j]? = some (some (.own dj)) → σ[i]? ≠ σ[j]?
  fix : ∀ (i : Nat) (v : V), ρ[i]? = some (some (.fix v)) → σ[i]? = some (some v)
theorem Sl.mono {K : PySem.W.Frag} {H0 B H B' H' : Hp} {σ : L2.St} {ρ : Rho} (s : Sl K H0 B H σ ρ) (t : Step B H B' H') : Sl K H0 B' H' σ ρ where
  len := s.len
  dat := fun i d h => by
    obtain ⟨v, e, q⟩ := s.dat i d h
    exact ⟨v, e, dpM t.d q⟩
  own := fun i ds h => by
    obtain ⟨a, xs, e, h0, hb, h1, q⟩ := s.own i ds h
    exact ⟨a, xs, e, h0, t.fr a (by rw [h1]; exact fun z => nomatch z) hb, t.h a _ h1, dpsM t.d q⟩
  sep := s.sep
  fix := s.fix
theorem set_get {α : Type} {l : List (Option α)} {i j : Nat} {x : Option α} {y : α} (h : (l.set i x)[j]? = some (some y)) : (i = j ∧ x = some y) ∨ (i ≠ j ∧ l[j]? = some (some y)) := by
  by_cases e : i = j
  · subst e
    by_cases hi : i < l.length
    · rw [List.getElem?_set_self hi] at h
      exact .inl ⟨rfl, Option.some.inj h⟩
    · rw [List.getElem?_eq_none (by simpa using hi)] at h
      cases h
  · rw [List.getElem?_set_ne e] at h
    exact .inr ⟨e, h⟩
theorem lt_of_get {α : Type} {l : List (Option α)} {j : Nat} {y : Option α} (h : l[j]? = some y) : j < l.length := by
  obtain ⟨q, _⟩ := List.getElem?_eq_some_iff.mp h
  exact q
theorem set_lt {α : Type} {l : List (Option α)} {i j : Nat} {x : Option α} {y : α} (h : (l.set i x)[j]? = some (some y)) : j < l.length := by
  have q := lt_of_get h
  simpa using q
/-- a name is given data -/
theorem Sl.setD {K : PySem.W.Frag} {H0 B H : Hp} {σ : L2.St} {ρ : Rho} (s : Sl K H0 B H σ ρ) (i : Nat) {v : V} {d : PyData} (hv : Dp K B v d) : Sl K H0 B H (σ.set i (some v)) (ρ.set i (some (.dat d))) where
  len := by rw [List.length_set, List.length_set, s.len]
  dat := fun j e h => by
    rcases set_get h with ⟨rfl, q⟩ | ⟨n, q⟩
    · cases q
      have hl := set_lt h
      rw [← s.len] at hl
      exact ⟨v, List.getElem?_set_self hl, hv⟩
    · rw [List.getElem?_set_ne n]
      exact s.dat j e q
  own := fun j ds h => by
    rcases set_get h with ⟨rfl, q⟩ | ⟨n, q⟩
    · cases q
    · rw [List.getElem?_set_ne n]
      exact s.own j ds q
  sep := fun j k dj dk hjk hj hk => by
    rcases set_get hj with ⟨rfl, q⟩ | ⟨n, q⟩
    · cases q
    · rcases set_get hk with ⟨rfl, q'⟩ | ⟨n', q'⟩
      · cases q'
      · rw [List.getElem?_set_ne n, List.getElem?_set_ne n']
        exact s.sep j k dj dk hjk q q'
  fix := fun j u h => by
    rcases set_get h with ⟨rfl, q⟩ | ⟨n, q⟩
    · cases q
    · rw [List.getElem?_set_ne n]
      exact s.fix j u q
/-- a name is given a list of its own -/
theorem Sl.setN {K : PySem.W.Frag} {H0 B H : Hp} {σ : L2.St} {ρ : Rho} (s : Sl K H0 B H σ ρ) (i : Nat) {a : Addr} {xs : List V} {ds : List PyData} (h0 : H0 a = none) (hb : B a = none) (h1 : H a = some (.lst xs)) (hd : DpAll K B xs ds)
    (nw : ∀ (j : Nat) (dj : List PyData), ρ[j]? = some (some (.own dj)) → σ[j]? ≠ some (some (.ref a))) : Sl K H0 B H (σ.set i (some (.ref a))) (ρ.set i (some (.own ds))) where
  len := by rw [List.length_set, List.length_set, s.len]
  dat := fun j e h => by
    rcases set_get h with ⟨rfl, q⟩ | ⟨n, q⟩
    · cases q
    · rw [List.getElem?_set_ne n]
      exact s.dat j e q
  own := fun j es h => by
    rcases set_get h with ⟨rfl, q⟩ | ⟨n, q⟩
    · cases q
      have hl := set_lt h
      rw [← s.len] at hl
      exact ⟨a, xs, List.getElem?_set_self hl, h0, hb, h1, hd⟩
    · rw [List.getElem?_set_ne n]
      exact s.own j es q
  sep := fun j k dj dk hjk hj hk => by
    rcases set_get hj with ⟨rfl, q⟩ | ⟨n, q⟩
    · rcases set_get hk with ⟨rfl, q'⟩ | ⟨n', q'⟩
      · exact absurd rfl hjk
      · have hl := set_lt hj
        rw [← s.len] at hl
        rw [List.getElem?_set_self hl, List.getElem?_set_ne n']
        exact fun z => nw k dk q' z.symm
    · rcases set_get hk with ⟨rfl, q'⟩ | ⟨n', q'⟩
      · have hl := set_lt hk
        rw [← s.len] at hl
        rw [List.getElem?_set_self hl, List.getElem?_set_ne n]
        exact nw j dj q
      · rw [List.getElem?_set_ne n, List.getElem?_set_ne n']
        exact s.sep j k dj dk hjk q q'
  fix := fun j u h => by
    rcases set_get h with ⟨rfl, q⟩ | ⟨n, q⟩
    · cases q
    · rw [List.getElem?_set_ne n]
      exact s.fix j u q
/-- a name is forgotten -/
theorem Sl.forget {K : PySem.W.Frag} {H0 B H : Hp} {σ : L2.St} {ρ : Rho} (s : Sl K H0 B H σ ρ) (i : Nat) {x : Option V} : Sl K H0 B H (σ.set i x) (ρ.set i none) where
  len := by rw [List.length_set, List.length_set, s.len]
  dat := fun j e h => by
    rcases set_get h with ⟨rfl, q⟩ | ⟨n, q⟩
    · cases q
    · rw [List.getElem?_set_ne n]
      exact s.dat j e q
  own := fun j ds h => by
    rcases set_get h with ⟨rfl, q⟩ | ⟨n, q⟩
    · cases q
    · rw [List.getElem?_set_ne n]
      exact s.own j ds q
  sep := fun j k dj dk hjk hj hk => by
    rcases set_get hj with ⟨rfl, q⟩ | ⟨n, q⟩
    · cases q
    · rcases set_get hk with ⟨rfl, q'⟩ | ⟨n', q'⟩
      · cases q'
      · rw [List.getElem?_set_ne n, List.getElem?_set_ne n']
        exact s.sep j k dj dk hjk q q'
  fix := fun j u h => by
    rcases set_get h with ⟨rfl, q⟩ | ⟨n, q⟩
    · cases q
    · rw [List.getElem?_set_ne n]
      exact s.fix j u q
def wipeR (ρ : Rho) : List Nat → Rho
  | [] => ρ
  | v :: vs => (wipeR ρ vs).set v none
theorem Sl.wipe {K : PySem.W.Frag} {H0 B H : Hp} {σ : L2.St} {ρ : Rho} (s : Sl K H0 B H σ ρ) : ∀ vs : List Nat, Sl K H0 B H (L2.wipe σ vs) (wipeR ρ vs)
  | [] => s
  | v :: vs => (Sl.wipe s vs).forget v
/-- the own list in slot i becomes data -/
theorem Sl.freeze {K : PySem.W.Frag} {H0 B H : Hp} {σ : L2.St} {ρ : Rho} (s : Sl K H0 B H σ ρ) {i : Nat} {ds : List PyData} (hi : ρ[i]? = some (some (.own ds))) {a : Addr} {xs : List V} (ha : σ[i]? = some (some (.ref a))) (hb : B a = none) (h1 : H a = some (.lst xs)) (hd : DpAll K B xs ds) :
    Sl K H0 (upd B a (.lst xs)) H σ (ρ.set i (some (.dat (.list ds)))) where
  len := by rw [List.length_set, s.len]
  dat := fun j e h => by
    have ex : Ex B (upd B a (.lst xs)) := Ex.new hb
    rcases set_get h with ⟨rfl, q⟩ | ⟨n, q⟩
    · cases q
      exact ⟨.ref a, ha, .lst (.inl (.inl upd_same)) (dpsM ex hd)⟩
    · obtain ⟨v, e1, e2⟩ := s.dat j e q
      exact ⟨v, e1, dpM ex e2⟩
  own := fun j es h => by
    have ex : Ex B (upd B a (.lst xs)) := Ex.new hb
    rcases set_get h with ⟨rfl, q⟩ | ⟨n, q⟩
    · cases q
    · obtain ⟨b, ys, e1, e2, e3, e4, e5⟩ := s.own j es q
      refine ⟨b, ys, e1, e2, ?_, e4, dpsM ex e5⟩
      rw [upd_ne (fun z => ?_)]
      · exact e3
      · subst z
        exact s.sep i j ds es n hi q (by rw [ha, e1])
  sep := fun j k dj dk hjk hj hk => by
    rcases set_get hj with ⟨rfl, q⟩ | ⟨n, q⟩
    · cases q
    · rcases set_get hk with ⟨rfl, q'⟩ | ⟨n', q'⟩
      · cases q'
      · exact s.sep j k dj dk hjk q q'
  fix := fun j u h => by
    rcases set_get h with ⟨rfl, q⟩ | ⟨n, q⟩
    · cases q
    · exact s.fix j u q
/-- an item is put behind the own list in slot i -/
theorem Sl.push {K : PySem.W.Frag} {H0 B H : Hp} {σ : L2.St} {ρ : Rho} (s : Sl K H0 B H σ ρ) {i : Nat} {ds : List PyData} (hi : ρ[i]? = some (some (.own ds))) {a : Addr} {xs : List V} {v : V} {d : PyData} (ha : σ[i]? = some (some (.ref a))) (h0 : H0 a = Option.none) (hb : B a = Option.none) (hd : DpAll K B xs ds) (hv : Dp K B v d) :
    Sl K H0 B (upd H a (.lst (xs ++ [v]))) σ (ρ.set i (some (.own (ds ++ [d])))) where
  len := by rw [List.length_set, s.len]
  dat := fun j e h => by
    rcases set_get h with ⟨rfl, q⟩ | ⟨n, q⟩
    · cases q
    · exact s.dat j e q
  own := fun j es h => by
    rcases set_get h with ⟨rfl, q⟩ | ⟨n, q⟩
    · cases q
      exact ⟨a, _, ha, h0, hb, upd_same, dps_app hd (.cons hv .nil)⟩
    · obtain ⟨b, ys, e1, e2, e3, e4, e5⟩ := s.own j es q
      refine ⟨b, ys, e1, e2, e3, ?_, e5⟩
      rw [upd_ne (fun z => ?_)]
      · exact e4
      · subst z
        exact s.sep i j ds es n hi q (by rw [ha, e1])
  sep := fun j k dj dk hjk hj hk => by
    have inv : ∀ {m : Nat} {dm : List PyData}, (ρ.set i (some (Cl.own (ds ++ [d]))))[m]? = some (some (.own dm)) → ∃ dm', ρ[m]? = some (some (.own dm')) := fun {m dm} h => by
      rcases set_get h with ⟨rfl, _⟩ | ⟨_, q⟩
      · exact ⟨ds, hi⟩
      · exact ⟨dm, q⟩
    obtain ⟨dj', qj⟩ := inv hj
    obtain ⟨dk', qk⟩ := inv hk
    exact s.sep j k dj' dk' hjk qj qk
  fix := fun j u h => by
    rcases set_get h with ⟨rfl, q⟩ | ⟨n, q⟩
    · cases q
    · exact s.fix j u q
/-- less known -/
theorem Sl.weak {K : PySem.W.Frag} {H0 B H : Hp} {σ : L2.St} {ρ ρ' : Rho} (s : Sl K H0 B H σ ρ) (hl : ρ'.length = ρ.length) (hw : ∀ (i : Nat) c, ρ'[i]? = some (some c) → ρ[i]? = some (some c)) : Sl K H0 B H σ ρ' where
  len := by rw [hl, s.len]
  dat := fun i d h => s.dat i d (hw i _ h)
  own := fun i ds h => s.own i ds (hw i _ h)
  sep := fun i j di dj hij h1 h2 => s.sep i j di dj hij (hw i _ h1) (hw j _ h2)
  fix := fun i v h => s.fix i v (hw i _ h)

/-! ### expressions -/
structure Fin (K : PySem.W.Frag) (E : XK) (B H : Hp) (r : Rs) (Q : VK) : Prop where
  go : ∀ v B' H', Step B H B' H' → Vok K H B' H' v r → Q v H'
  up : ∀ C, r = .exc C → ∀ B' H', Step B H B' H' → ∀ d, d = none → E (.ref C) d H'
def GE (K : PySem.W.Frag) (E : XK) (te : TE) (ρ : Rho) (r : Rs) : Prop := ∀ H0 B H σ, Ex B H → Sl K H0 B H σ ρ → ∀ Q, Fin K E B H r Q → te σ H Q
def GA (K : PySem.W.Frag) (E : XK) (ta : TA) (ρ : Rho) (ds : List PyData) : Prop := ∀ H0 B H σ, Ex B H → Sl K H0 B H σ ρ → ∀ Q : List V → Hp → Prop, (∀ vs B' H', Step B H B' H' → DpAll K B' vs ds → Q vs H') → ta σ H Q
/-- an argument raises -/
def GAx (K : PySem.W.Frag) (E : XK) (ta : TA) (ρ : Rho) (C : Addr) : Prop := ∀ H0 B H σ, Ex B H → Sl K H0 B H σ ρ → ∀ Q : List V → Hp → Prop, (∀ B' H', Step B H B' H' → ∀ d, d = none → E (.ref C) d H') → ta σ H Q
def GT (K : PySem.W.Frag) (E : XK) (tc : TT) (ρ : Rho) (b : Bool) : Prop := ∀ H0 B H σ, Ex B H → Sl K H0 B H σ ρ → ∀ Q : Bool → Hp → Prop, (∀ B' H', Step B H B' H' → Q b H') → tc σ H Q
section
variable {K : PySem.W.Frag} {E : XK} {B H : Hp} {Q : VK} {ρ : Rho} {ta tb te : TE} {x y z d : PyData} {ds es : List PyData} {r : Rs}
theorem fin_ok (h : ∀ v B' H', Step B H B' H' → Dp K B' v d → Q v H') : Fin K E B H (.ok d) Q := ⟨h, fun _ e => nomatch e⟩
theorem fin_new (h : ∀ v B' H', Step B H B' H' → Vok K H B' H' v (.new ds) → Q v H') : Fin K E B H (.new ds) Q := ⟨h, fun _ e => nomatch e⟩
theorem fin_ali (h : ∀ v B' H', Step B H B' H' → Vok K H B' H' v (.ali ds) → Q v H') : Fin K E B H (.ali ds) Q := ⟨h, fun _ e => nomatch e⟩
theorem fin_exc {C : Addr} (h : ∀ B' H', Step B H B' H' → ∀ d, d = none → E (.ref C) d H') : Fin K E B H (.exc C) Q := ⟨fun _ _ _ _ f => f.elim, fun C' e B' H' s d => by cases e; exact h B' H' s d⟩
theorem Fin.back {B1 H1 : Hp} (s : Step B H B1 H1) (q : Fin K E B H r Q) : Fin K E B1 H1 r Q :=
  ⟨fun v B' H' t f => q.go v B' H' (s.trans t) (f.back s.h), fun C e B' H' t d => q.up C e B' H' (s.trans t) d⟩
theorem GE.var {i : Nat} (h : ρ[i]? = some (some (.dat d))) : GE K E (tVar i) ρ (.ok d) := fun H0 B H σ bh s Q q => by
  obtain ⟨v, e, f⟩ := s.dat i d h
  exact ⟨v, e, q.go v B H (.refl bh) f⟩
theorem GE.own {i : Nat} (h : ρ[i]? = some (some (.own ds))) : GE K E (tVar i) ρ (.ali ds) := fun H0 B H σ bh s Q q => by
  obtain ⟨a, xs, e, h0, hb, h1, f⟩ := s.own i ds h
  exact ⟨.ref a, e, q.go _ B H (.refl bh) ⟨a, xs, rfl, h1, f⟩⟩
theorem GE.c {v : V} (h : ∀ B, Dp K B v d) : GE K E (tC v) ρ (.ok d) := fun H0 B H σ bh s Q q => q.go v B H (.refl bh) (h B)
theorem GE.int {i : Int} : GE K E (tC (.int i)) ρ (.ok (.int i)) := GE.c fun _ => .int i
theorem GE.str {x : Str} : GE K E (tC (.str x)) ρ (.ok (.str x)) := GE.c fun _ => .str x
theorem GE.bool {b : Bool} : GE K E (tC (.bl b)) ρ (.ok (.bool b)) := GE.c fun _ => .bl b
theorem GE.non : GE K E (tC .non) ρ (.ok .none) := GE.c fun _ => .non
/-- a new list becomes data -/
theorem GE.frz (h : GE K E te ρ (.new ds)) : GE K E te ρ (.ok (.list ds)) := fun H0 B H σ bh s Q q => h H0 B H σ bh s Q (fin_new fun v B' H' t f => by
  obtain ⟨a, xs, rfl, h0, hb, h1, hd⟩ := f
  exact q.go _ _ H' (t.frz h0 hb h1) (.lst (.inl (.inl upd_same)) (dpsM (Ex.new hb) hd)))
/-- two values by a rule that makes nothing -/
def RD (K : PySem.W.Frag) (r : R2) (x y z : PyData) : Prop := ∀ B v w, Dp K B v x → Dp K B w y → ∀ H, Ex B H → ∀ Q : VK, (∀ u, Dp K B u z → Q u H) → r v w H Q
theorem GE.op {r : R2} (ha : GE K E ta ρ (.ok x)) (hb : GE K E tb ρ (.ok y)) (hr : RD K r x y z) : GE K E (tOp r ta tb) ρ (.ok z) := fun H0 B H σ bh s Q q =>
  ha H0 B H σ bh s _ (fin_ok fun v B1 H1 s1 d1 => hb H0 B1 H1 σ s1.dh (s.mono s1) _ (fin_ok fun w B2 H2 s2 d2 =>
    hr B2 v w (dpM s2.d d1) d2 H2 s2.dh Q fun u du => q.go u B2 H2 (s1.trans s2) du))
theorem rd_int {g : Int → Int → Int} {i j : Int} : RD K (rI0 fun i j => .int (g i j)) (.int i) (.int j) (.int (g i j)) := fun B v w h1 h2 H bh Q q => by
  cases h1; cases h2
  exact ⟨i, j, rfl, rfl, q _ (.int _)⟩
theorem rd_bl {g : Int → Int → Bool} {i j : Int} : RD K (rI0 fun i j => .bl (g i j)) (.int i) (.int j) (.bool (g i j)) := fun B v w h1 h2 H bh Q q => by
  cases h1; cases h2
  exact ⟨i, j, rfl, rfl, q _ (.bl _)⟩
theorem rd_intC {C : Int → Int → Prop} {g : Int → Int → Int} {i j : Int} (c : C i j) : RD K (rI C fun i j => .int (g i j)) (.int i) (.int j) (.int (g i j)) := fun B v w h1 h2 H bh Q q => by
  cases h1; cases h2
  exact ⟨i, j, rfl, rfl, c, q _ (.int _)⟩
theorem dec_int {i j : Int} : decide ((V.int i) = V.int j) = decide (i = j) := by
  by_cases h : i = j
  · subst h; rw [decide_eq_true rfl, decide_eq_true rfl]
  · rw [decide_eq_false h, decide_eq_false fun z => h (V.int.inj z)]
theorem dec_str {i j : Str} : decide ((V.str i) = V.str j) = decide (i = j) := by
  by_cases h : i = j
  · subst h; rw [decide_eq_true rfl, decide_eq_true rfl]
  · rw [decide_eq_false h, decide_eq_false fun z => h (V.str.inj z)]
theorem rd_eqI {i j : Int} : RD K rEq (.int i) (.int j) (.bool (decide (i = j))) := fun B v w h1 h2 H bh Q q => by
  cases h1; cases h2
  exact ⟨rfl, by rw [dec_int]; exact q _ (.bl _)⟩
theorem rd_neI {i j : Int} : RD K rNe (.int i) (.int j) (.bool (!decide (i = j))) := fun B v w h1 h2 H bh Q q => by
  cases h1; cases h2
  exact ⟨rfl, by rw [dec_int]; exact q _ (.bl _)⟩
theorem rd_eqS {i j : Str} : RD K rEq (.str i) (.str j) (.bool (decide (i = j))) := fun B v w h1 h2 H bh Q q => by
  cases h1; cases h2
  exact ⟨rfl, by rw [dec_str]; exact q _ (.bl _)⟩
theorem rd_neS {i j : Str} : RD K rNe (.str i) (.str j) (.bool (!decide (i = j))) := fun B v w h1 h2 H bh Q q => by
  cases h1; cases h2
  exact ⟨rfl, by rw [dec_str]; exact q _ (.bl _)⟩
theorem rd_neNI {j : Int} : RD K rNe .none (.int j) (.bool true) := fun B v w h1 h2 H bh Q q => by
  cases h1; cases h2
  exact ⟨rfl, q _ (.bl _)⟩
def rIsN : R2 := fun x y H Q => y = .non ∧ Q (.bl (decide (x = .non))) H
def rNoN : R2 := fun x y H Q => y = .non ∧ Q (.bl (!decide (x = .non))) H
theorem op_isN' {X : Cx} : OpR X (compareOp .Is) rIsN := op_isN
theorem op_noN' {X : Cx} : OpR X (compareOp .IsNot) rNoN := op_notN
def isNone : PyData → Bool
  | .none => true
  | _ => false
theorem dp_none {v : V} (h : Dp K B v d) : decide (v = .non) = isNone d := by
  cases h <;> rfl
theorem rd_isN : RD K rIsN x .none (.bool (isNone x)) := fun B v w h1 h2 H bh Q q => by
  cases h2
  exact ⟨rfl, by rw [dp_none h1]; exact q _ (.bl _)⟩
theorem rd_noN : RD K rNoN x .none (.bool (!isNone x)) := fun B v w h1 h2 H bh Q q => by
  cases h2
  exact ⟨rfl, by rw [dp_none h1]; exact q _ (.bl _)⟩
theorem rd_eqD (hx : SeqAt.shaped x = true) (hy : SeqAt.shaped y = true) : RD K (rEqD K) x y (.bool (PyData.eqv x y)) := fun B v w h1 h2 H bh Q q =>
  ⟨x, y, dpM bh h1, dpM bh h2, hx, hy, q _ (.bl _)⟩
theorem rd_neD (hx : SeqAt.shaped x = true) (hy : SeqAt.shaped y = true) : RD K (rNeD K) x y (.bool (!PyData.eqv x y)) := fun B v w h1 h2 H bh Q q =>
  ⟨x, y, dpM bh h1, dpM bh h2, hx, hy, q _ (.bl _)⟩
theorem rd_ixT {i : Int} (h : atI ds i = some d) : RD K (rIxT K) (.tuple ds) (.int i) d := fun B v w h1 h2 H bh Q q => by
  cases h2
  cases h1 with
  | tup hs ha =>
    obtain ⟨u, e, f⟩ := dps_at ha h
    exact ⟨_, _, i, u, rfl, rfl, ex_t bh hs, e, q u f⟩
theorem GE.un {g : Int → Int} {i : Int} (h : GE K E ta ρ (.ok (.int i))) : GE K E (tUn (rU fun i => .int (g i)) ta) ρ (.ok (.int (g i))) := fun H0 B H σ bh s Q q =>
  h H0 B H σ bh s _ (fin_ok fun v B1 H1 s1 d1 => by
    cases d1
    exact ⟨i, rfl, q.go _ B1 H1 s1 (.int _)⟩)

/-! ### lists and tuples read -/
inductive IsLs : Rs → List PyData → Prop
  | ok (ds : List PyData) : IsLs (.ok (.list ds)) ds
  | new (ds : List PyData) : IsLs (.new ds) ds
  | ali (ds : List PyData) : IsLs (.ali ds) ds
inductive IsSq : Rs → List PyData → Prop
  | ls {r : Rs} {ds : List PyData} (h : IsLs r ds) : IsSq r ds
  | tup (ds : List PyData) : IsSq (.ok (.tuple ds)) ds
inductive IsOw : Rs → List PyData → Prop
  | new (ds : List PyData) : IsOw (.new ds) ds
  | ali (ds : List PyData) : IsOw (.ali ds) ds
theorem ls_at {H0 H1 : Hp} {v : V} (i : IsLs r ds) (bh : Ex B H) (f : Vok K H0 B H v r) : ∃ a xs, v = .ref a ∧ SqL K H a xs ∧ DpAll K B xs ds := by
  cases i with
  | ok =>
    cases f with
    | lst hs ha => exact ⟨_, _, rfl, ex_l bh hs, ha⟩
  | new =>
    obtain ⟨a, xs, e, h0, hb, h1, hd⟩ := f
    exact ⟨a, xs, e, .inl (.inl h1), hd⟩
  | ali =>
    obtain ⟨a, xs, e, h1, hd⟩ := f
    exact ⟨a, xs, e, .inl (.inl h1), hd⟩
theorem sq_at {H0 : Hp} {v : V} (i : IsSq r ds) (bh : Ex B H) (f : Vok K H0 B H v r) : ∃ a xs, v = .ref a ∧ (SqL K H a xs ∨ SqT K H a xs) ∧ DpAll K B xs ds := by
  cases i with
  | ls h =>
    obtain ⟨a, xs, e, hs, ha⟩ := ls_at (H1 := H) h bh f
    exact ⟨a, xs, e, .inl hs, ha⟩
  | tup =>
    cases f with
    | tup hs ha => exact ⟨_, _, rfl, .inr (ex_t bh hs), ha⟩
theorem ow_at {H0 : Hp} {v : V} (i : IsOw r ds) (f : Vok K H0 B H v r) : ∃ a xs, v = .ref a ∧ H a = some (.lst xs) ∧ DpAll K B xs ds := by
  cases i with
  | new =>
    obtain ⟨a, xs, e, h0, hb, h1, hd⟩ := f
    exact ⟨a, xs, e, h1, hd⟩
  | ali => exact f
theorem IsLs.fin (i : IsLs r ds) (h : ∀ v B' H', Step B H B' H' → Vok K H B' H' v r → Q v H') : Fin K E B H r Q := ⟨h, fun C e => by cases i <;> cases e⟩
theorem IsSq.fin (i : IsSq r ds) (h : ∀ v B' H', Step B H B' H' → Vok K H B' H' v r → Q v H') : Fin K E B H r Q := ⟨h, fun C e => by
  cases i with
  | ls i => cases i <;> cases e
  | tup => cases e⟩
theorem IsOw.fin (i : IsOw r ds) (h : ∀ v B' H', Step B H B' H' → Vok K H B' H' v r → Q v H') : Fin K E B H r Q := ⟨h, fun C e => by cases i <;> cases e⟩
theorem GE.ixL {i : Int} (ha : GE K E ta ρ r) (hl : IsLs r ds) (hb : GE K E tb ρ (.ok (.int i))) (h : atI ds i = some d) : GE K E (tOp (rIxL K) ta tb) ρ (.ok d) := fun H0 B H σ bh s Q q =>
  ha H0 B H σ bh s _ (hl.fin fun v B1 H1 s1 d1 => hb H0 B1 H1 σ s1.dh (s.mono s1) _ (fin_ok fun w B2 H2 s2 d2 => by
    cases d2
    obtain ⟨a, xs, rfl, hs, hd⟩ := ls_at (H1 := H) hl s2.dh (d1.mono s2)
    obtain ⟨u, e, f⟩ := dps_at hd h
    exact ⟨a, xs, i, u, rfl, rfl, hs, e, q.go u B2 H2 (s1.trans s2) f⟩))
theorem GE.ixT {i : Int} (ha : GE K E ta ρ (.ok (.tuple ds))) (hb : GE K E tb ρ (.ok (.int i))) (h : atI ds i = some d) : GE K E (tOp (rIxT K) ta tb) ρ (.ok d) := GE.op ha hb (rd_ixT h)
theorem GE.cat {r1 r2 : Rs} (ha : GE K E ta ρ r1) (h1 : IsOw r1 ds) (hb : GE K E tb ρ r2) (h2 : IsOw r2 es) (hz : ds.length + es.length ≤ 100000) : GE K E (tOp rCat ta tb) ρ (.new (ds ++ es)) := fun H0 B H σ bh s Q q =>
  ha H0 B H σ bh s _ (h1.fin fun v B1 H1 s1 d1 => hb H0 B1 H1 σ s1.dh (s.mono s1) _ (h2.fin fun w B2 H2 s2 d2 => by
    obtain ⟨a, xs, rfl, e1, f1⟩ := ow_at h1 (d1.mono s2)
    obtain ⟨b, ys, rfl, e2, f2⟩ := ow_at h2 d2
    refine ⟨a, b, xs, ys, rfl, rfl, e1, e2, Evl.sz_of (by rw [dps_len f1, dps_len f2]; exact hz), fun p hp => ?_⟩
    have s3 := s1.trans s2
    exact q.go _ B2 _ (s3.trans (.own s2.dh hp _)) ⟨p, _, rfl, fresh_back s3.h hp, none_of s2.dh hp, upd_same, dps_app f1 f2⟩))
theorem GE.rep {k : Int} {r1 : Rs} (ha : GE K E ta ρ r1) (h1 : IsOw r1 ds) (hb : GE K E tb ρ (.ok (.int k))) (hk : -100000 ≤ k ∧ k ≤ 100000) (hz : ds.length * k.toNat ≤ 100000) : GE K E (tOp rRep ta tb) ρ (.new (List.replicate k.toNat ds).flatten) := fun H0 B H σ bh s Q q =>
  ha H0 B H σ bh s _ (h1.fin fun v B1 H1 s1 d1 => hb H0 B1 H1 σ s1.dh (s.mono s1) _ (fin_ok fun w B2 H2 s2 d2 => by
    cases d2
    obtain ⟨a, xs, rfl, e1, f1⟩ := ow_at h1 (d1.mono s2)
    refine ⟨a, k, xs, rfl, rfl, e1, by omega, by omega, Evl.sz_of (by rw [dps_len f1]; exact hz), fun p hp => ?_⟩
    have s3 := s1.trans s2
    exact q.go _ B2 _ (s3.trans (.own s2.dh hp _)) ⟨p, _, rfl, fresh_back s3.h hp, none_of s2.dh hp, upd_same, dps_flat f1 _⟩))

/-! ### arguments, displays -/
theorem GA.nil : GA K E tNil ρ [] := fun H0 B H σ bh s Q q => q [] B H (.refl bh) .nil
theorem GA.cons {ts : TA} (h : GE K E te ρ (.ok d)) (ht : GA K E ts ρ ds) : GA K E (tCons te ts) ρ (d :: ds) := fun H0 B H σ bh s Q q =>
  h H0 B H σ bh s _ (fin_ok fun v B1 H1 s1 d1 => ht H0 B1 H1 σ s1.dh (s.mono s1) _ fun vs B2 H2 s2 d2 => q (v :: vs) B2 H2 (s1.trans s2) (.cons (dpM s2.d d1) d2))
theorem GAx.here {ts : TA} {C : Addr} (h : GE K E te ρ (.exc C)) : GAx K E (tCons te ts) ρ C := fun H0 B H σ bh s Q q => h H0 B H σ bh s _ (fin_exc q)
theorem GAx.there {ts : TA} {C : Addr} (h : GE K E te ρ (.ok d)) (ht : GAx K E ts ρ C) : GAx K E (tCons te ts) ρ C := fun H0 B H σ bh s Q q =>
  h H0 B H σ bh s _ (fin_ok fun v B1 H1 s1 d1 => ht H0 B1 H1 σ s1.dh (s.mono s1) _ fun B2 H2 s2 => q B2 H2 (s1.trans s2))
theorem GE.tup {ts : TA} (h : GA K E ts ρ ds) (hz : ds.length ≤ 1000) : GE K E (tTup ts) ρ (.ok (.tuple ds)) := fun H0 B H σ bh s Q q =>
  h H0 B H σ bh s _ fun vs B1 H1 s1 d1 => ⟨Evl.sz_of (by rw [dps_len d1]; omega), fun p hp => q.go _ _ _ (s1.trans (.dat s1.dh hp (.tup vs))) (.tup (.inl (.inl upd_same)) (dpsM (Ex.new (none_of s1.dh hp)) d1))⟩
theorem GE.tupx {ts : TA} {C : Addr} (h : GAx K E ts ρ C) : GE K E (tTup ts) ρ (.exc C) := fun H0 B H σ bh s Q q => h H0 B H σ bh s _ (q.up C rfl)
theorem GE.lst {ts : TA} (h : GA K E ts ρ ds) (hz : ds.length ≤ 1000) : GE K E (tLst ts) ρ (.new ds) := fun H0 B H σ bh s Q q =>
  h H0 B H σ bh s _ fun vs B1 H1 s1 d1 => ⟨Evl.sz_of (by rw [dps_len d1]; omega), fun p hp => q.go _ _ _ (s1.trans (.own s1.dh hp (.lst vs))) ⟨p, vs, rfl, fresh_back s1.h hp, none_of s1.dh hp, upd_same, d1⟩⟩

/-! ### built-ins -/
def rLenQ (K : PySem.W.Frag) : List V → Hp → VK → Prop := fun xs H Q => ∃ p ys, xs = [.ref p] ∧ (SqL K H p ys ∨ SqT K H p ys) ∧ Q (.int ys.length) H
theorem call_lenQ {X : Cx} : CallR X (.builtin "len") (rLenQ X.K) := call_len_seq
theorem GE.len (h : GE K E te ρ r) (i : IsSq r ds) : GE K E (tCB (rLenQ K) (tCons te tNil)) ρ (.ok (.int ds.length)) := fun H0 B H σ bh s Q q =>
  h H0 B H σ bh s _ (i.fin fun v B1 H1 s1 d1 => by
    obtain ⟨a, xs, rfl, hs, hd⟩ := sq_at i s1.dh d1
    refine ⟨a, xs, rfl, hs, ?_⟩
    rw [dps_len hd]
    exact q.go _ B1 H1 s1 (.int _))
def rMax2 : List V → Hp → VK → Prop := fun xs H Q => ∃ i j, xs = [.int i, .int j] ∧ Q (.int (if j > i then j else i)) H
def rMin2 : List V → Hp → VK → Prop := fun xs H Q => ∃ i j, xs = [.int i, .int j] ∧ Q (.int (if j < i then j else i)) H
theorem call_max' {X : Cx} (hc : X.calm = true) : CallR X (.builtin "max") rMax2 := call_max2 hc
theorem call_min' {X : Cx} (hc : X.calm = true) : CallR X (.builtin "min") rMin2 := call_min2 hc
theorem GE.cb {rr : List V → Hp → VK → Prop} {ts : TA} (h : GA K E ts ρ ds) (hr : ∀ B vs H, Ex B H → DpAll K B vs ds → ∀ Q : VK, (∀ u, Dp K B u d → Q u H) → rr vs H Q) : GE K E (tCB rr ts) ρ (.ok d) := fun H0 B H σ bh s Q q =>
  h H0 B H σ bh s _ fun vs B1 H1 s1 d1 => hr B1 vs H1 s1.dh d1 Q fun u du => q.go u B1 H1 s1 du
theorem GE.max {ts : TA} {i j : Int} (h : GA K E ts ρ [.int i, .int j]) : GE K E (tCB rMax2 ts) ρ (.ok (.int (Max.max i j))) := GE.cb h fun B vs H bh hd Q q => by
  cases hd with
  | cons h1 t =>
    cases h1
    cases t with
    | cons h2 t =>
      cases h2; cases t
      refine ⟨i, j, rfl, ?_⟩
      have e : (if j > i then j else i) = Max.max i j := by
        rw [Int.max_def]
        split <;> split <;> omega
      rw [e]
      exact q _ (.int _)
theorem GE.min {ts : TA} {i j : Int} (h : GA K E ts ρ [.int i, .int j]) : GE K E (tCB rMin2 ts) ρ (.ok (.int (Min.min i j))) := GE.cb h fun B vs H bh hd Q q => by
  cases hd with
  | cons h1 t =>
    cases h1
    cases t with
    | cons h2 t =>
      cases h2; cases t
      refine ⟨i, j, rfl, ?_⟩
      have e : (if j < i then j else i) = Min.min i j := by
        rw [Int.min_def]
        split <;> split <;> omega
      rw [e]
      exact q _ (.int _)
theorem GE.sum {ns : List Int} (h : GE K E te ρ r) (i : IsLs r (ns.map PyData.int)) : GE K E (tCB (rSum K) (tCons te tNil)) ρ (.ok (.int ns.sum)) := fun H0 B H σ bh s Q q =>
  h H0 B H σ bh s _ (i.fin fun v B1 H1 s1 d1 => by
    obtain ⟨a, xs, rfl, hs, hd⟩ := ls_at (H1 := H) i s1.dh d1
    rw [dps_ints hd] at hs
    exact ⟨a, ns, rfl, hs, q.go _ B1 H1 s1 (.int _)⟩)
theorem GE.minL {ns : List Int} {m : Int} (h : GE K E te ρ r) (i : IsLs r (ns.map PyData.int)) (hm : m ∈ ns) (hl : ∀ y ∈ ns, m ≤ y) : GE K E (tCB (rMin K) (tCons te tNil)) ρ (.ok (.int m)) := fun H0 B H σ bh s Q q =>
  h H0 B H σ bh s _ (i.fin fun v B1 H1 s1 d1 => by
    obtain ⟨a, xs, rfl, hs, hd⟩ := ls_at (H1 := H) i s1.dh d1
    rw [dps_ints hd] at hs
    refine ⟨a, ns, rfl, hs, List.length_pos_of_mem hm, fun m' hm' hl' => ?_⟩
    have e : m' = m := Int.le_antisymm (hl' m hm) (hl m' hm')
    rw [e]
    exact q.go _ B1 H1 s1 (.int _))
/-- type names of data -/
def tyD : PyData → String
  | .none => "NoneType"
  | .bool _ => "bool"
  | .int _ => "int"
  | .str _ => "str"
  | .list _ => "list"
  | .tuple _ => "tuple"
  | .dict _ => "dict"
theorem ty_dp {v : V} (h : Dp K H v d) : TyX K H v (.type (tyD d)) := by
  cases h with
  | non => exact .base .non
  | bl b => exact .base (.bl b)
  | int i => exact .base (.int i)
  | str x => exact .base (.str x)
  | lst hs ha =>
    rcases hs with (h | ⟨o, h⟩) | ⟨o, its, n, h, c, _⟩
    · exact .base (.lst h)
    · exact .base (.frz h)
    · exact .kList h c
  | tup hs ha =>
    rcases hs with (h | ⟨o, h⟩) | ⟨o, its, n, h, c, _⟩
    · exact .base (.tup h)
    · exact .fTuple h
    · exact .kTuple h c
def tyR : Rs → String
  | .ok d => tyD d
  | .exc _ => ""
  | _ => "list"
theorem ty_vok {H0 H1 : Hp} {v : V} (bh : Ex B H) (f : Vok K H0 B H v r) : TyX K H v (.type (tyR r)) := by
  cases r with
  | ok d => exact ty_dp (dpM bh f)
  | new ds =>
    obtain ⟨a, xs, rfl, h0, hb, h1, hd⟩ := f
    exact .base (.lst h1)
  | ali ds =>
    obtain ⟨a, xs, rfl, h1, hd⟩ := f
    exact .base (.lst h1)
  | exc C => exact f.elim
def NoX : Rs → Prop
  | .exc _ => False
  | _ => True
theorem NoX.fin (n : NoX r) (h : ∀ v B' H', Step B H B' H' → Vok K H B' H' v r → Q v H') : Fin K E B H r Q := ⟨h, fun C e => by subst e; exact n.elim⟩
/-- isinstance(e, T), T a built-in class -/
theorem GE.isi {n : String} {b : Bool} (h : GE K E te ρ r) (nx : NoX r) (hk : kitB (tyR r) n = some b) : GE K E (tCB (rIsi K) (tCons te (tCons (tC (.ty n)) tNil))) ρ (.ok (.bool b)) := fun H0 B H σ bh s Q q =>
  h H0 B H σ bh s _ (nx.fin fun v B1 H1 s1 d1 => ⟨v, .ty n, .type (tyR r), .type n, b, rfl, .ty n, ty_vok (H1 := H1) s1.dh d1, kit_ty hk, q.go _ B1 H1 s1 (.bl b)⟩)

/-! ### tests -/
theorem GT.test {b : Bool} (h : GE K E te ρ (.ok (.bool b))) : GT K E (tTest te) ρ b := fun H0 B H σ bh s Q q =>
  h H0 B H σ bh s _ (fin_ok fun v B1 H1 s1 d1 => by
    cases d1
    exact ⟨b, rfl, q B1 H1 s1⟩)
theorem GT.val {b : Bool} (h : GE K E te ρ (.ok (.bool b))) : GT K E (tB te) ρ b := fun H0 B H σ bh s Q q =>
  h H0 B H σ bh s _ (fin_ok fun v B1 H1 s1 d1 => by
    cases d1
    exact ⟨b, rfl, q B1 H1 s1⟩)
theorem GT.yes : GT K E tYes ρ true := fun H0 B H σ bh s Q q => q B H (.refl bh)
theorem GT.not {tc : TT} {b : Bool} (h : GT K E tc ρ b) : GT K E (tNot tc) ρ (!b) := fun H0 B H σ bh s Q q => h H0 B H σ bh s _ q
theorem GT.and {tc tu : TT} {a b : Bool} (h : GT K E tc ρ a) (h2 : a = true → GT K E tu ρ b) : GT K E (tAnd tc tu) ρ (a && b) := fun H0 B H σ bh s Q q =>
  h H0 B H σ bh s _ fun B1 H1 s1 => by
    cases a with
    | true => exact h2 rfl H0 B1 H1 σ s1.dh (s.mono s1) Q fun B2 H2 s2 => q B2 H2 (s1.trans s2)
    | false => exact q B1 H1 s1
theorem GT.or {tc tu : TT} {a b : Bool} (h : GT K E tc ρ a) (h2 : a = false → GT K E tu ρ b) : GT K E (tOr tc tu) ρ (a || b) := fun H0 B H σ bh s Q q =>
  h H0 B H σ bh s _ fun B1 H1 s1 => by
    cases a with
    | true => exact q B1 H1 s1
    | false => exact h2 rfl H0 B1 H1 σ s1.dh (s.mono s1) Q fun B2 H2 s2 => q B2 H2 (s1.trans s2)
theorem GT.to {tc : TT} {a b : Bool} (h : GT K E tc ρ a) (e : a = b) : GT K E tc ρ b := e ▸ h
theorem GE.to {r r' : Rs} (h : GE K E te ρ r) (e : r = r') : GE K E te ρ r' := e ▸ h
theorem GT.chain {rr rr' : R2} {tc : TE} {w : PyData} {a b : Bool} (ha : GE K E ta ρ (.ok x)) (hb : GE K E tb ρ (.ok y)) (hc : GE K E tc ρ (.ok w)) (h1 : RD K rr x y (.bool a)) (h2 : RD K rr' y w (.bool b)) : GT K E (tTest (tChain rr rr' ta tb tc)) ρ (a && b) := fun H0 B H σ bh s Q q =>
  ha H0 B H σ bh s _ (fin_ok fun v B1 H1 s1 d1 => hb H0 B1 H1 σ s1.dh (s.mono s1) _ (fin_ok fun u B2 H2 s2 d2 =>
    h1 B2 v u (dpM s2.d d1) d2 H2 s2.dh _ fun z dz => by
      cases dz
      refine ⟨a, rfl, ?_⟩
      have s3 := s1.trans s2
      cases a with
      | true =>
        refine hc H0 B2 H2 σ s2.dh (s.mono s3) _ (fin_ok fun w' B3 H3 s4 d4 => h2 B3 u w' (dpM s4.d d2) d4 H3 s4.dh _ fun z dz => ?_)
        cases dz
        exact ⟨b, rfl, q B3 H3 (s3.trans s4)⟩
      | false => exact ⟨false, rfl, q B2 H2 s3⟩))
theorem GE.andV {a b : Bool} (h : GE K E ta ρ (.ok (.bool a))) (h2 : a = true → GE K E tb ρ (.ok (.bool b))) : GE K E (tAndV ta tb) ρ (.ok (.bool (a && b))) := fun H0 B H σ bh s Q q =>
  h H0 B H σ bh s _ (fin_ok fun v B1 H1 s1 d1 => by
    cases d1
    refine ⟨a, rfl, ?_⟩
    cases a with
    | true => exact h2 rfl H0 B1 H1 σ s1.dh (s.mono s1) Q (q.back s1)
    | false => exact q.go _ B1 H1 s1 (.bl false))
theorem GE.orV {a b : Bool} (h : GE K E ta ρ (.ok (.bool a))) (h2 : a = false → GE K E tb ρ (.ok (.bool b))) : GE K E (tOrV ta tb) ρ (.ok (.bool (a || b))) := fun H0 B H σ bh s Q q =>
  h H0 B H σ bh s _ (fin_ok fun v B1 H1 s1 d1 => by
    cases d1
    refine ⟨a, rfl, ?_⟩
    cases a with
    | true => exact q.go _ B1 H1 s1 (.bl true)
    | false => exact h2 rfl H0 B1 H1 σ s1.dh (s.mono s1) Q (q.back s1))
theorem GE.notV {a : Bool} (h : GE K E ta ρ (.ok (.bool a))) : GE K E (tNotV ta) ρ (.ok (.bool (!a))) := fun H0 B H σ bh s Q q =>
  h H0 B H σ bh s _ (fin_ok fun v B1 H1 s1 d1 => by
    cases d1
    exact ⟨a, rfl, q.go _ B1 H1 s1 (.bl _)⟩)
theorem GE.ifx {tc : TT} {a : Bool} (h : GT K E tc ρ a) (h1 : a = true → GE K E ta ρ r) (h2 : a = false → GE K E tb ρ r) : GE K E (tIf tc ta tb) ρ r := fun H0 B H σ bh s Q q =>
  h H0 B H σ bh s _ fun B1 H1 s1 => by
    cases a with
    | true => exact h1 rfl H0 B1 H1 σ s1.dh (s.mono s1) Q (q.back s1)
    | false => exact h2 rfl H0 B1 H1 σ s1.dh (s.mono s1) Q (q.back s1)

/-! ### comprehensions -/
def given (n : Nat) (f : Nat → Bool) (g : Nat → PyData) : List PyData := ((List.range n).filter f).map g
theorem given_yes {n : Nat} {f : Nat → Bool} {g : Nat → PyData} (h : f n = true) : given (n + 1) f g = given n f g ++ [g n] := by
  unfold given
  rw [List.range_succ, List.filter_append, List.map_append, List.filter_cons, if_pos h] <;> rfl
theorem given_no {n : Nat} {f : Nat → Bool} {g : Nat → PyData} (h : f n = false) : given (n + 1) f g = given n f g := by
  unfold given
  rw [List.range_succ, List.filter_append, List.map_append, List.filter_cons, if_neg (by rw [h]; decide)]
  show _ ++ [] = _
  rw [List.append_nil]
theorem given_len (n : Nat) (f : Nat → Bool) (g : Nat → PyData) : (given n f g).length ≤ n := by
  unfold given
  rw [List.length_map]
  have h := List.length_filter_le f (List.range n)
  rw [List.length_range] at h
  exact h
theorem given_all (n : Nat) (g : Nat → PyData) : given n (fun _ => true) g = (List.range n).map g := by
  unfold given
  rw [List.filter_eq_self.mpr (fun _ _ => rfl)]
/-- the state of a comprehension that fills the list at D -/
def Cw (K : PySem.W.Frag) (B1 H1 : Hp) (D : Addr) (ds : List PyData) (H' : Hp) : Prop := ∃ B' xs, Step B1 H1 B' H' ∧ B' D = none ∧ H' D = some (.lst xs) ∧ DpAll K B' xs ds
theorem cw_start {B1 H1 : Hp} {D : Addr} (bh : Ex B1 H1) (hD : H1 D = none) : Cw K B1 H1 D [] (upd H1 D (.lst [])) := ⟨B1, [], .own bh hD _, none_of bh hD, upd_same, .nil⟩
theorem wipe1 {σ : L2.St} {j : Nat} {x : V} : L2.wipe ((L2.wipe σ [j]).set j (some x)) [j] = L2.wipe σ [j] := by
  show ((σ.set j none).set j (some x)).set j none = σ.set j none
  rw [List.set_set, List.set_set]
theorem cw_turn {E' : XK} {H0 B1 H1 : Hp} {D : Addr} {σ : L2.St} {j : Nat} {tt : TT} {v : V} {dv : PyData} {f : Nat → Bool} {g : Nat → PyData} {i : Nat} {H' : Hp} (s : Sl K H0 B1 H1 σ ρ) (hD : H1 D = none) (w : Cw K B1 H1 D (given i f g) H') (hi : i < 50000) (hv : Dp K B1 v dv)
    (ht : GT K E' tt ((wipeR ρ [j]).set j (some (.dat dv))) (f i)) (he : f i = true → GE K E' te ((wipeR ρ [j]).set j (some (.dat dv))) (.ok (g i))) :
    tt ((L2.wipe σ [j]).set j (some v)) H' fun b H3 => if b = true then te ((L2.wipe σ [j]).set j (some v)) H3 fun y H4 => ∃ acc, H4 D = some (.lst acc) ∧ acc.length < sizeLine ∧ Cw K B1 H1 D (given (i + 1) f g) (upd H4 D (.lst (acc ++ [y]))) else Cw K B1 H1 D (given (i + 1) f g) H3 := by
  obtain ⟨B', xs, st, hb, hd, ha⟩ := w
  have sl : Sl K H0 B' H' ((L2.wipe σ [j]).set j (some v)) ((wipeR ρ [j]).set j (some (.dat dv))) := ((s.mono st).wipe [j]).setD j (dpM st.d hv)
  refine ht H0 B' H' _ st.dh sl _ fun B3 H3 s3 => ?_
  have fre : ∀ {B4 H4 : Hp}, Step B' H' B4 H4 → B4 D = none := fun {B4 H4} t => t.fr D (by rw [hd]; exact fun z => nomatch z) hb
  cases hf : f i with
  | true =>
    refine he hf H0 B3 H3 _ s3.dh (sl.mono s3) _ (fin_ok fun y B4 H4 s4 d4 => ?_)
    have s5 := s3.trans s4
    have e4 : H4 D = some (.lst xs) := s5.h D _ hd
    have n4 : B4 D = none := fre s5
    refine ⟨xs, e4, Evl.sz_lt (by rw [dps_len ha]; have := given_len i f g; omega), B4, xs ++ [y], ?_, n4, upd_same, ?_⟩
    · have t := st.trans s5
      refine ⟨t.d, Evl.Ex.mut t.h hD, fun a o q => ?_, t.fr⟩
      rw [upd_ne (ne_of_none q n4)]
      exact t.dh a o q
    · rw [given_yes hf]
      exact dps_app (dpsM s5.d ha) (.cons d4 .nil)
  | false =>
    refine ⟨B3, xs, st.trans s3, fre s3, s3.h D _ hd, ?_⟩
    rw [given_no hf]
    exact dpsM s3.d ha
theorem cw_end {B1 H1 : Hp} {D : Addr} {H' : Hp} (s1 : Step B H B1 H1) (hD : H1 D = none) (w : Cw K B1 H1 D ds H') (q : Fin K E B H (.new ds) Q) : Q (.ref D) H' := by
  obtain ⟨B', xs, st, hb, hd, ha⟩ := w
  exact q.go _ B' H' (s1.trans st) ⟨D, xs, rfl, fresh_back s1.h hD, hb, hd, ha⟩
theorem GE.lcR2 {E' : XK} {ts : TA} {j : Nat} {tt : TT} {lo hi : Int} (f : Nat → Bool) (g : Nat → PyData) (h : GA K E ts ρ [.int lo, .int hi]) (hb : (-100000 ≤ lo ∧ lo ≤ 100000) ∧ -100000 ≤ hi ∧ hi ≤ 100000) (hn : hi - lo < 50000)
    (ht : ∀ i : Nat, lo + (i : Int) < hi → GT K E' tt ((wipeR ρ [j]).set j (some (.dat (.int (lo + i))))) (f i)) (he : ∀ i : Nat, lo + (i : Int) < hi → f i = true → GE K E' te ((wipeR ρ [j]).set j (some (.dat (.int (lo + i))))) (.ok (g i))) :
    GE K E (tLc (iRng2 ts) (gName j) tt te [j]) ρ (.new (given (hi - lo).toNat f g)) := fun H0 B H σ bh s Q q =>
  h H0 B H σ bh s _ fun vs B1 H1 s1 d1 => by
    cases d1 with
    | cons h1 t =>
      cases h1
      cases t with
      | cons h2 t =>
        cases h2; cases t
        refine ⟨lo, hi, rfl, ⟨by omega, by omega, by omega, by omega⟩, fun D hD => ?_⟩
        exact lc_range (lo := lo) (n := (hi - lo).toNat) (fun i H' => Cw K B1 H1 D (given i f g) H') (cw_start s1.dh hD) (fun i H' hi' w => ⟨wipe1, cw_turn (v := .int (lo + (i : Int))) (dv := .int (lo + (i : Int))) (s.mono s1) hD w (by omega) (.int _) (ht i (by omega)) (he i (by omega))⟩) (fun H' w => cw_end s1 hD w q)
theorem GE.lcR1 {E' : XK} {ts : TA} {j : Nat} {tt : TT} {hi : Int} (f : Nat → Bool) (g : Nat → PyData) (h : GA K E ts ρ [.int hi]) (hb : -100000 ≤ hi ∧ hi < 50000)
    (ht : ∀ i : Nat, (i : Int) < hi → GT K E' tt ((wipeR ρ [j]).set j (some (.dat (.int (i : Int))))) (f i)) (he : ∀ i : Nat, (i : Int) < hi → f i = true → GE K E' te ((wipeR ρ [j]).set j (some (.dat (.int (i : Int))))) (.ok (g i))) :
    GE K E (tLc (iRng1 ts) (gName j) tt te [j]) ρ (.new (given hi.toNat f g)) := fun H0 B H σ bh s Q q =>
  h H0 B H σ bh s _ fun vs B1 H1 s1 d1 => by
    cases d1 with
    | cons h1 t =>
      cases h1; cases t
      refine ⟨hi, rfl, by omega, by omega, fun D hD => ?_⟩
      refine lc_range (lo := 0) (n := hi.toNat) (fun i H' => Cw K B1 H1 D (given i f g) H') (cw_start s1.dh hD) (fun i H' hi' w => ?_) (fun H' w => cw_end s1 hD w q)
      rw [show (0 : Int) + (i : Int) = (i : Int) from Int.zero_add _]
      exact ⟨wipe1, cw_turn (v := .int (i : Int)) (dv := .int (i : Int)) (s.mono s1) hD w (by omega) (.int _) (ht i (by omega)) (he i (by omega))⟩
/-- over a list -/
theorem GE.lcL {E' : XK} {j : Nat} {tt : TT} {tl : TE} (f : Nat → Bool) (g : Nat → PyData) (h : GE K E tl ρ r) (hl : IsLs r ds) (hn : ds.length < 50000)
    (ht : ∀ i x, ds[i]? = some x → GT K E' tt ((wipeR ρ [j]).set j (some (.dat x))) (f i)) (he : ∀ i x, ds[i]? = some x → f i = true → GE K E' te ((wipeR ρ [j]).set j (some (.dat x))) (.ok (g i))) :
    GE K E (tLc (iList K tl) (gName j) tt te [j]) ρ (.new (given ds.length f g)) := fun H0 B H σ bh s Q q =>
  h H0 B H σ bh s _ (hl.fin fun v B1 H1 s1 d1 => by
    obtain ⟨a, xs, rfl, hs, ha⟩ := ls_at (H1 := H1) hl s1.dh d1
    have el := dps_len ha
    refine ⟨a, rfl, ⟨xs, hs⟩, fun D hD => ?_⟩
    refine lc_list (xs := xs) (fun i H' => Cw K B1 H1 D (given i f g) H') (cw_start s1.dh hD) (fun i H' _ w => ?_) (fun i x H' hx w => ?_) (fun H' w => ?_)
    · obtain ⟨B', ys, st, _⟩ := w
      exact ex_l st.h hs
    · have hi : i < xs.length := (List.getElem?_eq_some_iff.mp hx).1
      have hd : ds[i]? = some (ds[i]'(by omega)) := List.getElem?_eq_getElem _
      obtain ⟨u, e1, e2⟩ := dps_get ha hd
      rw [hx] at e1
      cases e1
      exact ⟨wipe1, cw_turn (s.mono s1) hD w (by omega) e2 (ht i _ hd) (he i _ hd)⟩
    · rw [el] at w
      exact cw_end s1 hD w q)

/-! ### a def as a relation of data -/
def spR (K : PySem.W.Frag) (R : List PyData → Rs → Prop) : Sp := fun vs H Q E => ∃ B ds r, Ex B H ∧ DpAll K B vs ds ∧ R ds r ∧ Fin K E B H r Q
theorem GE.call {R : List PyData → Rs → Prop} {ts : TA} (ha : GA K E ts ρ ds) (hr : R ds r) : GE K E (tCallS (spR K R) (fun _ => E) ts) ρ r := fun H0 B H σ bh s Q q =>
  ha H0 B H σ bh s _ fun vs B1 H1 s1 d1 => ⟨B1, ds, r, s1.dh, d1, hr, q.back s1⟩
theorem GE.callx {R : List PyData → Rs → Prop} {ts : TA} {C : Addr} (ha : GAx K E ts ρ C) : GE K E (tCallS (spR K R) (fun _ => E) ts) ρ (.exc C) := fun H0 B H σ bh s Q q =>
  ha H0 B H σ bh s _ (q.up C rfl)
end

/-! ### statements -/
def GS (K : PySem.W.Frag) (E : XK) (ts : TS) (ρ : Rho) (Nx : Rho → Prop) (r : Rs) : Prop := ∀ B0 H0 B H σ, Step B0 H0 B H → Sl K H0 B H σ ρ → ∀ D : Ends,
  (∀ σ' B' H' ρ', Step B0 H0 B' H' → Sl K H0 B' H' σ' ρ' → Nx ρ' → D.nx σ' H') → Fin K E B0 H0 r D.rt → ts D σ H
section
variable {K : PySem.W.Frag} {E : XK} {ρ : Rho} {Nx : Rho → Prop} {r : Rs} {te : TE} {d : PyData} {ds : List PyData} {t u : TS} {tc : TT}
theorem GS.seq (h : GS K E t ρ (fun ρ' => GS K E u ρ' Nx r) r) : GS K E (tSeq t u) ρ Nx r := fun B0 H0 B H σ st s D nx fn =>
  h B0 H0 B H σ st s { D with nx := u D } (fun σ' B' H' ρ' st' s' g => g B0 H0 B' H' σ' st' s' D nx fn) fn
theorem GS.next (h : Nx ρ) : GS K E tNext ρ Nx r := fun B0 H0 B H σ st s D nx fn => nx σ B H ρ st s h
theorem GS.mono {Nx' : Rho → Prop} (h : GS K E t ρ Nx r) (hn : ∀ ρ', Nx ρ' → Nx' ρ') : GS K E t ρ Nx' r := fun B0 H0 B H σ st s D nx fn => h B0 H0 B H σ st s D (fun σ' B' H' ρ' a b c => nx σ' B' H' ρ' a b (hn ρ' c)) fn
theorem GS.ret (h : GE K E te ρ r) (hr : NoX r) (ha : ∀ ds, r ≠ .ali ds) : GS K E (tRet te) ρ Nx r := fun B0 H0 B H σ st s D nx fn =>
  h H0 B H σ st.dh s D.rt (hr.fin fun v B' H' st' f => fn.go v B' H' (st.trans st') (f.back st.h))
theorem GS.retD (h : GE K E te ρ (.ok d)) : GS K E (tRet te) ρ Nx (.ok d) := GS.ret h trivial fun _ e => nomatch e
theorem GS.retN (h : GE K E te ρ (.new ds)) : GS K E (tRet te) ρ Nx (.new ds) := GS.ret h trivial fun _ e => nomatch e
theorem GS.retX {C : Addr} (h : GE K E te ρ (.exc C)) : GS K E (tRet te) ρ Nx (.exc C) := fun B0 H0 B H σ st s D nx fn =>
  h H0 B H σ st.dh s D.rt (fin_exc fun B' H' st' => fn.up C rfl B' H' (st.trans st'))
theorem GS.retOwn {i : Nat} (h : ρ[i]? = some (some (.own ds))) : GS K E (tRet (tVar i)) ρ Nx (.new ds) := fun B0 H0 B H σ st s D nx fn => by
  obtain ⟨a, xs, e, h0, hb, h1, hd⟩ := s.own i ds h
  exact ⟨.ref a, e, fn.go _ B H st ⟨a, xs, rfl, h0, hb, h1, hd⟩⟩
theorem GS.retNone : GS K E tRetN ρ Nx (.ok .none) := fun B0 H0 B H σ st s D nx fn => fn.go _ B H st .non
theorem GS.asg {i : Nat} (h : GE K E te ρ (.ok d)) (n : Nx (ρ.set i (some (.dat d)))) : GS K E (tAsg te (gName i)) ρ Nx r := fun B0 H0 B H σ st s D nx fn =>
  h H0 B H σ st.dh s _ (fin_ok fun v B' H' st' dv => nx _ B' H' _ (st.trans st') ((s.mono st').setD i dv) n)
theorem GS.asgN {i : Nat} (h : GE K E te ρ (.new ds)) (n : Nx (ρ.set i (some (.own ds)))) : GS K E (tAsg te (gName i)) ρ Nx r := fun B0 H0 B H σ st s D nx fn =>
  h H0 B H σ st.dh s _ (fin_new fun v B' H' st' f => by
    obtain ⟨a, xs, rfl, h0, hb, h1, hd⟩ := f
    refine nx _ B' H' _ (st.trans st') ((s.mono st').setN i (fresh_back st.h h0) hb h1 hd fun j dj q z => ?_) n
    obtain ⟨b, ys, e1, _, _, e2, _⟩ := s.own j dj q
    rw [e1] at z
    cases z
    rw [h0] at e2
    cases e2)
theorem GS.asgX {C : Addr} {g : TG} (h : GE K E te ρ (.exc C)) : GS K E (tAsg te g) ρ Nx (.exc C) := fun B0 H0 B H σ st s D nx fn =>
  h H0 B H σ st.dh s _ (fin_exc fun B' H' st' => fn.up C rfl B' H' (st.trans st'))
/-- a, b = e -/
theorem GS.asg2 {i j : Nat} {x y : PyData} (h : GE K E te ρ (.ok (.tuple [x, y]))) (n : Nx ((ρ.set i (some (.dat x))).set j (some (.dat y)))) : GS K E (tAsg te (gTup K 2 (gCons (gName i) (gCons (gName j) gNil)))) ρ Nx r := fun B0 H0 B H σ st s D nx fn =>
  h H0 B H σ st.dh s _ (fin_ok fun v B' H' st' dv => by
    cases dv with
    | @tup a xs ds hs ha =>
      cases ha with
      | @cons v1 vs1 _ _ h1 t =>
        cases t with
        | @cons v2 vs2 _ _ h2 t =>
          cases t
          exact ⟨a, [v1, v2], rfl, ex_t st'.dh hs, rfl, v1, [v2], rfl, v2, [], rfl, rfl, nx _ B' H' _ (st.trans st') (((s.mono st').setD i h1).setD j h2) n⟩)
theorem GS.drop (h : GE K E te ρ (.ok d)) (n : Nx ρ) : GS K E (tDrop te) ρ Nx r := fun B0 H0 B H σ st s D nx fn =>
  h H0 B H σ st.dh s _ (fin_ok fun v B' H' st' dv => nx σ B' H' ρ (st.trans st') (s.mono st') n)
theorem GS.dropN (h : GE K E te ρ (.new ds)) (n : Nx ρ) : GS K E (tDrop te) ρ Nx r := GS.drop h.frz n
theorem GS.dropX {C : Addr} (h : GE K E te ρ (.exc C)) : GS K E (tDrop te) ρ Nx (.exc C) := fun B0 H0 B H σ st s D nx fn =>
  h H0 B H σ st.dh s _ (fin_exc fun B' H' st' => fn.up C rfl B' H' (st.trans st'))
theorem GS.ifs {b : Bool} (h : GT K E tc ρ b) (h1 : b = true → GS K E t ρ Nx r) (h2 : b = false → GS K E u ρ Nx r) : GS K E (tIfS tc t u) ρ Nx r := fun B0 H0 B H σ st s D nx fn =>
  h H0 B H σ st.dh s _ fun B' H' st' => by
    cases b with
    | true => exact h1 rfl B0 H0 B' H' σ (st.trans st') (s.mono st') D nx fn
    | false => exact h2 rfl B0 H0 B' H' σ (st.trans st') (s.mono st') D nx fn
/-- xs.append(e), xs a list of one's own -/
theorem GS.app {i : Nat} (hi : ρ[i]? = some (some (.own ds))) (h : GE K E te ρ (.ok d)) (hz : ds.length < 100000) (n : Nx (ρ.set i (some (.own (ds ++ [d]))))) : GS K E (tDrop (tBM K "list" rAppend (tVar i) (tCons te tNil))) ρ Nx r := fun B0 H0 B H σ st s D nx fn => by
  obtain ⟨a, xs, e, h0, hb, h1, hd⟩ := s.own i ds hi
  refine ⟨.ref a, e, .inl ⟨rfl, xs, .inl (.inl h1)⟩, h H0 B H σ st.dh s _ (fin_ok fun v B' H' st' dv => ?_)⟩
  have nb : B' a = none := st'.fr a (by rw [h1]; exact fun z => nomatch z) hb
  have t := st.trans st'
  refine ⟨a, xs, v, rfl, rfl, st'.h a _ h1, Evl.sz_lt (by rw [dps_len hd]; exact hz), nx σ B' _ _ ⟨t.d, Evl.Ex.mut t.h h0, fun b o q => ?_, t.fr⟩ ((s.mono st').push hi e h0 nb (dpsM st'.d hd) dv) n⟩
  rw [upd_ne (ne_of_none q nb)]
  exact t.dh b o q
/-- a list of one's own becomes data -/
theorem GS.freeze (i : Nat) (hi : ρ[i]? = some (some (.own ds))) (h : GS K E t (ρ.set i (some (.dat (.list ds)))) Nx r) : GS K E t ρ Nx r := fun B0 H0 B H σ st s D nx fn => by
  obtain ⟨a, xs, e, h0, hb, h1, hd⟩ := s.own i ds hi
  exact h B0 H0 (upd B a (.lst xs)) H σ (st.frz h0 hb h1) (s.freeze hi e hb h1 hd) D nx fn
theorem GS.weak {ρ' : Rho} (h : GS K E t ρ' Nx r) (hl : ρ'.length = ρ.length) (hw : ∀ (i : Nat) c, ρ'[i]? = some (some c) → ρ[i]? = some (some c)) : GS K E t ρ Nx r := fun B0 H0 B H σ st s D nx fn => h B0 H0 B H σ st (s.weak hl hw) D nx fn
/-- raise C(..) -/
def tRaise (E : XK) (C : Addr) : TS := fun _ _ H => E (.ref C) none H
theorem GS.raise {C : Addr} : GS K E (tRaise E C) ρ Nx (.exc C) := fun B0 H0 B H σ st s D nx fn => fn.up C rfl B H st none rfl

/-! ### loops -/
theorem GS.forR2 {ta : TA} {j : Nat} {tb : TS} {lo hi : Int} (h : GA K E ta ρ [.int lo, .int hi]) (hb : (-100000 ≤ lo ∧ lo ≤ 100000) ∧ -100000 ≤ hi ∧ hi ≤ 100000) (Inv : Nat → Rho → Prop) (h0 : Inv 0 ρ)
    (hs : ∀ (i : Nat) ρ', lo + (i : Int) < hi → Inv i ρ' → GS K E tb (ρ'.set j (some (.dat (.int (lo + i))))) (Inv (i + 1)) r) (hd : ∀ ρ', Inv (hi - lo).toNat ρ' → Nx ρ') : GS K E (tFor (iRng2 ta) (gName j) tb) ρ Nx r := fun B0 H0 B H σ st s D nx fn =>
  h H0 B H σ st.dh s _ fun vs B1 H1 s1 d1 => by
    cases d1 with
    | cons h1 t =>
      cases h1
      cases t with
      | cons h2 t =>
        cases h2; cases t
        refine ⟨lo, hi, rfl, ⟨by omega, by omega, by omega, by omega⟩, for_range (lo := lo) (n := (hi - lo).toNat) (fun i σ' H' => ∃ B' ρ', Step B0 H0 B' H' ∧ Sl K H0 B' H' σ' ρ' ∧ Inv i ρ') ⟨B1, ρ, st.trans s1, s.mono s1, h0⟩ ?_ ?_⟩
        · rintro i σ' H' hi' ⟨B', ρ', st', s', iv⟩
          exact hs i ρ' (by omega) iv B0 H0 B' H' _ st' (s'.setD j (.int _)) _ (fun σ2 B2 H2 ρ2 a b c => ⟨B2, ρ2, a, b, c⟩) fn
        · rintro σ' H' ⟨B', ρ', st', s', iv⟩
          exact nx σ' B' H' ρ' st' s' (hd ρ' iv)
theorem GS.forR1 {ta : TA} {j : Nat} {tb : TS} {hi : Int} (h : GA K E ta ρ [.int hi]) (hb : -100000 ≤ hi ∧ hi ≤ 100000) (Inv : Nat → Rho → Prop) (h0 : Inv 0 ρ)
    (hs : ∀ (i : Nat) ρ', (i : Int) < hi → Inv i ρ' → GS K E tb (ρ'.set j (some (.dat (.int (i : Int))))) (Inv (i + 1)) r) (hd : ∀ ρ', Inv hi.toNat ρ' → Nx ρ') : GS K E (tFor (iRng1 ta) (gName j) tb) ρ Nx r := fun B0 H0 B H σ st s D nx fn =>
  h H0 B H σ st.dh s _ fun vs B1 H1 s1 d1 => by
    cases d1 with
    | cons h1 t =>
      cases h1; cases t
      refine ⟨hi, rfl, by omega, by omega, for_range (lo := 0) (n := hi.toNat) (fun i σ' H' => ∃ B' ρ', Step B0 H0 B' H' ∧ Sl K H0 B' H' σ' ρ' ∧ Inv i ρ') ⟨B1, ρ, st.trans s1, s.mono s1, h0⟩ ?_ ?_⟩
      · rintro i σ' H' hi' ⟨B', ρ', st', s', iv⟩
        rw [show (0 : Int) + (i : Int) = (i : Int) from Int.zero_add _]
        exact hs i ρ' (by omega) iv B0 H0 B' H' _ st' (s'.setD j (.int _)) _ (fun σ2 B2 H2 ρ2 a b c => ⟨B2, ρ2, a, b, c⟩) fn
      · rintro σ' H' ⟨B', ρ', st', s', iv⟩
        exact nx σ' B' H' ρ' st' s' (hd ρ' iv)
theorem Step.base {B0 H0 B1 H1 : Hp} (s : Step B0 H0 B1 H1) : Step B1 H0 B1 H1 := ⟨Ex.refl B1, s.h, s.dh, fun _ _ n => n⟩
theorem Step.thru {B0 H0 B1 H1 B' H' : Hp} (s : Step B0 H0 B1 H1) (t : Step B1 H0 B' H') : Step B0 H0 B' H' := ⟨s.d.trans t.d, t.h, t.dh, fun a h n => t.fr a h (s.fr a h n)⟩
/-- for x in a list of data -/
theorem GS.forL {j : Nat} {tb : TS} {tl : TE} (h : GE K E tl ρ (.ok (.list ds))) (Inv : Nat → Rho → Prop) (h0 : Inv 0 ρ)
    (hs : ∀ (i : Nat) x ρ', ds[i]? = some x → Inv i ρ' → GS K E tb (ρ'.set j (some (.dat x))) (Inv (i + 1)) r) (hd : ∀ ρ', Inv ds.length ρ' → Nx ρ') : GS K E (tFor (iList K tl) (gName j) tb) ρ Nx r := fun B0 H0 B H σ st s D nx fn =>
  h H0 B H σ st.dh s _ (fin_ok fun v B1 H1 s1 d1 => by
    cases d1 with
    | @lst a xs ds hq ha =>
      have el := dps_len ha
      have st1 := st.trans s1
      have fn1 : Fin K E B1 H0 r D.rt := ⟨fun v B' H' t f => fn.go v B' H' (st1.thru t) f, fun C e B' H' t d => fn.up C e B' H' (st1.thru t) d⟩
      refine ⟨a, rfl, ⟨xs, ex_l s1.dh hq⟩, for_list (xs := xs) (fun i σ' H' => ∃ B' ρ', Step B1 H0 B' H' ∧ Sl K H0 B' H' σ' ρ' ∧ Inv i ρ') ⟨B1, ρ, st1.base, s.mono s1, h0⟩ ?_ ?_ ?_⟩
      · rintro i σ' H' _ ⟨B', ρ', st', s', iv⟩
        exact ex_l (st'.d.trans st'.dh) hq
      · rintro i x σ' H' hx ⟨B', ρ', st', s', iv⟩
        have hi : i < xs.length := (List.getElem?_eq_some_iff.mp hx).1
        have hd' : ds[i]? = some (ds[i]'(by omega)) := List.getElem?_eq_getElem _
        obtain ⟨u, e1, e2⟩ := dps_get ha hd'
        rw [hx] at e1
        cases e1
        exact hs i _ ρ' hd' iv B1 H0 B' H' _ st' (s'.setD j (dpM st'.d e2)) _ (fun σ2 B2 H2 ρ2 a b c => ⟨B2, ρ2, a, b, c⟩) fn1
      · rintro σ' H' ⟨B', ρ', st', s', iv⟩
        rw [el] at iv
        exact nx σ' B' H' ρ' (st1.thru st') s' (hd ρ' iv))
theorem GS.while {tb : TS} (Inv : Nat → Rho → Prop) (m0 : Nat) (h0 : Inv m0 ρ)
    (hs : ∀ m ρ', Inv m ρ' → ∃ b, GT K E tc ρ' b ∧ (b = true → GS K E tb ρ' (fun ρ2 => ∃ m', m' < m ∧ Inv m' ρ2) r) ∧ (b = false → Nx ρ')) : GS K E (tWhile tc tb) ρ Nx r := fun B0 H0 B H σ st s D nx fn => by
  refine ⟨fun m σ' H' => ∃ B' ρ', Step B0 H0 B' H' ∧ Sl K H0 B' H' σ' ρ' ∧ Inv m ρ', ⟨m0, B, ρ, st, s, h0⟩, ?_⟩
  rintro m σ' H' ⟨B', ρ', st', s', iv⟩
  obtain ⟨b, hb, h1, h2⟩ := hs m ρ' iv
  refine hb H0 B' H' σ' st'.dh s' _ fun B2 H2 s2 => ?_
  have st2 := st'.trans s2
  cases b with
  | true =>
    exact ⟨fun σ3 H3 => ∃ B3 ρ3, Step B0 H0 B3 H3 ∧ Sl K H0 B3 H3 σ3 ρ3 ∧ ∃ m', m' < m ∧ Inv m' ρ3, fun σ3 H3 ⟨B3, ρ3, a, b, m', hm, c⟩ => ⟨m', hm, B3, ρ3, a, b, c⟩,
      h1 rfl B0 H0 B2 H2 σ' st2 (s'.mono s2) _ (fun σ3 B3 H3 ρ3 a b c => ⟨B3, ρ3, a, b, c⟩) fn⟩
  | false => exact nx σ' B2 H2 ρ' st2 (s'.mono s2) (h2 rfl)
end

/-! ### defs -/
/-- the def x of the program's top keeps R, by at most level k -/
structure Fn (P : Program) (w : World) (K : PySem.W.Frag) (mg : Str → Option Value) (base : Heap) (k : Nat) (x : Str) (R : List PyData → Rs → Prop) : Prop where
  ex : ∃ (f : Addr) (fd : FuncData) (ps : List Str), FnOk P w K mg base (L2.CX P w) k f fd ps (spR K R) ∧ mg x = some (.ref f) ∧ PySem.W.keepIn K (.ref f) = true ∧ Binds K fd ps []
theorem pe_f {X : Cx} {P : Program} {w : World} {K : PySem.W.Frag} {mg : Str → Option Value} {base : Heap} {R : List PyData → Rs → Prop} {k j : Nat} {x : Str} {E : XK} {p pos : Pos} {e : Expr} {es : List Expr} {ta : TA} (C : Fn P w K mg base k x R) (hr : Room j X.A) (hk : k ≤ j) (pz : ∀ σ, PassesAt (L2.CX X.prog X.w) X σ E) (ha : PA X (e :: es) ta)
    (hP : X.prog = P := by rfl) (hw : X.w = w := by rfl) (hK : X.K = K := by rfl) (hmg : X.mg = mg := by rfl) (hB : X.base = base := by rfl) (hg : Gl X x := by rfl) (hdb : (x == ("__debug__" : Str)) = false := by decide) (he : starEach (e :: es) X.env = (false, eval e X.env) :: starEach es X.env := by rfl) (hpl : (backTo pos (starEach es X.env)).any (·.1) = false := by rfl) :
    PE X (.Call (.Name x p) (e :: es) [] pos) (tCallS (spR K R) (fun _ => E) ta) := by
  subst hP hw hK hmg hB
  obtain ⟨f, fd, ps, F, hm, hkp, hb⟩ := C.ex
  exact pe_callS F (hr.mono hk) hg hm hkp hb pz ha hdb he hpl
theorem pz0 {X : Cx} : ∀ σ, PassesAt (L2.CX X.prog X.w) X σ E0 := fun σ pins H s e s' I c => by
  obtain ⟨_, _, _, _, _, _, _, _, _, _, _, _, z⟩ := c
  exact z.elim
theorem sl_start {K : PySem.W.Frag} {B H : Hp} {N : List Str} {vs : List V} {ds : List PyData} (h : DpAll K B vs ds) : Sl K H B H (L2.start N vs) (ds.map (fun d => some (.dat d)) ++ List.replicate (N.length - ds.length) none) where
  len := by
    unfold L2.start
    rw [List.length_append, List.length_append, List.length_map, List.length_map, dps_len h, List.length_replicate, List.length_replicate]
  dat := fun i d e => by
    by_cases hi : i < ds.length
    · rw [List.getElem?_append_left (by simpa using hi), List.getElem?_map, List.getElem?_eq_getElem hi] at e
      cases e
      obtain ⟨v, e1, e2⟩ := dps_get h (List.getElem?_eq_getElem hi)
      refine ⟨v, ?_, e2⟩
      unfold L2.start
      rw [List.getElem?_append_left (by rw [List.length_map, dps_len h]; exact hi), List.getElem?_map, e1]
      rfl
    · rw [List.getElem?_append_right (by simpa using hi), List.getElem?_replicate] at e
      split at e <;> cases e
  own := fun i d e => by
    by_cases hi : i < ds.length
    · rw [List.getElem?_append_left (by simpa using hi), List.getElem?_map, List.getElem?_eq_getElem hi] at e
      cases e
    · rw [List.getElem?_append_right (by simpa using hi), List.getElem?_replicate] at e
      split at e <;> cases e
  sep := fun i j di dj _ e => by
    by_cases hi : i < ds.length
    · rw [List.getElem?_append_left (by simpa using hi), List.getElem?_map, List.getElem?_eq_getElem hi] at e
      cases e
    · rw [List.getElem?_append_right (by simpa using hi), List.getElem?_replicate] at e
      split at e <;> cases e
  fix := fun i d e => by
    by_cases hi : i < ds.length
    · rw [List.getElem?_append_left (by simpa using hi), List.getElem?_map, List.getElem?_eq_getElem hi] at e
      cases e
    · rw [List.getElem?_append_right (by simpa using hi), List.getElem?_replicate] at e
      split at e <;> cases e
section
variable {P : Program} {w : World} {K : PySem.W.Frag} {mg : Str → Option Value} {base : Heap}
theorem ok_fnk {x qual : Str} {st : Stmt} {f : Addr} {fd : FuncData} {N ps : List Str} {k : Nat} {R : List PyData → Rs → Prop} (F : Fun K x qual st f fd) (S : FnScope N ps (defScope st)) (len : ∀ ds r, R ds r → ds.length = ps.length)
    (body : ∀ (cdv : Value) (A : Around) (outer : List Env) (s : Shared) (H : Hp) (E : XK), Room k (A.deeper (envOfC qual (defScope st) s.heap.objs.size f cdv)) →
      ∃ t, PSs (cxOf (L2.CX P w) P w K mg base N qual (defScope st) f cdv A outer s H E) (defBody st) t ∧ ∀ ds r, R ds r → GS K E t (ds.map (fun d => some (.dat d)) ++ List.replicate (N.length - ds.length) none) (fun _ => r = .ok .none) r) : FnOk P w K mg base (L2.CX P w) (k + 1) f fd ps (spR K R) := by
  refine F.okX S (fun vs H Q E h => ?_) (fun cdv A outer s H vs Q E hr h => ?_)
  · obtain ⟨B, ds, r, bh, hd, hR, _⟩ := h
    rw [dps_len hd]
    exact len ds r hR
  · obtain ⟨B, ds, r, bh, hd, hR, fn⟩ := h
    obtain ⟨t, hp, g⟩ := body cdv A outer s H E hr
    refine ⟨t, hp, g ds r hR B H B H (L2.start N vs) (.refl bh) (sl_start hd) _ (fun σ' B' H' ρ' st s e => ?_) fn⟩
    subst e
    exact fn.go .non B' H' st .non
theorem ok_fn {x qual : Str} {st : Stmt} {f : Addr} {fd : FuncData} {N ps : List Str} {k : Nat} {R : List PyData → Rs → Prop} (F : Fun K x qual st f fd) (S : FnScope N ps (defScope st)) (hm : mg x = some (.ref f)) (b : Binds K fd ps []) (len : ∀ ds r, R ds r → ds.length = ps.length)
    (body : ∀ (cdv : Value) (A : Around) (outer : List Env) (s : Shared) (H : Hp) (E : XK), Room k (A.deeper (envOfC qual (defScope st) s.heap.objs.size f cdv)) →
      ∃ t, PSs (cxOf (L2.CX P w) P w K mg base N qual (defScope st) f cdv A outer s H E) (defBody st) t ∧ ∀ ds r, R ds r → GS K E t (ds.map (fun d => some (.dat d)) ++ List.replicate (N.length - ds.length) none) (fun _ => r = .ok .none) r) : Fn P w K mg base (k + 1) x R :=
  ⟨f, fd, ps, ok_fnk F S len body, hm, F.kp, b⟩
/-- nothing is asked -/
theorem fn_none {x qual : Str} {st : Stmt} {f : Addr} {fd : FuncData} {ps : List Str} {R : List PyData → Rs → Prop} (F : Fun K x qual st f fd) (hm : mg x = some (.ref f)) (b : Binds K fd ps []) (no : ∀ ds r, ¬ R ds r) : Fn P w K mg base 0 x R := by
  have n : ∀ vs H Q E, ¬ spR K R vs H Q E := fun vs H Q E h => by
    obtain ⟨B, ds, r, _, _, hR, _⟩ := h
    exact no ds r hR
  exact ⟨f, fd, ps, ⟨fun vs H Q E h => absurd h (n vs H Q E), fun A outer s H args us vs Q E _ _ _ _ h => absurd h (n vs H Q E)⟩, hm, F.kp, b⟩
theorem Fn.sub {k : Nat} {x : Str} {R R' : List PyData → Rs → Prop} (C : Fn P w K mg base k x R) (h : ∀ ds r, R' ds r → R ds r) : Fn P w K mg base k x R' := by
  obtain ⟨f, fd, ps, F, r⟩ := C.ex
  have im : ∀ vs H Q E, spR K R' vs H Q E → spR K R vs H Q E := fun vs H Q E ⟨B, ds, r, a, b, c, d⟩ => ⟨B, ds, r, a, b, h ds r c, d⟩
  exact ⟨f, fd, ps, ⟨fun vs H Q E q => F.len vs H Q E (im _ _ _ _ q), fun A outer s H args us vs Q E a b c d q => F.run A outer s H args us vs Q E a b c d (im _ _ _ _ q)⟩, r⟩
theorem Fn.up {k j : Nat} {x : Str} {R : List PyData → Rs → Prop} (C : Fn P w K mg base k x R) (h : k ≤ j) : Fn P w K mg base j x R := by
  obtain ⟨f, fd, ps, F, r⟩ := C.ex
  exact ⟨f, fd, ps, ⟨F.len, fun A outer s H args us vs Q E hr => F.run A outer s H args us vs Q E (hr.mono h)⟩, r⟩
/-- an own class of errors, over ValueError -/
structure ExC (K : PySem.W.Frag) (mg : Str → Option Value) (x : Str) (C : Addr) : Prop where
  g : mg x = some (.ref C)
  x : PySem.W.excIn K C [.type "ValueError", .type "Exception", .type "BaseException", .type "object"] "ValueError.__new__" = true
  k : PySem.W.keepIn K (.ref C) = true
  b : PySem.W.subIn K (.ref C) (.type "BaseException") = some true
  t : PySem.W.typeIn K (.ref C) = some (.type "type")
end
theorem ps_rs {X : Cx} {x m : Str} {C : Addr} {E : XK} {j : Nat} {p p2 pos pos' : Pos} (T : ExC X.K X.mg x C) (hc : X.calm = true) (tk : Takes X (fun cls d _ H => E cls d H)) (hg : Gl X x := by rfl) (hdb : (x == ("__debug__" : Str)) = false := by decide) :
    PS X (.Raise (some (.Call (.Name x p) [.Constant (.str m) j p2] [] pos)) none pos') (tRaise E C) :=
  ps_raise hc tk (pmk_own PySem.F.excBase_ValueError T.x T.g T.k (raises_own T.b T.t) hg hdb)
/-- the end of a law: True at every script -/
def RLaw (ds : List PyData) (r : Rs) : Prop := ∃ ns : List Int, ds = [.list (ns.map .int)] ∧ ns.length ≤ 63 ∧ r = .ok (.bool true)
theorem law_sp {K : PySem.W.Frag} {H : Hp} {a : Addr} {ns : List Int} (hl : ns.length ≤ 63) (hS : SqL K H a (ns.map V.int)) : spR K RLaw [.ref a] H (fun v _ => v = .bl true) fun _ _ _ => False :=
  ⟨H, _, _, Ex.refl H, .cons (.lst hS (dps_of_ints ns)) .nil, ⟨ns, rfl, hl, rfl⟩, fun v B' H' st f => by cases f; rfl, fun C e => nomatch e⟩

/-! ### rules whose written part is named -/
section
variable {X : Cx}
theorem ixL (K : PySem.W.Frag) (h : X.K = K := by rfl) : IxR X (rIxL K) := by subst h; exact ix_list
theorem ixT (K : PySem.W.Frag) (h : X.K = K := by rfl) : IxR X (rIxT K) := by subst h; exact ix_tup
theorem cLen (K : PySem.W.Frag) (h : X.K = K := by rfl) : CallR X (.builtin "len") (rLenQ K) := by subst h; exact call_lenQ
theorem cIsi (K : PySem.W.Frag) (h : X.K = K := by rfl) : CallR X (.builtin "isinstance") (rIsi K) := by subst h; exact call_isi
theorem cSum (K : PySem.W.Frag) (hc : X.calm = true := by rfl) (h : X.K = K := by rfl) : CallR X (.builtin "sum") (rSum K) := by subst h; exact cr_sum hc
theorem cMin (K : PySem.W.Frag) (hc : X.calm = true := by rfl) (h : X.K = K := by rfl) : CallR X (.builtin "min") (rMin K) := by subst h; exact cr_min hc
theorem oEqD (K : PySem.W.Frag) (hu : X.A.units + 64 < cLine) (h : X.K = K := by rfl) : OpR X (compareOp .Eq) (rEqD K) := by subst h; exact op_eqD hu
theorem oNeD (K : PySem.W.Frag) (hu : X.A.units + 64 < cLine) (h : X.K = K := by rfl) : OpR X (compareOp .NotEq) (rNeD K) := by subst h; exact op_neD hu
/-- a constant of the module -/
theorem pe_gl (v : V) {x : Str} {pos : Pos} (hm : ∃ u, X.mg x = some u ∧ RelV v u) (hg : Gl X x := by rfl) (hd : (x == ("__debug__" : Str)) = false := by decide) : PE X (.Name x pos) (tC v) := by
  obtain ⟨u, h1, h2⟩ := hm
  exact pe_glob hg h1 h2 hd
end

/-! ### the end of a law's row -/
theorem walkE {l : PySem.W.OpenLaw} {k : Nat} {q : Program} {loose : List Str} {XP : (Str → Option Value) → Heap → Prop} {YP : World → Heap → Prop} {d : DefRec} {K : Params → PySem.W.Frag} (hn : l.most = some 63) (hdf : d.params.defaults = []) (hr : Room k callerA)
    (hY : ∀ (w : World) (h : Heap), YP w h → (K w.params).In h)
    (F : ∀ (w : World) (mg : Str → Option Value) (fa : Addr) (h : Heap), (K w.params).In h → h.Ns mainGlobals mg → mg d.name = some (.ref fa) →
      ∃ fd : FuncData, (∀ (s : Shared) (u : Value), BindsTo s fd ⟨[u], []⟩ [("script", u)]) ∧ ∀ base : Heap, (K w.params).In base → base.Ns mainGlobals mg → FnOk l.prog w (K w.params) mg base (L2.CX l.prog w) k fa fd ["script"] (spR (K w.params) RLaw)) :
    PySem.W.WalkO q loose XP YP l.row.toRowW d [] (fun f vs => PySem.call f vs) :=
  L2.walk_of (n := 63) (k := k) (x := "script") (CX := fun w => L2.CX l.prog w) (sp := fun w => spR (K w.params) RLaw) hn (by decide) hdf hr hY F (fun _ _ _ _ hl _ hS => law_sp hl hS) fun w H s e s' h => by
    obtain ⟨_, _, _, _, _, _, _, _, _, _, _, _, z⟩ := h
    exact z

/-! ### list(range(a, b)) -/
theorem GE.lrg {K : PySem.W.Frag} {E : XK} {ρ : Rho} {ta tb : TE} {a b : Int} (ha : GE K E ta ρ (.ok (.int a))) (hb : GE K E tb ρ (.ok (.int b))) (hz : RgOk a b) : GE K E (tLstRg (tRg2 ta tb)) ρ (.new (((List.range (b - a).toNat).map fun i : Nat => a + (i : Int)).map PyData.int)) := fun H0 B H σ bh s Q q =>
  ha H0 B H σ bh s _ (fin_ok fun v B1 H1 s1 d1 => hb H0 B1 H1 σ s1.dh (s.mono s1) _ (fin_ok fun w B2 H2 s2 d2 => by
    cases d1; cases d2
    refine ⟨a, b, rfl, rfl, hz, fun p hp => ?_⟩
    have s3 := s1.trans s2
    refine q.go _ B2 _ (s3.trans (.own s2.dh hp _)) ⟨p, rgV a b, rfl, fresh_back s3.h hp, none_of s2.dh hp, upd_same, ?_⟩
    have e : rgV a b = ((List.range (b - a).toNat).map fun i : Nat => a + (i : Int)).map V.int := by
      unfold rgV
      rw [List.map_map]
      rfl
    rw [e]
    exact dps_of_ints _))
theorem sh_ints (ns : List Int) : SeqAt.shaped (.list (ns.map PyData.int)) = true := by
  have h1 : ∀ ns : List Int, PyData.canLayAll0 (ns.map PyData.int) = true := fun ns => by
    induction ns with
    | nil => rfl
    | cons n ns ih => simp [PyData.canLayAll0, PyData.canLay0, ih]
  have h2 : ∀ ns : List Int, PyData.depthAll (ns.map PyData.int) = 0 := fun ns => by
    induction ns with
    | nil => rfl
    | cons n ns ih => simp [PyData.depthAll, PyData.depth, ih]
  unfold SeqAt.shaped
  simp [PyData.canLay0, PyData.depth, h1 ns, h2 ns]
theorem eqv_self {d : PyData} (h : SeqAt.shaped d = true) : PyData.eqv d d = true := SeqAt.eqv_refl _ (SeqAt.canLay_of_shaped h)

/-! ### comparisons that look at lists of one's own too -/
section
variable {K : PySem.W.Frag} {E : XK} {B H : Hp} {Q : VK} {ρ : Rho} {ta tb te : TE} {x y z d : PyData} {ds es : List PyData} {r r1 r2 : Rs} {Nx : Rho → Prop}
inductive IsD : Rs → PyData → Prop
  | ok (d : PyData) : IsD (.ok d) d
  | new (ds : List PyData) : IsD (.new ds) (.list ds)
  | ali (ds : List PyData) : IsD (.ali ds) (.list ds)
theorem isd_at {H0 : Hp} {v : V} (i : IsD r d) (bh : Ex B H) (f : Vok K H0 B H v r) : Dp K H v d := by
  cases i with
  | ok => exact dpM bh f
  | new =>
    obtain ⟨a, xs, rfl, h0, hb, h1, hd⟩ := f
    exact .lst (.inl (.inl h1)) (dpsM bh hd)
  | ali =>
    obtain ⟨a, xs, rfl, h1, hd⟩ := f
    exact .lst (.inl (.inl h1)) (dpsM bh hd)
theorem IsD.fin (i : IsD r d) (h : ∀ v B' H', Step B H B' H' → Vok K H B' H' v r → Q v H') : Fin K E B H r Q := ⟨h, fun C e => by cases i <;> cases e⟩
def RH (K : PySem.W.Frag) (r : R2) (x y : PyData) (b : Bool) : Prop := ∀ H v w, Dp K H v x → Dp K H w y → ∀ Q : VK, Q (.bl b) H → r v w H Q
theorem GE.opH {rr : R2} {b : Bool} (ha : GE K E ta ρ r1) (h1 : IsD r1 x) (hb : GE K E tb ρ r2) (h2 : IsD r2 y) (hr : RH K rr x y b) : GE K E (tOp rr ta tb) ρ (.ok (.bool b)) := fun H0 B H σ bh s Q q =>
  ha H0 B H σ bh s _ (h1.fin fun v B1 H1 s1 d1 => hb H0 B1 H1 σ s1.dh (s.mono s1) _ (h2.fin fun w B2 H2 s2 d2 =>
    hr H2 v w (isd_at h1 s2.dh (d1.mono s2)) (isd_at h2 s2.dh d2) Q (q.go _ B2 H2 (s1.trans s2) (.bl b))))
theorem rh_eq (hx : SeqAt.shaped x = true) (hy : SeqAt.shaped y = true) : RH K (rEqD K) x y (PyData.eqv x y) := fun H v w h1 h2 Q q => ⟨x, y, h1, h2, hx, hy, q⟩
theorem rh_ne (hx : SeqAt.shaped x = true) (hy : SeqAt.shaped y = true) : RH K (rNeD K) x y (!PyData.eqv x y) := fun H v w h1 h2 Q q => ⟨x, y, h1, h2, hx, hy, q⟩
theorem rh_in (hx : SeqAt.shaped x = true) (hy : SeqAt.shaped (.list ds) = true) : RH K (rInD K) x (.list ds) (ds.any fun z => PyData.eqv z x) := fun H v w h1 h2 Q q => ⟨x, ds, h1, h2, hx, hy, q⟩
theorem oInD {X : Cx} (K : PySem.W.Frag) (hu : X.A.units + 65 < cLine) (h : X.K = K := by rfl) : OpR X (compareOp .In) (rInD K) := by subst h; exact op_inD hu
/-- list(xs) -/
def rListQ (K : PySem.W.Frag) : List V → Hp → VK → Prop := fun xs H Q => ∃ p ys, xs = [.ref p] ∧ (SqL K H p ys ∨ SqT K H p ys) ∧ ∀ l, H l = none → Q (.ref l) (upd H l (.lst ys))
theorem cList {X : Cx} (K : PySem.W.Frag) (h : X.K = K := by rfl) : CallR X (.type "list") (rListQ K) := by subst h; exact call_list_of
theorem GE.list (h : GE K E te ρ r) (i : IsSq r ds) : GE K E (tCB (rListQ K) (tCons te tNil)) ρ (.new ds) := fun H0 B H σ bh s Q q =>
  h H0 B H σ bh s _ (i.fin fun v B1 H1 s1 d1 => by
    obtain ⟨a, xs, rfl, hs, hd⟩ := sq_at i s1.dh d1
    exact ⟨a, xs, rfl, hs, fun p hp => q.go _ B1 _ (s1.trans (.own s1.dh hp _)) ⟨p, xs, rfl, fresh_back s1.h hp, none_of s1.dh hp, upd_same, hd⟩⟩)
/-- for x in a list of one's own, in slot i, that the turns leave as it is -/
theorem GS.forOwn {j : Nat} {tb : TS} (i : Nat) (hi : ρ[i]? = some (some (.own ds))) (Inv : V → Nat → Rho → Prop) (h0 : ∀ v, Inv v 0 (ρ.set i (some (.fix v))))
    (hs : ∀ v (m : Nat) x ρ', ds[m]? = some x → Inv v m ρ' → GS K E tb (ρ'.set j (some (.dat x))) (Inv v (m + 1)) r) (hd : ∀ v ρ', Inv v ds.length ρ' → ρ'[i]? = some (some (.fix v)) ∧ Nx (ρ'.set i (some (.own ds)))) : GS K E (tFor (iList K (tVar i)) (gName j) tb) ρ Nx r := fun B0 H0 B H σ st s D nx fn => by
  obtain ⟨a, xs, e, a0, ab, a1, ad⟩ := s.own i ds hi
  have el := dps_len ad
  have exn : Ex H0 (upd H0 a (.lst xs)) := Ex.new a0
  have st1 : Step B (upd H0 a (.lst xs)) B H := ⟨Ex.refl B, fun b o q => by
    by_cases z : b = a
    · subst z
      rw [upd_same] at q
      rw [a1]
      exact q
    · rw [upd_ne z] at q
      exact st.h b o q, st.dh, fun _ _ n => n⟩
  have th : ∀ {B' H' : Hp}, Step B (upd H0 a (.lst xs)) B' H' → Step B0 H0 B' H' := fun {B' H'} t => ⟨st.d.trans t.d, exn.trans t.h, t.dh, fun b hb hn => t.fr b (ex_some exn hb) (st.fr b hb hn)⟩
  have fn1 : Fin K E B (upd H0 a (.lst xs)) r D.rt := ⟨fun v B' H' t f => fn.go v B' H' (th t) (f.back exn), fun C e B' H' t d => fn.up C e B' H' (th t) d⟩
  have sl : Sl K (upd H0 a (.lst xs)) B H σ (ρ.set i (some (.fix (.ref a)))) := by
    refine ⟨by rw [List.length_set, s.len], fun m d h => ?_, fun m es h => ?_, fun m k dm dk hmk hm hk => ?_, fun m v h => ?_⟩
    · rcases set_get h with ⟨_, q⟩ | ⟨_, q⟩
      · cases q
      · exact s.dat m d q
    · rcases set_get h with ⟨_, q⟩ | ⟨n, q⟩
      · cases q
      · obtain ⟨b, ys, e1, e2, e3, e4, e5⟩ := s.own m es q
        refine ⟨b, ys, e1, ?_, e3, e4, e5⟩
        rw [upd_ne (fun z => s.sep i m ds es n hi q (by rw [e, e1, z]))]
        exact e2
    · rcases set_get hm with ⟨_, q⟩ | ⟨_, q⟩
      · cases q
      · rcases set_get hk with ⟨_, q'⟩ | ⟨_, q'⟩
        · cases q'
        · exact s.sep m k dm dk hmk q q'
    · rcases set_get h with ⟨rfl, q⟩ | ⟨_, q⟩
      · cases q
        exact e
      · exact s.fix m v q
  refine ⟨.ref a, e, a, rfl, ⟨xs, .inl (.inl a1)⟩, for_list (xs := xs) (fun m σ' H' => ∃ B' ρ', Step B (upd H0 a (.lst xs)) B' H' ∧ Sl K (upd H0 a (.lst xs)) B' H' σ' ρ' ∧ Inv (.ref a) m ρ') ⟨B, _, st1, sl, h0 _⟩ ?_ ?_ ?_⟩
  · rintro m σ' H' _ ⟨B', ρ', t, _, _⟩
    exact .inl (.inl (t.h a _ upd_same))
  · rintro m x σ' H' hx ⟨B', ρ', t, s', iv⟩
    have hm : m < xs.length := (List.getElem?_eq_some_iff.mp hx).1
    have hd' : ds[m]? = some (ds[m]'(by omega)) := List.getElem?_eq_getElem _
    obtain ⟨u, e1, e2⟩ := dps_get ad hd'
    rw [hx] at e1
    cases e1
    exact hs _ m _ ρ' hd' iv B (upd H0 a (.lst xs)) B' H' _ t (s'.setD j (dpM t.d e2)) _ (fun σ2 B2 H2 ρ2 x y z => ⟨B2, ρ2, x, y, z⟩) fn1
  · rintro σ' H' ⟨B', ρ', t, s', iv⟩
    rw [el] at iv
    obtain ⟨hf, hn⟩ := hd _ ρ' iv
    have ea : σ'[i]? = some (some (.ref a)) := s'.fix i _ hf
    have ba : B' a = none := t.fr a (by rw [upd_same]; exact fun z => nomatch z) ab
    have ha : H' a = some (.lst xs) := t.h a _ upd_same
    refine nx σ' B' H' _ (th t) ?_ hn
    have base : Sl K H0 B' H' σ' ρ' := ⟨s'.len, s'.dat, fun m es h => by
      obtain ⟨b, ys, e1, e2, r⟩ := s'.own m es h
      exact ⟨b, ys, e1, fresh_back exn e2, r⟩, s'.sep, s'.fix⟩
    have key := base.setN i a0 ba ha (dpsM t.d ad) fun m dm q z => by
      obtain ⟨b, ys, e1, e2, _⟩ := s'.own m dm q
      rw [e1] at z
      cases z
      rw [upd_same] at e2
      cases e2
    have eσ : σ'.set i (some (.ref a)) = σ' := by
      refine List.ext_getElem? fun m => ?_
      by_cases z : i = m
      · subst z
        rw [List.getElem?_set_self (lt_of_get ea), ea]
      · rw [List.getElem?_set_ne z]
    rw [eσ] at key
    exact key
end
end Eg
namespace Eg
open PySem PySem.Spec PyProof.Rows L2
/-! ### how many floors are told apart -/
def rch : Nat → Nat → Nat
  | 0, _ => 0
  | _ + 1, 0 => 0
  | k + 1, t + 1 => rch (k + 1) t + rch k t + 1
theorem rch_next (k t : Nat) : rch (k + 1) (t + 1) = rch (k + 1) t + rch k t + 1 := rfl
theorem rch_zero : ∀ k : Nat, rch k 0 = 0
  | 0 => rfl
  | _ + 1 => rfl
def rowD (n t : Nat) : List PyData := (List.range (n + 1)).map fun k => .int (rch k t)
theorem rowD_len (n t : Nat) : (rowD n t).length = n + 1 := by
  unfold rowD
  rw [List.length_map, List.length_range]
theorem flat_one {α : Type} (x : α) : ∀ m : Nat, (List.replicate m [x]).flatten = List.replicate m x
  | 0 => rfl
  | m + 1 => by
    rw [List.replicate_succ, List.flatten_cons, flat_one x m]
    rfl
theorem row_start {n : Nat} : Rs.new (List.replicate ((n : Int) + 1).toNat [PyData.int 0]).flatten = Rs.new (rowD n 0) := by
  rw [flat_one, show ((n : Int) + 1).toNat = n + 1 by omega]
  refine congrArg Rs.new (List.ext_getElem? fun i => ?_)
  unfold rowD
  rw [List.getElem?_replicate, List.getElem?_map]
  by_cases h : i < n + 1
  · rw [if_pos h, List.getElem?_range h, Option.map_some, rch_zero]
    rfl
  · rw [if_neg h, List.getElem?_eq_none (by rw [List.length_range]; omega)]
    rfl
theorem row_next {n t : Nat} : Rs.new ([PyData.int 0] ++ given ((n : Int) + 1 - 1).toNat (fun _ => true) (fun j => PyData.int (rch (j + 1) (t + 1)))) = Rs.new (rowD n (t + 1)) := by
  rw [given_all, show ((n : Int) + 1 - 1).toNat = n by omega]
  unfold rowD
  rw [List.range_succ_eq_map, List.map_cons, List.map_map]
  rfl
theorem atI_nat' {α : Type} {xs : List α} {i : Int} {j : Nat} {x : α} (e : i = (j : Int)) (h : xs[j]? = some x) : atI xs i = some x := by
  subst e
  exact atI_nat h
theorem row_at {n t j : Nat} {i : Int} (e : i = (j : Int)) (h : j ≤ n) : atI (rowD n t) i = some (.int (rch j t)) := by
  refine atI_nat' e ?_
  unfold rowD
  rw [List.getElem?_map, List.getElem?_range (by omega)]
  rfl
def R_rows (ds : List PyData) (r : Rs) : Prop := ∃ n t : Nat, ds = [.int n, .int t] ∧ n ≤ 12 ∧ t ≤ 1000 ∧ r = .new (rowD n t)
end Eg
namespace Eg
open PySem PySem.Spec PyProof.Rows L2
def badR (n t : Int) : Bool := decide (n < 0) || (decide (12 < n) || (decide (t < 0) || decide (200 < t)))
theorem badR_no {n t : Int} (h : badR n t = false) : ∃ n' t' : Nat, n = n' ∧ t = t' ∧ n' ≤ 12 ∧ t' ≤ 200 := by
  unfold badR at h
  simp only [Bool.or_eq_false_iff, decide_eq_false_iff_not] at h
  exact ⟨n.toNat, t.toNat, by omega, by omega, by omega, by omega⟩
def R_reach (C : Addr) (ds : List PyData) (r : Rs) : Prop := ∃ n t : Int, ds = [.int n, .int t] ∧ r = if badR n t = true then .exc C else .ok (.int (rch n.toNat t.toNat))
theorem R_reach_ok {C : Addr} {n t : Nat} (hn : n ≤ 12) (ht : t ≤ 200) : R_reach C [.int n, .int t] (.ok (.int (rch n t))) := by
  refine ⟨n, t, rfl, ?_⟩
  have h : badR n t = false := by
    unfold badR
    simp only [Bool.or_eq_false_iff, decide_eq_false_iff_not]
    omega
  rw [if_neg (by rw [h]; decide)]
  rfl
/-! ### cells -/
def cell (ns : List Int) (k : Nat) : Int := ns.getD k 0
theorem cell_in {ns : List Int} {k : Nat} (h : k < ns.length) : atI (ns.map PyData.int) (k : Int) = some (.int (cell ns k)) := by
  refine atI_nat ?_
  rw [List.getElem?_map, List.getElem?_eq_getElem h]
  show some (PyData.int ns[k]) = _
  unfold cell
  rw [List.getD_eq_getElem?_getD, List.getElem?_eq_getElem h]
  rfl
theorem cell_out {ns : List Int} {k : Nat} (h : ns.length ≤ k) : cell ns k = 0 := by
  unfold cell
  rw [List.getD_eq_getElem?_getD, List.getElem?_eq_none h]
  rfl
def R_cell (ds : List PyData) (r : Rs) : Prop := ∃ (ns : List Int) (k : Nat), ds = [.list (ns.map .int), .int k] ∧ r = .ok (.int (cell ns k))
def R_whole (ds : List PyData) (r : Rs) : Prop := ∃ i : Int, ds = [.int i] ∧ r = .ok (.bool true)
theorem mod_nat (i : Int) {m : Int} (h : 0 < m) : ∃ n : Nat, (n : Int) < m ∧ i % m = n := by
  have h1 := Int.emod_nonneg i (show m ≠ 0 by omega)
  have h2 := Int.emod_lt_of_pos i h
  exact ⟨(i % m).toNat, by omega, by omega⟩
/-! ### ways to choose -/
def ch : Nat → Nat → Nat
  | _, 0 => 1
  | 0, _ + 1 => 0
  | n + 1, k + 1 => ch n k + ch n (k + 1)
theorem ch_zero (n : Nat) : ch n 0 = 1 := by cases n <;> rfl
theorem ch_next (n k : Nat) : ch (n + 1) (k + 1) = ch n k + ch n (k + 1) := rfl
theorem ch_big : ∀ {n k : Nat}, n < k → ch n k = 0
  | 0, k + 1, _ => rfl
  | n + 1, k + 1, h => by rw [ch_next, ch_big (show n < k by omega), ch_big (show n < k + 1 by omega)]
/-- (k + 1) C(n, k + 1) = (n - k) C(n, k) -/
theorem ch_mul : ∀ (n k : Nat), ((k : Int) + 1) * (ch n (k + 1) : Int) = ((n : Int) - k) * (ch n k : Int)
  | 0, 0 => by simp [ch]
  | 0, k + 1 => by simp [ch]
  | n + 1, 0 => by
    have ih := ch_mul n 0
    rw [ch_next, ch_zero, ch_zero]
    rw [ch_zero] at ih
    push_cast at ih ⊢
    omega
  | n + 1, k + 1 => by
    have h1 := ch_mul n k
    have h2 := ch_mul n (k + 1)
    rw [ch_next n (k + 1), ch_next n k]
    push_cast at h1 h2 ⊢
    generalize (ch n k : Int) = a at h1 h2 ⊢
    generalize (ch n (k + 1) : Int) = c at h1 h2 ⊢
    generalize (ch n (k + 1 + 1) : Int) = d at h1 h2 ⊢
    have e1 : ((k : Int) + 1 + 1) * (c + d) = ((k : Int) + 1) * c + c + ((k : Int) + 1 + 1) * d := by
      rw [Int.mul_add, Int.add_mul ((k : Int) + 1) 1 c, Int.one_mul]
    have e2 : ((n : Int) + 1 - ((k : Int) + 1)) * (a + c) = ((n : Int) - k) * a + (((n : Int) - ((k : Int) + 1)) * c + c) := by
      rw [show (n : Int) + 1 - ((k : Int) + 1) = (n : Int) - k by omega, Int.mul_add, show (n : Int) - k = ((n : Int) - ((k : Int) + 1)) + 1 by omega, Int.add_mul ((n : Int) - ((k : Int) + 1)) 1 c, Int.one_mul]
    rw [e1, e2, h1, h2]
    omega
theorem ch_step {m i : Nat} : ((ch m i : Int) * ((m : Int) - (i : Int))) / ((i : Int) + 1) = (ch m (i + 1) : Int) := by
  rw [Int.mul_comm, ← ch_mul m i]
  exact Int.mul_ediv_cancel_left _ (by omega)
def R_choose (ds : List PyData) (r : Rs) : Prop := ∃ m k : Nat, ds = [.int m, .int k] ∧ m ≤ 1000 ∧ k ≤ 12 ∧ r = .ok (.int (ch m k))
/-- their sum -/
def chs (d : Nat) : Nat → Nat
  | 0 => 0
  | t + 1 => chs d t + ch d (t + 1)
theorem chs_rch : ∀ (d t : Nat), chs d t = rch t d ∧ chs (d + 1) (t + 1) = chs d (t + 1) + chs d t + 1
  | d, 0 => by
    constructor
    · cases d <;> rfl
    · show chs (d + 1) 0 + ch (d + 1) 1 = chs d 0 + ch d 1 + chs d 0 + 1
      rw [ch_next, ch_zero]
      show 0 + (1 + ch d 1) = 0 + ch d 1 + 0 + 1
      omega
  | d, t + 1 => by
    have h := (chs_rch d t).2
    constructor
    · cases d with
      | zero =>
        have z : ∀ t, chs 0 t = 0 := fun t => by
          induction t with
          | zero => rfl
          | succ t ih =>
            show chs 0 t + ch 0 (t + 1) = 0
            rw [ih]
            rfl
        rw [z]
        rfl
      | succ d =>
        rw [(chs_rch d t).2, rch_next, (chs_rch d t).1, (chs_rch d (t + 1)).1]
    · show chs (d + 1) (t + 1) + ch (d + 1) (t + 1 + 1) = chs d (t + 1) + ch d (t + 1 + 1) + chs d (t + 1) + 1
      rw [h, ch_next]
      show _ = chs d (t + 1) + ch d (t + 1 + 1) + (chs d t + ch d (t + 1)) + 1
      omega
  termination_by d t => (d, t)
theorem chs_sum (d : Nat) : ∀ t : Nat, ((List.range t).map fun i => (ch d (i + 1) : Int)).sum = (chs d t : Int)
  | 0 => rfl
  | t + 1 => by
    rw [List.range_succ, List.map_append, List.sum_append, chs_sum d t]
    show (chs d t : Int) + ((ch d (t + 1) : Int) + 0) = ((chs d t + ch d (t + 1) : Nat) : Int)
    push_cast
    omega
theorem chs_min (d : Nat) : ∀ t : Nat, chs d (min t d) = chs d t
  | 0 => by rw [Nat.zero_min]
  | t + 1 => by
    by_cases h : t + 1 ≤ d
    · rw [Nat.min_eq_left h]
    · have ih := chs_min d t
      rw [show min (t + 1) d = min t d by omega, ih]
      show _ = chs d t + ch d (t + 1)
      rw [ch_big (show d < t + 1 by omega)]
      rfl
theorem rch_sum (t : Nat) (d : Int) (h : -1 ≤ d) : Rs.ok (PyData.int ((List.range (min (t : Int) d).toNat).map fun i => (ch d.toNat (i + 1) : Int)).sum) = Rs.ok (.int (rch t d.toNat)) := by
  rw [chs_sum, ← (chs_rch d.toNat t).1, ← chs_min d.toNat t]
  by_cases hd : 0 ≤ d
  · rw [show (min (t : Int) d).toNat = min t d.toNat by omega]
  · rw [show (min (t : Int) d).toNat = 0 by omega, show d.toNat = 0 by omega, Nat.min_zero]
def R_lreach (ds : List PyData) (r : Rs) : Prop := ∃ (t : Nat) (d : Int), ds = [.int t, .int d] ∧ t ≤ 12 ∧ -1 ≤ d ∧ d ≤ 1000 ∧ r = .ok (.int (rch t d.toNat))
end Eg
namespace Eg
open PySem PySem.Spec PyProof.Rows L2
/-! ### the fewest drops -/
def badA1 (n t : Int) : Bool := decide (n < 0) || (decide (1000 < n) || (decide (t < 0) || decide (12 < t)))
def badA2 (n t : Int) : Bool := decide (0 < n) && decide (t = 0)
def badA (n t : Int) : Bool := badA1 n t || badA2 n t
theorem badA_no {n t : Int} (h : ¬ badA n t = true) : ∃ n' t' : Nat, n = n' ∧ t = t' ∧ n' ≤ 1000 ∧ t' ≤ 12 ∧ (n' = 0 ∨ 1 ≤ t') := by
  unfold badA badA1 badA2 at h
  simp only [Bool.or_eq_true, Bool.and_eq_true, decide_eq_true_eq] at h
  exact ⟨n.toNat, t.toNat, by omega, by omega, by omega, by omega, by omega⟩
theorem badA_of {n t : Nat} (h1 : n ≤ 1000) (h2 : t ≤ 12) (h3 : n = 0 ∨ 1 ≤ t) : ¬ badA n t = true := by
  unfold badA badA1 badA2
  simp only [Bool.or_eq_true, Bool.and_eq_true, decide_eq_true_eq]
  omega
def R_ask (C : Addr) (ds : List PyData) (r : Rs) : Prop := ∃ n t : Int, ds = [.int n, .int t] ∧ r = if badA n t = true then .exc C else .ok .none
theorem rch_0 (t : Nat) : rch 0 t = 0 := by cases t <;> rfl
theorem rch_mono (k : Nat) : ∀ t : Nat, rch k t ≤ rch k (t + 1) := by
  cases k with
  | zero => exact fun t => by rw [rch_0, rch_0]; exact Nat.le_refl _
  | succ k =>
    intro t
    rw [rch_next]
    omega
theorem rch_le (k : Nat) {s t : Nat} (h : s ≤ t) : rch k s ≤ rch k t := by
  induction h with
  | refl => exact Nat.le_refl _
  | step _ ih => exact Nat.le_trans ih (rch_mono k _)
theorem rch_ge (k : Nat) : ∀ t : Nat, t ≤ rch (k + 1) t
  | 0 => Nat.zero_le _
  | t + 1 => by
    have ih := rch_ge k t
    rw [rch_next]
    omega
theorem rch_pos {k t : Nat} (hk : 1 ≤ k) (ht : 1 ≤ t) : rch k t = rch k (t - 1) + rch (k - 1) (t - 1) + 1 := by
  obtain ⟨k, rfl⟩ : ∃ j, k = j + 1 := ⟨k - 1, by omega⟩
  obtain ⟨t, rfl⟩ : ∃ j, t = j + 1 := ⟨t - 1, by omega⟩
  exact rch_next k t
def needF (k f : Nat) : Nat → Nat → Nat
  | 0, t => t
  | n + 1, t => if f ≤ rch k t then t else needF k f n (t + 1)
/-- the least number of drops whose reach is f or more -/
def need (k f : Nat) : Nat := needF k f f 0
structure IsNeed (k f t : Nat) : Prop where
  ge : f ≤ rch k t
  lt' : ∀ s, s < t → rch k s < f
theorem IsNeed.lt {k f t s : Nat} (h : IsNeed k f t) (hs : rch k s < f) : s < t := by
  by_cases q : s < t
  · exact q
  · have := rch_le k (show t ≤ s by omega)
    have := h.ge
    omega
theorem IsNeed.le {k f t s : Nat} (h : IsNeed k f t) (hs : f ≤ rch k s) : t ≤ s := by
  by_cases q : t ≤ s
  · exact q
  · have := h.lt' s (by omega)
    omega
theorem IsNeed.pos {k f t : Nat} (h : IsNeed k f t) (hf : 1 ≤ f) : 1 ≤ t := by
  by_cases q : 1 ≤ t
  · exact q
  · have e : t = 0 := by omega
    subst e
    have := h.ge
    rw [rch_zero] at this
    omega
theorem IsNeed.uniq {k f t s : Nat} (h : IsNeed k f t) (g : IsNeed k f s) : t = s := Nat.le_antisymm (h.le g.ge) (g.le h.ge)
theorem needF_spec {k f : Nat} : ∀ (n t : Nat), f ≤ rch k (t + n) → (∀ s, s < t → rch k s < f) → IsNeed k f (needF k f n t)
  | 0, t, h, hl => ⟨h, hl⟩
  | n + 1, t, h, hl => by
    unfold needF
    split
    · next q => exact ⟨q, hl⟩
    · next q => exact needF_spec n (t + 1) (by rw [show t + 1 + n = t + (n + 1) by omega]; exact h) (fun s hs => by
        by_cases e : s = t
        · subst e
          omega
        · exact hl s (by omega))
theorem need_spec {k f : Nat} (h : f = 0 ∨ 1 ≤ k) : IsNeed k f (need k f) := by
  refine needF_spec f 0 ?_ fun s hs => by omega
  rcases h with rfl | h
  · exact Nat.zero_le _
  · obtain ⟨k, rfl⟩ : ∃ j, k = j + 1 := ⟨k - 1, by omega⟩
    rw [Nat.zero_add]
    exact rch_ge k f
theorem need_le {k f : Nat} (h : 1 ≤ k) : need k f ≤ f := by
  refine (need_spec (.inr h)).le ?_
  obtain ⟨k, rfl⟩ : ∃ j, k = j + 1 := ⟨k - 1, by omega⟩
  exact rch_ge k f
def R_needed (ds : List PyData) (r : Rs) : Prop := ∃ f n : Nat, ds = [.int f, .int n] ∧ f ≤ 1000 ∧ n ≤ 12 ∧ (f = 0 ∨ 1 ≤ n) ∧ r = .ok (.int (need n f))
def R_fewest (C : Addr) (ds : List PyData) (r : Rs) : Prop := ∃ n t : Int, ds = [.int n, .int t] ∧ r = if badA n t = true then .exc C else .ok (.int (need t.toNat n.toNat))
theorem R_fewest_ok {C : Addr} {n t : Nat} (h1 : n ≤ 1000) (h2 : t ≤ 12) (h3 : n = 0 ∨ 1 ≤ t) : R_fewest C [.int n, .int t] (.ok (.int (need t n))) := ⟨n, t, rfl, by rw [if_neg (badA_of h1 h2 h3)]; rfl⟩
/-- the first drops -/
def loD (k f : Nat) : Int := max 1 ((f : Int) - (rch k (need k f - 1) : Int))
def hiD (k f : Nat) : Int := min (f : Int) ((rch (k - 1) (need k f - 1) : Int) + 1)
def R_first (ds : List PyData) (r : Rs) : Prop := ∃ f n : Nat, ds = [.int f, .int n] ∧ 1 ≤ f ∧ f ≤ 1000 ∧ 1 ≤ n ∧ n ≤ 12 ∧ r = .ok (.tuple [.int (loD n f), .int (hiD n f)])
def R_choices (C : Addr) (ds : List PyData) (r : Rs) : Prop := ∃ n t : Int, ds = [.int n, .int t] ∧ r = if badA n t = true then .exc C else if n = 0 then .ok .none else .ok (.tuple [.int (loD t.toNat n.toNat), .int (hiD t.toNat n.toNat)])
theorem R_choices_ok {C : Addr} {n t : Nat} (h0 : 1 ≤ n) (h1 : n ≤ 1000) (h2 : t ≤ 12) (h3 : 1 ≤ t) : R_choices C [.int n, .int t] (.ok (.tuple [.int (loD t n), .int (hiD t n)])) :=
  ⟨n, t, rfl, by rw [if_neg (badA_of h1 h2 (.inr h3)), if_neg (by omega)]; rfl⟩
theorem R_choices_none {C : Addr} {t : Nat} (h2 : t ≤ 12) : R_choices C [.int (0 : Nat), .int t] (.ok .none) :=
  ⟨((0 : Nat) : Int), t, rfl, by rw [if_neg (badA_of (by omega) h2 (.inl rfl)), if_pos (show ((0 : Nat) : Int) = 0 from rfl)]⟩
def R_pair (ds : List PyData) (r : Rs) : Prop := ∃ x y : Int, ds = [.tuple [.int x, .int y]] ∧ r = .ok (.bool true)
/-- the bounds of the first drops -/
theorem lo_hi {k f : Nat} (hk : 1 ≤ k) (hf : 1 ≤ f) : 1 ≤ loD k f ∧ loD k f ≤ hiD k f ∧ hiD k f ≤ f := by
  have sp := need_spec (k := k) (f := f) (.inr hk)
  have hp := sp.pos hf
  have h1 := rch_pos (k := k) (t := need k f) hk hp
  have h2 := sp.ge
  have h3 := sp.lt' (need k f - 1) (by omega)
  unfold loD hiD
  omega
/-- d is a first drop by what is left on both sides -/
theorem lo_hi_iff {k f : Nat} (d : Int) (h1 : 1 ≤ d) (h2 : d ≤ f) : (d - 1 ≤ (rch (k - 1) (need k f - 1) : Int) ∧ (f : Int) - d ≤ (rch k (need k f - 1) : Int)) ↔ (loD k f ≤ d ∧ d ≤ hiD k f) := by
  unfold loD hiD
  omega
theorem filt_int (n a b : Nat) (hab : a ≤ b) (hb : b < n) : (List.range n).filter (fun i => decide (a ≤ i) && decide (i ≤ b)) = List.range' a (b + 1 - a) := by
  obtain ⟨m, rfl⟩ : ∃ m, n = a + ((b + 1 - a) + m) := ⟨n - (b + 1), by omega⟩
  rw [List.range_eq_range', ← List.range'_append_1, ← List.range'_append_1, List.filter_append, List.filter_append]
  rw [List.filter_eq_nil_iff.mpr, List.filter_eq_self.mpr, List.filter_eq_nil_iff.mpr, List.append_nil, List.nil_append, Nat.zero_add]
  · intro x hx
    have := List.mem_range'_1.mp hx
    simp only [Bool.and_eq_true, decide_eq_true_eq]
    omega
  · intro x hx
    have := List.mem_range'_1.mp hx
    simp only [Bool.and_eq_true, decide_eq_true_eq]
    omega
  · intro x hx
    have := List.mem_range'_1.mp hx
    simp only [Bool.and_eq_true, decide_eq_true_eq]
    omega
end Eg
namespace Eg
open PySem PySem.Spec PyProof.Rows L2
theorem sh_pair (x y : Int) : SeqAt.shaped (.tuple [.int x, .int y]) = true := by
  unfold SeqAt.shaped
  simp [PyData.canLay0, PyData.canLayAll0, PyData.depth, PyData.depthAll]
theorem eqv_pair (x y : Int) : PyData.eqv (.tuple [.int x, .int y]) (.tuple [.int x, .int y]) = true := SeqAt.eqv_refl _ (SeqAt.canLay_of_shaped (sh_pair x y))
theorem due_ends {k f : Nat} (hk : 1 ≤ k) (hf : 1 ≤ f) : atI (given f (fun i => decide ((1 : Int) + i - 1 ≤ (rch (k - 1) (need k f - 1) : Int)) && decide ((f : Int) - (1 + i) ≤ (rch k (need k f - 1) : Int))) (fun i => .int (1 + (i : Int)))) 0 = some (.int (loD k f)) ∧
    atI (given f (fun i => decide ((1 : Int) + i - 1 ≤ (rch (k - 1) (need k f - 1) : Int)) && decide ((f : Int) - (1 + i) ≤ (rch k (need k f - 1) : Int))) (fun i => .int (1 + (i : Int)))) (-1) = some (.int (hiD k f)) := by
  obtain ⟨h1, h2, h3⟩ := lo_hi hk hf
  have e : given f (fun i => decide ((1 : Int) + i - 1 ≤ (rch (k - 1) (need k f - 1) : Int)) && decide ((f : Int) - (1 + i) ≤ (rch k (need k f - 1) : Int))) (fun i => .int (1 + (i : Int))) = (List.range' ((loD k f).toNat - 1) ((hiD k f).toNat + 1 - (loD k f).toNat)).map fun (i : Nat) => PyData.int (1 + (i : Int)) := by
    unfold given
    rw [show (hiD k f).toNat + 1 - (loD k f).toNat = ((hiD k f).toNat - 1) + 1 - ((loD k f).toNat - 1) by omega, ← filt_int f _ _ (by omega) (by omega)]
    refine congrArg (List.map _) (List.filter_congr fun i hi => ?_)
    have hi' := List.mem_range.mp hi
    have q := lo_hi_iff (k := k) (f := f) (1 + (i : Int)) (by omega) (by omega)
    rw [← Bool.decide_and, ← Bool.decide_and]
    exact decide_eq_decide.mpr (Iff.trans q (by omega))
  rw [e]
  constructor
  · refine atI_nat' (j := 0) rfl ?_
    rw [List.getElem?_map, List.getElem?_range' (by omega)]
    exact congrArg (fun z => some (PyData.int z)) (by omega)
  · unfold atI ixN
    rw [List.length_map, List.length_range', if_neg (by decide), if_pos (by omega)]
    show (List.map _ _)[(-1 + (((hiD k f).toNat + 1 - (loD k f).toNat : Nat) : Int)).toNat]? = _
    rw [List.getElem?_map, List.getElem?_range' (by omega)]
    exact congrArg (fun z => some (PyData.int z)) (by omega)
end Eg
namespace Eg
open PySem PySem.Spec PyProof.Rows L2
/-! ### the table of the fewest drops, by all first drops -/
def W (k n : Nat) : Nat := if k = 0 then (if n = 0 then 0 else 1000000) else need k n
theorem W_le {k n s : Nat} (hs : s < 1000000) : W k n ≤ s ↔ n ≤ rch k s := by
  unfold W
  split
  · next h =>
    subst h
    rw [rch_0]
    split <;> omega
  · next h =>
    have sp := need_spec (k := k) (f := n) (.inr (by omega))
    exact ⟨fun q => Nat.le_trans sp.ge (rch_le k q), fun q => sp.le q⟩
def wrow (k m : Nat) : List PyData := (List.range (m + 1)).map fun n => .int (W k n)
def wtab (f k : Nat) : List PyData := (List.range (k + 1)).map fun j => .list (wrow j f)
theorem wrow_len (k m : Nat) : (wrow k m).length = m + 1 := by
  unfold wrow
  rw [List.length_map, List.length_range]
theorem wtab_len (f k : Nat) : (wtab f k).length = k + 1 := by
  unfold wtab
  rw [List.length_map, List.length_range]
theorem wrow_at {k m j : Nat} {i : Int} (e : i = (j : Int)) (h : j ≤ m) : atI (wrow k m) i = some (.int (W k j)) := by
  refine atI_nat' e ?_
  unfold wrow
  rw [List.getElem?_map, List.getElem?_range (by omega)]
  rfl
theorem wtab_at {f k j : Nat} {i : Int} (e : i = (j : Int)) (h : j ≤ k) : atI (wtab f k) i = some (.list (wrow j f)) := by
  refine atI_nat' e ?_
  unfold wtab
  rw [List.getElem?_map, List.getElem?_range (by omega)]
  rfl
theorem wrow_next (k m : Nat) : wrow k m ++ [.int (W k (m + 1))] = wrow k (m + 1) := by
  unfold wrow
  rw [List.range_succ (n := m + 1), List.map_append]
  rfl
theorem wtab_next (f k : Nat) : wtab f k ++ [.list (wrow (k + 1) f)] = wtab f (k + 1) := by
  unfold wtab
  rw [List.range_succ (n := k + 1), List.map_append]
  rfl
theorem W_zero (k : Nat) : W (k + 1) 0 = 0 := by
  unfold W
  rw [if_neg (by omega)]
  have := need_le (k := k + 1) (f := 0) (by omega)
  omega
theorem wrow_zero (k : Nat) : wrow (k + 1) 0 = [.int 0] := by
  show [PyData.int (W (k + 1) 0)] = _
  rw [W_zero]
  rfl
theorem wtab_zero (f : Nat) : [PyData.list ([PyData.int 0] ++ (List.replicate f [PyData.int 1000000]).flatten)] = wtab f 0 := by
  show _ = [PyData.list (wrow 0 f)]
  refine congrArg (fun z => [PyData.list z]) (List.ext_getElem? fun i => ?_)
  rw [flat_one]
  unfold wrow
  rw [List.getElem?_map]
  cases i with
  | zero =>
    rw [List.getElem?_range (by omega)]
    rfl
  | succ i =>
    rw [show [PyData.int 0] ++ List.replicate f (PyData.int 1000000) = PyData.int 0 :: List.replicate f (PyData.int 1000000) from rfl, List.getElem?_cons_succ, List.getElem?_replicate]
    by_cases h : i < f
    · rw [if_pos h, List.getElem?_range (by omega)]
      rfl
    · rw [if_neg h, List.getElem?_eq_none (by rw [List.length_range]; omega)]
      rfl
/-- what is left in the worst, d + 1 the first drop of n + 1 floors -/
def mx (k n d : Nat) : Int := max (W k d : Int) (W (k + 1) (n - d) : Int)
theorem mx_le {k n d s : Nat} (hs : s < 1000000) : mx k n d ≤ s ↔ (d ≤ rch k s ∧ n - d ≤ rch (k + 1) s) := by
  have h1 := W_le (k := k) (n := d) hs
  have h2 := W_le (k := k + 1) (n := n - d) hs
  unfold mx
  omega
theorem mx_ge {k n d : Nat} (hn : n < 100000) (hd : d ≤ n) : (need (k + 1) (n + 1) : Int) - 1 ≤ mx k n d := by
  have sp := need_spec (k := k + 1) (f := n + 1) (.inr (by omega))
  have hp := sp.pos (by omega)
  have hle := need_le (k := k + 1) (f := n + 1) (by omega)
  generalize hT : need (k + 1) (n + 1) = T at *
  by_cases h1 : T = 1
  · have : (0 : Int) ≤ mx k n d := by
      unfold mx
      omega
    omega
  · by_cases q : mx k n d ≤ ((T - 2 : Nat) : Int)
    · obtain ⟨a, b⟩ := (mx_le (by omega)).mp q
      have h3 := sp.lt' (T - 1) (by omega)
      obtain ⟨u, rfl⟩ : ∃ u, T = u + 2 := ⟨T - 2, by omega⟩
      rw [show u + 2 - 1 = u + 1 by omega, rch_next] at h3
      rw [show u + 2 - 2 = u by omega] at a b
      omega
    · omega
theorem mx_eq {k n d : Nat} (hn : n < 100000) (hd : d ≤ n) : mx k n d = (need (k + 1) (n + 1) : Int) - 1 ↔ (loD (k + 1) (n + 1) ≤ 1 + (d : Int) ∧ 1 + (d : Int) ≤ hiD (k + 1) (n + 1)) := by
  have hp := (need_spec (k := k + 1) (f := n + 1) (.inr (by omega))).pos (by omega)
  have hle := need_le (k := k + 1) (f := n + 1) (by omega)
  have h1 := lo_hi_iff (k := k + 1) (f := n + 1) (1 + (d : Int)) (by omega) (by omega)
  have h2 := mx_ge (k := k) hn hd
  have h3 := mx_le (k := k) (n := n) (d := d) (s := need (k + 1) (n + 1) - 1) (by omega)
  rw [← h1]
  rw [show k + 1 - 1 = k by omega]
  constructor
  · intro e
    have := h3.mp (by omega)
    omega
  · intro e
    have := h3.mpr (by omega)
    omega
theorem mx_min {k n : Nat} (hn : n < 100000) : ((W (k + 1) (n + 1) : Int) - 1) ∈ ((List.range (n + 1)).map fun d => mx k n d) ∧ ∀ y ∈ ((List.range (n + 1)).map fun d => mx k n d), (W (k + 1) (n + 1) : Int) - 1 ≤ y := by
  have eW : W (k + 1) (n + 1) = need (k + 1) (n + 1) := if_neg (by omega)
  rw [eW]
  obtain ⟨h1, h2, h3⟩ := lo_hi (k := k + 1) (f := n + 1) (by omega) (by omega)
  constructor
  · refine List.mem_map.mpr ⟨(loD (k + 1) (n + 1)).toNat - 1, List.mem_range.mpr (by omega), ?_⟩
    exact (mx_eq hn (by omega)).mpr (by omega)
  · intro y hy
    obtain ⟨d, hd, rfl⟩ := List.mem_map.mp hy
    have := List.mem_range.mp hd
    exact mx_ge hn (by omega)
def R_worst_tab (ds : List PyData) (r : Rs) : Prop := ∃ f k : Nat, ds = [.int f, .int k] ∧ f ≤ 40 ∧ k ≤ 5 ∧ r = .new (wtab f k)
/-- the floors that have the least -/
def lst (k f n : Nat) : List PyData := given n (fun d => decide (loD k f ≤ 1 + (d : Int)) && decide (1 + (d : Int) ≤ hiD k f)) (fun d => .int (1 + (d : Int)))
theorem lst_all {k f : Nat} (hk : 1 ≤ k) (hf : 1 ≤ f) : lst k f f = ((List.range ((hiD k f + 1) - loD k f).toNat).map fun i : Nat => loD k f + (i : Int)).map PyData.int := by
  obtain ⟨h1, h2, h3⟩ := lo_hi hk hf
  unfold lst given
  rw [show (List.range f).filter (fun d : Nat => decide (loD k f ≤ 1 + (d : Int)) && decide (1 + (d : Int) ≤ hiD k f)) = List.range' ((loD k f).toNat - 1) (((hiD k f).toNat - 1) + 1 - ((loD k f).toNat - 1)) from ?_]
  · rw [List.range'_eq_map_range, List.map_map, List.map_map, show ((hiD k f).toNat - 1) + 1 - ((loD k f).toNat - 1) = (hiD k f + 1 - loD k f).toNat by omega]
    refine List.map_congr_left fun i hi => ?_
    show PyData.int (1 + (((loD k f).toNat - 1 + i : Nat) : Int)) = PyData.int (loD k f + (i : Int))
    exact congrArg PyData.int (by omega)
  · rw [← filt_int f _ _ (by omega) (by omega)]
    refine List.filter_congr fun i hi => ?_
    rw [← Bool.decide_and, ← Bool.decide_and]
    exact decide_eq_decide.mpr (by omega)
end Eg
namespace Eg
open PySem PySem.Spec PyProof.Rows L2
/-! ### the least sums -/
def argF (g : Nat → Nat) : Nat → Nat
  | 0 => 0
  | n + 1 => if g (n + 1) < g (argF g n) then n + 1 else argF g n
theorem argF_le (g : Nat → Nat) : ∀ n : Nat, argF g n ≤ n
  | 0 => Nat.le_refl _
  | n + 1 => by
    have ih := argF_le g n
    unfold argF
    split <;> omega
theorem argF_min (g : Nat → Nat) : ∀ (n d : Nat), d ≤ n → g (argF g n) ≤ g d
  | 0, d, h => by
    have e : d = 0 := by omega
    subst e
    exact Nat.le_refl _
  | n + 1, d, h => by
    have ih := argF_min g n
    unfold argF
    split
    · next q =>
      by_cases e : d = n + 1
      · subst e
        exact Nat.le_refl _
      · exact Nat.le_trans (Nat.le_of_lt q) (ih d (by omega))
    · next q =>
      by_cases e : d = n + 1
      · subst e
        omega
      · exact ih d (by omega)
theorem argF_first (g : Nat → Nat) : ∀ (n d : Nat), d < argF g n → g (argF g n) < g d
  | 0, d, h => by
    unfold argF at h
    omega
  | n + 1, d, h => by
    have ih := argF_first g n
    unfold argF at h ⊢
    split at h
    · next q =>
      rw [if_pos q]
      exact Nat.lt_of_lt_of_le q (argF_min g n d (by omega))
    · next q =>
      rw [if_neg q]
      exact ih d h
def S (k n : Nat) : Nat :=
  match k, n with
  | 0, 0 => 0
  | 0, _ + 1 => 1000000
  | _ + 1, 0 => 0
  | k + 1, n + 1 => n + 2 + (S k (argF (fun d => S k d + S (k + 1) (n - d)) n) + S (k + 1) (n - argF (fun d => S k d + S (k + 1) (n - d)) n))
termination_by (k, n)
/-- what is left, d + 1 the first drop of n + 1 floors -/
def gS (k n d : Nat) : Nat := S k d + S (k + 1) (n - d)
def bD (k n : Nat) : Nat := argF (gS k n) n
theorem S_00 : S 0 0 = 0 := by rw [S]
theorem S_0s (n : Nat) : S 0 (n + 1) = 1000000 := by rw [S]
theorem S_s0 (k : Nat) : S (k + 1) 0 = 0 := by rw [S]
theorem S_k0 : ∀ k : Nat, S k 0 = 0
  | 0 => S_00
  | k + 1 => S_s0 k
theorem S_ss (k n : Nat) : S (k + 1) (n + 1) = n + 2 + gS k n (bD k n) := by
  rw [S]
  rfl
theorem S_ge (k n d : Nat) (h : d ≤ n) : S (k + 1) (n + 1) ≤ n + 2 + gS k n d := by
  rw [S_ss]
  exact Nat.add_le_add_left (argF_min _ n d h) _
theorem bD_le (k n : Nat) : bD k n ≤ n := argF_le _ n
theorem S_le (k : Nat) : ∀ n : Nat, S (k + 1) n ≤ n * (n + 2)
  | 0 => by
    rw [S_s0]
    exact Nat.zero_le _
  | n + 1 => by
    have ih := S_le k n
    have h := S_ge k n 0 (Nat.zero_le _)
    unfold gS at h
    rw [S_k0, Nat.sub_zero, Nat.zero_add] at h
    have e : (n + 1) * (n + 1 + 2) = n * (n + 2) + n + (n + 3) := by
      rw [Nat.add_mul, Nat.one_mul, show n + 1 + 2 = (n + 2) + 1 by omega, Nat.mul_add n (n + 2) 1, Nat.mul_one]
    omega
theorem S_sml (k : Nat) {n : Nat} (h : n ≤ 100) : S (k + 1) n ≤ 10200 := by
  have h1 := S_le k n
  have h2 : n * (n + 2) ≤ 100 * 102 := Nat.mul_le_mul h (by omega)
  omega
/-- with no thing left only the first floor counts -/
theorem argF_zero {n : Nat} (h : n ≤ 100) : ∀ d : Nat, d ≤ n → argF (gS 0 n) d = 0
  | 0, _ => rfl
  | d + 1, hd => by
    have ih := argF_zero h d (by omega)
    unfold argF
    rw [ih, if_neg]
    unfold gS
    rw [S_0s, S_00]
    have := S_sml 0 (n := n - 0) (by omega)
    omega
def sD (k n : Nat) : PyData := if k = 0 ∧ n ≠ 0 then .none else .int (S k n)
def dD (k n : Nat) : PyData := if k = 0 ∨ n = 0 then .none else .int ((1 + bD (k - 1) (n - 1) : Nat) : Int)
def sRow (k m : Nat) : List PyData := (List.range (m + 1)).map (sD k)
def dRow (k m : Nat) : List PyData := (List.range (m + 1)).map (dD k)
def sTab (f k : Nat) : List PyData := (List.range (k + 1)).map fun j => .list (sRow j f)
def dTab (f k : Nat) : List PyData := (List.range (k + 1)).map fun j => .list (dRow j f)
theorem map_at {g : Nat → PyData} {m j : Nat} {i : Int} (e : i = (j : Int)) (h : j ≤ m) : atI ((List.range (m + 1)).map g) i = some (g j) := by
  refine atI_nat' e ?_
  rw [List.getElem?_map, List.getElem?_range (by omega)]
  rfl
theorem map_len {g : Nat → PyData} {m : Nat} : ((List.range (m + 1)).map g).length = m + 1 := by rw [List.length_map, List.length_range]
theorem map_next {g : Nat → PyData} {m : Nat} : (List.range (m + 1)).map g ++ [g (m + 1)] = (List.range (m + 1 + 1)).map g := by
  rw [List.range_succ (n := m + 1), List.map_append]
  rfl
theorem sD_s (k n : Nat) : sD (k + 1) n = .int (S (k + 1) n) := if_neg (by omega)
theorem dD_s (k n : Nat) : dD (k + 1) (n + 1) = .int ((1 + bD k n : Nat) : Int) := if_neg (by omega)
theorem sRow_0 (f : Nat) : [PyData.int 0] ++ (List.replicate f [PyData.none]).flatten = sRow 0 f := by
  refine List.ext_getElem? fun i => ?_
  rw [flat_one]
  unfold sRow
  rw [List.getElem?_map]
  cases i with
  | zero =>
    rw [List.getElem?_range (by omega)]
    show some (PyData.int 0) = some (sD 0 0)
    unfold sD
    rw [if_neg (by omega), S_00]
    rfl
  | succ i =>
    rw [show [PyData.int 0] ++ List.replicate f PyData.none = PyData.int 0 :: List.replicate f PyData.none from rfl, List.getElem?_cons_succ, List.getElem?_replicate]
    by_cases h : i < f
    · rw [if_pos h, List.getElem?_range (by omega)]
      show some PyData.none = some (sD 0 (i + 1))
      unfold sD
      rw [if_pos (by omega)]
    · rw [if_neg h, List.getElem?_eq_none (by rw [List.length_range]; omega)]
      rfl
theorem dRow_0 (f : Nat) : (List.replicate (f + 1) [PyData.none]).flatten = dRow 0 f := by
  refine List.ext_getElem? fun i => ?_
  rw [flat_one]
  unfold dRow
  rw [List.getElem?_map, List.getElem?_replicate]
  by_cases h : i < f + 1
  · rw [if_pos h, List.getElem?_range h]
    show some PyData.none = some (dD 0 i)
    unfold dD
    rw [if_pos (by omega)]
  · rw [if_neg h, List.getElem?_eq_none (by rw [List.length_range]; omega)]
    rfl
theorem sRow_s0 (k : Nat) : [PyData.int 0] = sRow (k + 1) 0 := by
  show _ = [sD (k + 1) 0]
  rw [sD_s, S_s0]
  rfl
theorem dRow_s0 (k : Nat) : [PyData.none] = dRow (k + 1) 0 := by
  show _ = [dD (k + 1) 0]
  unfold dD
  rw [if_pos (by omega)]
theorem sTab_at {f k j : Nat} {i : Int} (e : i = (j : Int)) (h : j ≤ k) : atI (sTab f k) i = some (.list (sRow j f)) := map_at e h
theorem dTab_at {f k j : Nat} {i : Int} (e : i = (j : Int)) (h : j ≤ k) : atI (dTab f k) i = some (.list (dRow j f)) := map_at e h
theorem sRow_at {m k j : Nat} {i : Int} (e : i = (j : Int)) (h : j ≤ m) : atI (sRow k m) i = some (sD k j) := map_at e h
theorem dRow_at {m k j : Nat} {i : Int} (e : i = (j : Int)) (h : j ≤ m) : atI (dRow k m) i = some (dD k j) := map_at e h
/-- the best so far, d first drops looked at -/
def bst (k n : Nat) : Nat → PyData
  | 0 => .none
  | d + 1 => .tuple [.int ((n + 2 + gS k n (argF (gS k n) d) : Nat) : Int), .int ((1 + argF (gS k n) d : Nat) : Int)]
def badT (f k : Int) : Bool := decide (60 < f) || badA f k
theorem badT_no {n t : Int} (h : ¬ badT n t = true) : ¬ badA n t = true ∧ ∃ n' t' : Nat, n = n' ∧ t = t' ∧ n' ≤ 60 ∧ t' ≤ 12 ∧ (n' = 0 ∨ 1 ≤ t') := by
  unfold badT at h
  simp only [Bool.or_eq_true, decide_eq_true_eq, not_or] at h
  obtain ⟨n', t', e1, e2, h1, h2, h3⟩ := badA_no h.2
  exact ⟨h.2, n', t', e1, e2, by omega, h2, h3⟩
theorem badT_of {n t : Nat} (h1 : n ≤ 60) (h2 : t ≤ 12) (h3 : n = 0 ∨ 1 ≤ t) : ¬ badT n t = true := by
  unfold badT
  simp only [Bool.or_eq_true, decide_eq_true_eq, not_or]
  exact ⟨by omega, badA_of (by omega) h2 h3⟩
def R_asktree (C : Addr) (ds : List PyData) (r : Rs) : Prop := ∃ n t : Int, ds = [.int n, .int t] ∧ r = if badT n t = true then .exc C else .ok .none
theorem R_asktree_ok {C : Addr} {n t : Nat} (h1 : n ≤ 60) (h2 : t ≤ 12) (h3 : n = 0 ∨ 1 ≤ t) : R_asktree C [.int n, .int t] (.ok .none) := ⟨n, t, rfl, by rw [if_neg (badT_of h1 h2 h3)]⟩
def R_tables (ds : List PyData) (r : Rs) : Prop := ∃ f k : Nat, ds = [.int f, .int k] ∧ f ≤ 60 ∧ k ≤ 12 ∧ r = .ok (.tuple [.list (sTab f k), .list (dTab f k)])
def R_least (C : Addr) (ds : List PyData) (r : Rs) : Prop := ∃ n t : Int, ds = [.int n, .int t] ∧ r = if badT n t = true then .exc C else .ok (.int (S t.toNat n.toNat))
theorem R_least_ok {C : Addr} {n t : Nat} (h1 : n ≤ 60) (h2 : t ≤ 12) (h3 : n = 0 ∨ 1 ≤ t) : R_least C [.int n, .int t] (.ok (.int (S t n))) := ⟨n, t, rfl, by rw [if_neg (badT_of h1 h2 h3)]; rfl⟩
end Eg
namespace Eg
open PySem PySem.Spec PyProof.Rows L2
/-! ### plans as trees -/
inductive Tr where
  | told (n : Int)
  | drop (n : Int) (b w : Tr)
def Tr.d : Tr → PyData
  | .told n => .tuple [.str "told", .int n]
  | .drop n b w => .tuple [.str "drop", .int n, b.d, w.d]
def Tr.dep : Tr → Nat
  | .told _ => 0
  | .drop _ b w => 1 + max b.dep w.dep
theorem tt_told : decide (("told" : Str) = "told") = true := by decide +kernel
theorem tt_dt : decide (("drop" : Str) = "told") = false := by decide +kernel
theorem tt_td : decide (("told" : Str) = "drop") = false := by decide +kernel
theorem tt_drop : decide (("drop" : Str) = "drop") = true := by decide +kernel
/-- the most drops of a plan; none: it isn't right -/
def wv : Tr → Int → Int → Int → Option Nat
  | .told n, lo, hi, _ => if lo = hi ∧ n = lo then some 0 else none
  | .drop n b w, lo, hi, k => if k = 0 ∨ ¬ (lo < n ∧ n ≤ hi) then none else
    match wv b lo (n - 1) (k - 1), wv w n hi k with
    | some x, some y => some (1 + max x y)
    | _, _ => none
theorem wv_told {n lo hi k : Int} : wv (.told n) lo hi k = if lo = hi ∧ n = lo then some 0 else none := rfl
theorem wv_no {n lo hi k : Int} {b w : Tr} (h : k = 0 ∨ ¬ (lo < n ∧ n ≤ hi)) : wv (.drop n b w) lo hi k = none := if_pos h
theorem wv_b {n lo hi k : Int} {b w : Tr} (h : ¬ (k = 0 ∨ ¬ (lo < n ∧ n ≤ hi))) (hb : wv b lo (n - 1) (k - 1) = none) : wv (.drop n b w) lo hi k = none := by
  unfold wv
  rw [if_neg h, hb]
theorem wv_w {n lo hi k : Int} {b w : Tr} (h : ¬ (k = 0 ∨ ¬ (lo < n ∧ n ≤ hi))) (hw : wv w n hi k = none) : wv (.drop n b w) lo hi k = none := by
  unfold wv
  rw [if_neg h, hw]
  cases wv b lo (n - 1) (k - 1) <;> rfl
theorem wv_ok {n lo hi k : Int} {b w : Tr} {x y : Nat} (h : ¬ (k = 0 ∨ ¬ (lo < n ∧ n ≤ hi))) (hb : wv b lo (n - 1) (k - 1) = some x) (hw : wv w n hi k = some y) : wv (.drop n b w) lo hi k = some (1 + max x y) := by
  unfold wv
  rw [if_neg h, hb, hw]
def resW (C : Addr) : Option Nat → Rs
  | none => .exc C
  | some v => .ok (.int v)
def resL : Option Nat → PyData
  | none => .none
  | some v => .int v
def R_worst (C : Addr) (n : Nat) (ds : List PyData) (r : Rs) : Prop := ∃ (t : Tr) (lo hi k : Int), ds = [t.d, .int lo, .int hi, .int k] ∧ t.dep < n ∧ r = resW C (wv t lo hi k)
def R_llooked (n : Nat) (ds : List PyData) (r : Rs) : Prop := ∃ (t : Tr) (lo hi k : Int), ds = [t.d, .int lo, .int hi, .int k] ∧ t.dep < n ∧ r = .ok (resL (wv t lo hi k))
def R_looked (C1 C2 : Addr) (ds : List PyData) (r : Rs) : Prop := ∃ (t : Tr) (f k : Int), ds = [t.d, .int f, .int k] ∧ t.dep < 100 ∧ r = if badT f k = true then .exc C1 else resW C2 (wv t 0 f k)
theorem R_looked_ok {C1 C2 : Addr} {t : Tr} {f k : Nat} {v : Nat} (h1 : f ≤ 60) (h2 : k ≤ 12) (h3 : f = 0 ∨ 1 ≤ k) (hd : t.dep < 100) (h : wv t 0 f k = some v) : R_looked C1 C2 [t.d, .int f, .int k] (.ok (.int v)) := ⟨t, f, k, rfl, hd, by rw [if_neg (badT_of h1 h2 h3), h]; rfl⟩
/-! ### the rule's plan -/
def dP (k s : Nat) : Nat := max 1 (min s (loD k s).toNat)
theorem dP_pos (k s : Nat) : 1 ≤ dP k s := Nat.le_max_left _ _
theorem dP_le {k s : Nat} (h : s ≠ 0) : dP k s ≤ s := by
  unfold dP
  omega
theorem dP_eq {k s : Nat} (hk : 1 ≤ k) (hs : 1 ≤ s) : (dP k s : Int) = loD k s := by
  have := lo_hi (k := k) (f := s) hk hs
  unfold dP
  omega
def planT (lo s k : Nat) : Tr := if h : s = 0 then .told lo else .drop ((lo + dP k s : Nat) : Int) (planT lo (dP k s - 1) (k - 1)) (planT (lo + dP k s) (s - dP k s) k)
termination_by s
decreasing_by
  all_goals
    have h1 := dP_pos k s
    have h2 := dP_le (k := k) h
    omega
theorem planT_0 (lo k : Nat) : planT lo 0 k = .told lo := by
  rw [planT]
  exact dif_pos rfl
theorem planT_s {lo s k : Nat} (h : s ≠ 0) : planT lo s k = .drop ((lo + dP k s : Nat) : Int) (planT lo (dP k s - 1) (k - 1)) (planT (lo + dP k s) (s - dP k s) k) := by
  rw [planT]
  exact dif_neg h
theorem planT_dep : ∀ (s lo k : Nat), (planT lo s k).dep ≤ s := by
  intro s
  induction s using Nat.strongRecOn with
  | _ s ih =>
    intro lo k
    by_cases h : s = 0
    · subst h
      rw [planT_0]
      exact Nat.le_refl _
    · rw [planT_s h]
      have h1 := dP_pos k s
      have h2 := dP_le (k := k) h
      have a := ih (dP k s - 1) (by omega) lo (k - 1)
      have b := ih (s - dP k s) (by omega) (lo + dP k s) k
      unfold Tr.dep
      omega
/-- what is left is within the reach of one drop less -/
theorem dP_left {k s : Nat} (hk : 1 ≤ k) (hs : 1 ≤ s) : dP k s - 1 = 0 ∨ 1 ≤ k - 1 := by
  have h1 := lo_hi (k := k) (f := s) hk hs
  have h2 := (lo_hi_iff (k := k) (f := s) (loD k s) (by omega) (by omega)).mpr ⟨by omega, by omega⟩
  have e := dP_eq hk hs
  by_cases q : 1 ≤ k - 1
  · exact .inr q
  · rw [show k - 1 = 0 by omega, rch_0] at h2
    exact .inl (by omega)
theorem need_zero (k : Nat) : need k 0 = 0 := rfl
theorem planT_wv : ∀ (s lo k : Nat) (hi : Int), s < 100000 → (s = 0 ∨ 1 ≤ k) → hi = (lo : Int) + s → wv (planT lo s k) lo hi k = some (need k s) := by
  intro s
  induction s using Nat.strongRecOn with
  | _ s ih =>
    intro lo k hi hs hk ehi
    by_cases h : s = 0
    · subst h
      rw [planT_0, wv_told, if_pos ⟨by omega, rfl⟩, need_zero]
    · have hk1 : 1 ≤ k := by omega
      rw [planT_s h]
      have h1 := dP_pos k s
      have h2 := dP_le (k := k) h
      have h3 := dP_left hk1 (show 1 ≤ s by omega)
      have e := dP_eq hk1 (show 1 ≤ s by omega)
      have a := ih (dP k s - 1) (by omega) lo (k - 1) (((lo + dP k s : Nat) : Int) - 1) (by omega) h3 (by omega)
      have b := ih (s - dP k s) (by omega) (lo + dP k s) k hi (by omega) (.inr hk1) (by omega)
      rw [show ((k - 1 : Nat) : Int) = (k : Int) - 1 by omega] at a
      rw [wv_ok (by omega) a b]
      have hm := mx_eq (k := k - 1) (n := s - 1) (d := dP k s - 1) (by omega) (by omega)
      rw [show k - 1 + 1 = k by omega, show s - 1 + 1 = s by omega] at hm
      have hl := lo_hi (k := k) (f := s) hk1 (by omega)
      have hm' := hm.mpr (by omega)
      unfold mx at hm'
      rw [show k - 1 + 1 = k by omega, show s - 1 - (dP k s - 1) = s - dP k s by omega] at hm'
      have w1 : W k (s - dP k s) = need k (s - dP k s) := if_neg (by omega)
      have w2 : W (k - 1) (dP k s - 1) = need (k - 1) (dP k s - 1) := by
        rcases h3 with z | z
        · rw [z]
          unfold W
          split <;> rfl
        · exact if_neg (by omega)
      rw [w1, w2] at hm'
      have := (need_spec (k := k) (f := s) (.inr hk1)).pos (by omega)
      exact congrArg some (by omega)
def R_grown (n : Nat) (ds : List PyData) (r : Rs) : Prop := ∃ (lo s k : Nat) (a b c : Int), ds = [.int a, .int b, .int c] ∧ a = lo ∧ b = (lo : Int) + s ∧ c = k ∧ s < n ∧ s ≤ 60 ∧ k ≤ 12 ∧ (s = 0 ∨ 1 ≤ k) ∧ r = .ok (planT lo s k).d
def R_plan (C : Addr) (ds : List PyData) (r : Rs) : Prop := ∃ f k : Int, ds = [.int f, .int k] ∧ r = if badT f k = true then .exc C else .ok (planT 0 f.toNat k.toNat).d
theorem R_plan_ok {C : Addr} {f k : Nat} (h1 : f ≤ 60) (h2 : k ≤ 12) (h3 : f = 0 ∨ 1 ≤ k) : R_plan C [.int f, .int k] (.ok (planT 0 f k).d) := ⟨f, k, rfl, by rw [if_neg (badT_of h1 h2 h3)]; rfl⟩
def R_lrule (n : Nat) (ds : List PyData) (r : Rs) : Prop := ∃ (lo s k : Nat) (a b c : Int), ds = [(planT lo s k).d, .int a, .int b, .int c] ∧ a = lo ∧ b = (lo : Int) + s ∧ c = k ∧ s < n ∧ s ≤ 60 ∧ k ≤ 12 ∧ (s = 0 ∨ 1 ≤ k) ∧ r = .ok (.bool true)
end Eg
namespace Eg
open PySem PySem.Spec PyProof.Rows L2
/-! ### walks and their sums -/
def wk : Tr → Int → List (Int × Bool)
  | .told _, _ => []
  | .drop n b w, fl => (n, decide (fl < n)) :: (if fl < n then wk b fl else wk w fl)
def pdW (p : Int × Bool) : PyData := .tuple [.int p.1, .bool p.2]
theorem wk_told (n fl : Int) : wk (.told n) fl = [] := rfl
theorem wk_b {n fl : Int} {b w : Tr} (h : fl < n) : wk (.drop n b w) fl = (n, true) :: wk b fl := by
  unfold wk
  rw [if_pos h, decide_eq_true h]
  cases b <;> rfl
theorem wk_w {n fl : Int} {b w : Tr} (h : ¬ fl < n) : wk (.drop n b w) fl = (n, false) :: wk w fl := by
  unfold wk
  rw [if_neg h, decide_eq_false h]
  cases w <;> rfl
theorem wk_len : ∀ (t : Tr) (fl : Int), (wk t fl).length ≤ t.dep
  | .told _, _ => Nat.zero_le _
  | .drop n b w, fl => by
    have h1 := wk_len b fl
    have h2 := wk_len w fl
    by_cases h : fl < n
    · rw [wk_b h]
      unfold Tr.dep
      rw [List.length_cons]
      omega
    · rw [wk_w h]
      unfold Tr.dep
      rw [List.length_cons]
      omega
def R_walk (ds : List PyData) (r : Rs) : Prop := ∃ (t : Tr) (fl : Int), ds = [t.d, .int fl] ∧ t.dep < 100 ∧ r = .new ((wk t fl).map pdW)
/-- the sum over m floors from lo on -/
def sumL (t : Tr) (lo : Int) : Nat → Nat
  | 0 => 0
  | m + 1 => sumL t lo m + (wk t (lo + m)).length
theorem sumL_list (t : Tr) (lo : Int) : ∀ m : Nat, ((List.range m).map fun i : Nat => ((wk t (lo + i)).length : Int)).sum = (sumL t lo m : Int)
  | 0 => rfl
  | m + 1 => by
    rw [List.range_succ, List.map_append, List.sum_append, sumL_list t lo m]
    show (sumL t lo m : Int) + (((wk t (lo + (m : Int))).length : Int) + 0) = ((sumL t lo m + (wk t (lo + (m : Int))).length : Nat) : Int)
    omega
theorem sumL_b {n : Int} {b w : Tr} (lo : Int) : ∀ m : Nat, lo + m ≤ n → sumL (.drop n b w) lo m = m + sumL b lo m
  | 0, _ => rfl
  | m + 1, h => by
    have ih := sumL_b (n := n) (b := b) (w := w) lo m (by omega)
    show sumL (.drop n b w) lo m + (wk (.drop n b w) (lo + (m : Int))).length = m + 1 + (sumL b lo m + (wk b (lo + (m : Int))).length)
    rw [ih, wk_b (n := n) (fl := lo + (m : Int)) (by omega), List.length_cons]
    omega
theorem sumL_w {n : Int} {b w : Tr} (lo : Int) (d : Nat) (hd : lo + d = n) : ∀ m : Nat, sumL (.drop n b w) lo (d + m) = d + m + sumL b lo d + sumL w n m
  | 0 => by
    rw [Nat.add_zero, sumL_b lo d (by omega)]
    rfl
  | m + 1 => by
    have ih := sumL_w (b := b) (w := w) lo d hd m
    show sumL (.drop n b w) lo (d + m) + (wk (.drop n b w) (lo + ((d + m : Nat) : Int))).length = d + (m + 1) + sumL b lo d + (sumL w n m + (wk w (n + (m : Int))).length)
    rw [ih, wk_w (n := n) (fl := lo + ((d + m : Nat) : Int)) (by omega), List.length_cons, show lo + ((d + m : Nat) : Int) = n + (m : Int) by omega]
    omega
theorem sumL_drop {n lo : Int} {b w : Tr} {s : Nat} (h1 : lo < n) (h2 : n ≤ lo + s) : sumL (.drop n b w) lo (s + 1) = s + 1 + sumL b lo (n - lo).toNat + sumL w n (s + 1 - (n - lo).toNat) := by
  have h := sumL_w (b := b) (w := w) lo (n - lo).toNat (n := n) (by omega) (s + 1 - (n - lo).toNat)
  rw [show (n - lo).toNat + (s + 1 - (n - lo).toNat) = s + 1 by omega] at h
  exact h
def resSum (C : Addr) (t : Tr) (f : Nat) : Option Nat → Rs
  | none => .exc C
  | some _ => .ok (.int (sumL t 0 (f + 1)))
def R_sumof (C1 C2 : Addr) (ds : List PyData) (r : Rs) : Prop := ∃ (t : Tr) (f k : Int), ds = [t.d, .int f, .int k] ∧ t.dep < 100 ∧ r = if badT f k = true then .exc C1 else resSum C2 t f.toNat (wv t 0 f k)
theorem R_sumof_ok {C1 C2 : Addr} {t : Tr} {f k : Nat} {v : Nat} (h1 : f ≤ 60) (h2 : k ≤ 12) (h3 : f = 0 ∨ 1 ≤ k) (hd : t.dep < 100) (h : wv t 0 f k = some v) : R_sumof C1 C2 [t.d, .int f, .int k] (.ok (.int (sumL t 0 (f + 1)))) := ⟨t, f, k, rfl, hd, by rw [if_neg (badT_of h1 h2 h3), h]; rfl⟩
/-! ### the sum rule's plan -/
def dS (k s : Nat) : Nat := 1 + bD (k - 1) (s - 1)
theorem dS_le {k s : Nat} (h : s ≠ 0) : dS k s ≤ s := by
  have := bD_le (k - 1) (s - 1)
  unfold dS
  omega
theorem dS_pos (k s : Nat) : 1 ≤ dS k s := Nat.le_add_right _ _
def planS (lo s k : Nat) : Tr := if h : s = 0 then .told lo else .drop ((lo + dS k s : Nat) : Int) (planS lo (dS k s - 1) (k - 1)) (planS (lo + dS k s) (s - dS k s) k)
termination_by s
decreasing_by
  all_goals
    have h1 := dS_pos k s
    have h2 := dS_le (k := k) h
    omega
theorem planS_0 (lo k : Nat) : planS lo 0 k = .told lo := by
  rw [planS]
  exact dif_pos rfl
theorem planS_s {lo s k : Nat} (h : s ≠ 0) : planS lo s k = .drop ((lo + dS k s : Nat) : Int) (planS lo (dS k s - 1) (k - 1)) (planS (lo + dS k s) (s - dS k s) k) := by
  rw [planS]
  exact dif_neg h
theorem dS_left {k s : Nat} (hk : 1 ≤ k) (hs : 1 ≤ s) (hb : s ≤ 100) : dS k s - 1 = 0 ∨ 1 ≤ k - 1 := by
  by_cases q : 1 ≤ k - 1
  · exact .inr q
  · refine .inl ?_
    unfold dS bD
    rw [show k - 1 = 0 by omega, argF_zero (n := s - 1) (by omega) (s - 1) (Nat.le_refl _)]
theorem planS_dep : ∀ (s lo k : Nat), (planS lo s k).dep ≤ s := by
  intro s
  induction s using Nat.strongRecOn with
  | _ s ih =>
    intro lo k
    by_cases h : s = 0
    · subst h
      rw [planS_0]
      exact Nat.le_refl _
    · rw [planS_s h]
      have h1 := dS_pos k s
      have h2 := dS_le (k := k) h
      have a := ih (dS k s - 1) (by omega) lo (k - 1)
      have b := ih (s - dS k s) (by omega) (lo + dS k s) k
      unfold Tr.dep
      omega
theorem planS_wv : ∀ (s lo k : Nat) (hi : Int), s ≤ 100 → (s = 0 ∨ 1 ≤ k) → hi = (lo : Int) + s → ∃ v, wv (planS lo s k) lo hi k = some v := by
  intro s
  induction s using Nat.strongRecOn with
  | _ s ih =>
    intro lo k hi hs hk ehi
    by_cases h : s = 0
    · subst h
      exact ⟨0, by rw [planS_0, wv_told, if_pos ⟨by omega, rfl⟩]⟩
    · have hk1 : 1 ≤ k := by omega
      rw [planS_s h]
      have h1 := dS_pos k s
      have h2 := dS_le (k := k) h
      obtain ⟨x, a⟩ := ih (dS k s - 1) (by omega) lo (k - 1) (((lo + dS k s : Nat) : Int) - 1) (by omega) (dS_left hk1 (by omega) hs) (by omega)
      obtain ⟨y, b⟩ := ih (s - dS k s) (by omega) (lo + dS k s) k hi (by omega) (.inr hk1) (by omega)
      rw [show ((k - 1 : Nat) : Int) = (k : Int) - 1 by omega] at a
      exact ⟨_, wv_ok (by omega) a b⟩
theorem S_dS {k s : Nat} (hk : 1 ≤ k) (hs : 1 ≤ s) : S k s = s + 1 + S (k - 1) (dS k s - 1) + S k (s - dS k s) := by
  have h := S_ss (k - 1) (s - 1)
  rw [show k - 1 + 1 = k by omega, show s - 1 + 1 = s by omega] at h
  rw [h]
  unfold gS dS
  have := bD_le (k - 1) (s - 1)
  rw [show k - 1 + 1 = k by omega, show 1 + bD (k - 1) (s - 1) - 1 = bD (k - 1) (s - 1) by omega, show s - (1 + bD (k - 1) (s - 1)) = s - 1 - bD (k - 1) (s - 1) by omega]
  omega
theorem planS_sum : ∀ (s lo k : Nat), s ≤ 100 → (s = 0 ∨ 1 ≤ k) → sumL (planS lo s k) lo (s + 1) = S k s := by
  intro s
  induction s using Nat.strongRecOn with
  | _ s ih =>
    intro lo k hs hk
    by_cases h : s = 0
    · subst h
      rw [planS_0, S_k0]
      rfl
    · have hk1 : 1 ≤ k := by omega
      rw [planS_s h]
      have h1 := dS_pos k s
      have h2 := dS_le (k := k) h
      have a := ih (dS k s - 1) (by omega) lo (k - 1) (by omega) (dS_left hk1 (by omega) hs)
      have b := ih (s - dS k s) (by omega) (lo + dS k s) k (by omega) (.inr hk1)
      rw [sumL_drop (by omega) (by omega), show (((lo + dS k s : Nat) : Int) - (lo : Int)).toNat = dS k s by omega, S_dS hk1 (by omega)]
      rw [show dS k s - 1 + 1 = dS k s by omega] at a
      rw [show s - dS k s + 1 = s + 1 - dS k s by omega] at b
      rw [a, b]
/-- no right plan has less -/
theorem S_least : ∀ (t : Tr) (lo : Int) (s k : Nat) (v : Nat), s ≤ 100 → wv t lo (lo + s) k = some v → S k s ≤ sumL t lo (s + 1)
  | .told n, lo, s, k, v, hs, h => by
    rw [wv_told] at h
    split at h
    · have e : s = 0 := by omega
      subst e
      rw [S_k0]
      exact Nat.zero_le _
    · cases h
  | .drop n b w, lo, s, k, v, hs, h => by
    by_cases hc : (k : Int) = 0 ∨ ¬ (lo < n ∧ n ≤ lo + s)
    · rw [wv_no hc] at h
      cases h
    · cases hb : wv b lo (n - 1) ((k : Int) - 1) with
      | none =>
        rw [wv_b hc hb] at h
        cases h
      | some x =>
        cases hw : wv w n (lo + s) k with
        | none =>
          rw [wv_w hc hw] at h
          cases h
        | some y =>
          have a := S_least b lo ((n - lo).toNat - 1) (k - 1) x (by omega) (by rw [show lo + (((n - lo).toNat - 1 : Nat) : Int) = n - 1 by omega, show ((k - 1 : Nat) : Int) = (k : Int) - 1 by omega]; exact hb)
          have c := S_least w n (s - (n - lo).toNat) k y (by omega) (by rw [show n + ((s - (n - lo).toNat : Nat) : Int) = lo + s by omega]; exact hw)
          rw [sumL_drop (by omega) (by omega)]
          rw [show (n - lo).toNat - 1 + 1 = (n - lo).toNat by omega] at a
          rw [show s - (n - lo).toNat + 1 = s + 1 - (n - lo).toNat by omega] at c
          have g := S_ge (k - 1) (s - 1) ((n - lo).toNat - 1) (by omega)
          unfold gS at g
          rw [show k - 1 + 1 = k by omega, show s - 1 + 1 = s by omega, show s - 1 - ((n - lo).toNat - 1) = s - (n - lo).toNat by omega] at g
          omega
/-- halving can't be beaten -/
theorem S_half (h : Nat) : ∀ (s k : Nat), s ≤ 100 → (s = 0 ∨ 1 ≤ k) → (s + 1) * (h + 2) ≤ S k s + 2 ^ (h + 1) := by
  induction h with
  | zero =>
    intro s
    induction s using Nat.strongRecOn with
    | _ s ih =>
      intro k hs hk
      by_cases z : s = 0
      · subst z
        rw [S_k0]
        exact Nat.le_refl _
      · have hk1 : 1 ≤ k := by omega
        have h1 := dS_pos k s
        have h2 := dS_le (k := k) z
        have a := ih (dS k s - 1) (by omega) (k - 1) (by omega) (dS_left hk1 (by omega) hs)
        have b := ih (s - dS k s) (by omega) k (by omega) (.inr hk1)
        rw [S_dS hk1 (by omega)]
        omega
  | succ h ihh =>
    intro s k hs hk
    by_cases z : s = 0
    · subst z
      rw [S_k0, Nat.zero_add, Nat.zero_add, Nat.one_mul]
      have p : ∀ n : Nat, n + 2 ≤ 2 ^ (n + 1) := fun n => by
        induction n with
        | zero => exact Nat.le_refl _
        | succ n ih =>
          rw [Nat.pow_succ]
          omega
      exact p (h + 1)
    · have hk1 : 1 ≤ k := by omega
      have h1 := dS_pos k s
      have h2 := dS_le (k := k) z
      have a := ihh (dS k s - 1) (k - 1) (by omega) (dS_left hk1 (by omega) hs)
      have b := ihh (s - dS k s) k (by omega) (.inr hk1)
      rw [S_dS hk1 (by omega)]
      have e : (s + 1) * (h + 1 + 2) = (dS k s - 1 + 1) * (h + 2) + (s - dS k s + 1) * (h + 2) + (s + 1) := by
        rw [← Nat.add_mul, show dS k s - 1 + 1 + (s - dS k s + 1) = s + 1 by omega, show h + 1 + 2 = (h + 2) + 1 by omega, Nat.mul_add, Nat.mul_one]
      rw [e, Nat.pow_succ 2 (h + 1)]
      omega
theorem S_bits {f k h : Nat} (hf : f ≤ 100) (hk : 1 ≤ k) (hh : 2 ^ h ≤ f + 1) : (f + 1) * h ≤ S k f := by
  have a := S_half h f k hf (.inr hk)
  have e : (f + 1) * (h + 2) = (f + 1) * h + 2 * (f + 1) := by
    rw [Nat.mul_add, Nat.mul_comm (f + 1) 2]
  rw [e, Nat.pow_succ] at a
  omega
def R_grownS (n : Nat) (ds : List PyData) (r : Rs) : Prop := ∃ (lo s k f K : Nat) (a b c : Int), ds = [.int a, .int b, .int c, .list (dTab f K)] ∧ a = lo ∧ b = (lo : Int) + s ∧ c = k ∧ s < n ∧ s ≤ f ∧ f ≤ 60 ∧ k ≤ K ∧ K ≤ 12 ∧ (s = 0 ∨ 1 ≤ k) ∧ r = .ok (planS lo s k).d
def R_sumplan (C : Addr) (ds : List PyData) (r : Rs) : Prop := ∃ f k : Int, ds = [.int f, .int k] ∧ r = if badT f k = true then .exc C else .ok (planS 0 f.toNat k.toNat).d
theorem R_sumplan_ok {C : Addr} {f k : Nat} (h1 : f ≤ 60) (h2 : k ≤ 12) (h3 : f = 0 ∨ 1 ≤ k) : R_sumplan C [.int f, .int k] (.ok (planS 0 f k).d) := ⟨f, k, rfl, by rw [if_neg (badT_of h1 h2 h3)]; rfl⟩
/-- the law's own table -/
def zRow (k m : Nat) : List PyData := (List.range (m + 1)).map fun n => .int (S k n)
def zTab (f k : Nat) : List PyData := (List.range (k + 1)).map fun j => .list (zRow j f)
theorem zTab_at {f k j : Nat} {i : Int} (e : i = (j : Int)) (h : j ≤ k) : atI (zTab f k) i = some (.list (zRow j f)) := map_at e h
theorem zRow_at {m k j : Nat} {i : Int} (e : i = (j : Int)) (h : j ≤ m) : atI (zRow k m) i = some (.int (S k j)) := map_at e h
theorem zRow_s0 (k : Nat) : [PyData.int 0] = zRow (k + 1) 0 := by
  show _ = [PyData.int (S (k + 1) 0)]
  rw [S_s0]
  rfl
theorem zTab_0 (f : Nat) : [PyData.list ([PyData.int 0] ++ (List.replicate f [PyData.int 1000000]).flatten)] = zTab f 0 := by
  show _ = [PyData.list (zRow 0 f)]
  refine congrArg (fun z => [PyData.list z]) (List.ext_getElem? fun i => ?_)
  rw [flat_one]
  unfold zRow
  rw [List.getElem?_map]
  cases i with
  | zero =>
    rw [List.getElem?_range (by omega)]
    show some (PyData.int 0) = some (PyData.int (S 0 0))
    rw [S_00]
    rfl
  | succ i =>
    rw [show [PyData.int 0] ++ List.replicate f (PyData.int 1000000) = PyData.int 0 :: List.replicate f (PyData.int 1000000) from rfl, List.getElem?_cons_succ, List.getElem?_replicate]
    by_cases h : i < f
    · rw [if_pos h, List.getElem?_range (by omega)]
      show some (PyData.int 1000000) = some (PyData.int (S 0 (i + 1)))
      rw [S_0s]
      rfl
    · rw [if_neg h, List.getElem?_eq_none (by rw [List.length_range]; omega)]
      rfl
theorem gS_min (k n : Nat) : ((gS k n (bD k n) : Nat) : Int) ∈ ((List.range (n + 1)).map fun d => ((gS k n d : Nat) : Int)) ∧ ∀ y ∈ ((List.range (n + 1)).map fun d => ((gS k n d : Nat) : Int)), ((gS k n (bD k n) : Nat) : Int) ≤ y := by
  constructor
  · exact List.mem_map.mpr ⟨bD k n, List.mem_range.mpr (by have := bD_le k n; omega), rfl⟩
  · intro y hy
    obtain ⟨d, hd, rfl⟩ := List.mem_map.mp hy
    have := argF_min (gS k n) n d (by have := List.mem_range.mp hd; omega)
    unfold bD
    omega
def R_lsums (ds : List PyData) (r : Rs) : Prop := ∃ f k : Nat, ds = [.int f, .int k] ∧ f ≤ 60 ∧ k ≤ 12 ∧ r = .new (zTab f k)
def R_lruleS (n : Nat) (ds : List PyData) (r : Rs) : Prop := ∃ (lo s k f K : Nat) (a b c : Int), ds = [(planS lo s k).d, .int a, .int b, .int c, .list (zTab f K)] ∧ a = lo ∧ b = (lo : Int) + s ∧ c = k ∧ s < n ∧ s ≤ f ∧ f ≤ 60 ∧ k ≤ K ∧ K ≤ 12 ∧ (s = 0 ∨ 1 ≤ k) ∧ r = .ok (.bool true)
end Eg
namespace Eg
open PySem PySem.Spec PyProof.Rows L2
/-! ### drawn plans -/
def dR (ns : List Int) (at_ lo s k : Nat) : Nat := if k = 1 then 1 else 1 + (cell ns (at_ + (7 * lo + 3 * (lo + s)) % 40) / (1 + (k : Int)) % (s : Int)).toNat
theorem dR_pos (ns : List Int) (at_ lo s k : Nat) : 1 ≤ dR ns at_ lo s k := by
  unfold dR
  split <;> omega
theorem dR_le {ns : List Int} {at_ lo s k : Nat} (h : s ≠ 0) : dR ns at_ lo s k ≤ s := by
  unfold dR
  split
  · omega
  · have h1 := Int.emod_nonneg (cell ns (at_ + (7 * lo + 3 * (lo + s)) % 40) / (1 + (k : Int))) (show (s : Int) ≠ 0 by omega)
    have h2 := Int.emod_lt_of_pos (cell ns (at_ + (7 * lo + 3 * (lo + s)) % 40) / (1 + (k : Int))) (show (0 : Int) < (s : Int) by omega)
    omega
theorem dR_left {ns : List Int} {at_ lo s k : Nat} (hk : 1 ≤ k) : dR ns at_ lo s k - 1 = 0 ∨ 1 ≤ k - 1 := by
  by_cases q : 1 ≤ k - 1
  · exact .inr q
  · refine .inl ?_
    unfold dR
    rw [if_pos (by omega)]
def drT (ns : List Int) (at_ lo s k : Nat) : Tr := if h : s = 0 then .told lo else .drop ((lo + dR ns at_ lo s k : Nat) : Int) (drT ns at_ lo (dR ns at_ lo s k - 1) (k - 1)) (drT ns at_ (lo + dR ns at_ lo s k) (s - dR ns at_ lo s k) k)
termination_by s
decreasing_by
  all_goals
    have h1 := dR_pos ns at_ lo s k
    have h2 := dR_le (ns := ns) (at_ := at_) (lo := lo) (k := k) h
    omega
theorem drT_0 (ns : List Int) (at_ lo k : Nat) : drT ns at_ lo 0 k = .told lo := by
  rw [drT]
  exact dif_pos rfl
theorem drT_s {ns : List Int} {at_ lo s k : Nat} (h : s ≠ 0) : drT ns at_ lo s k = .drop ((lo + dR ns at_ lo s k : Nat) : Int) (drT ns at_ lo (dR ns at_ lo s k - 1) (k - 1)) (drT ns at_ (lo + dR ns at_ lo s k) (s - dR ns at_ lo s k) k) := by
  rw [drT]
  exact dif_neg h
theorem drT_dep (ns : List Int) (at_ : Nat) : ∀ (s lo k : Nat), (drT ns at_ lo s k).dep ≤ s := by
  intro s
  induction s using Nat.strongRecOn with
  | _ s ih =>
    intro lo k
    by_cases h : s = 0
    · subst h
      rw [drT_0]
      exact Nat.le_refl _
    · rw [drT_s h]
      have h1 := dR_pos ns at_ lo s k
      have h2 := dR_le (ns := ns) (at_ := at_) (lo := lo) (k := k) h
      have a := ih (dR ns at_ lo s k - 1) (by omega) lo (k - 1)
      have b := ih (s - dR ns at_ lo s k) (by omega) (lo + dR ns at_ lo s k) k
      unfold Tr.dep
      omega
theorem drT_wv (ns : List Int) (at_ : Nat) : ∀ (s lo k : Nat) (hi : Int), (s = 0 ∨ 1 ≤ k) → hi = (lo : Int) + s → ∃ v, wv (drT ns at_ lo s k) lo hi k = some v := by
  intro s
  induction s using Nat.strongRecOn with
  | _ s ih =>
    intro lo k hi hk ehi
    by_cases h : s = 0
    · subst h
      exact ⟨0, by rw [drT_0, wv_told, if_pos ⟨by omega, rfl⟩]⟩
    · have hk1 : 1 ≤ k := by omega
      rw [drT_s h]
      have h1 := dR_pos ns at_ lo s k
      have h2 := dR_le (ns := ns) (at_ := at_) (lo := lo) (k := k) h
      obtain ⟨x, a⟩ := ih (dR ns at_ lo s k - 1) (by omega) lo (k - 1) (((lo + dR ns at_ lo s k : Nat) : Int) - 1) (dR_left hk1) (by omega)
      obtain ⟨y, b⟩ := ih (s - dR ns at_ lo s k) (by omega) (lo + dR ns at_ lo s k) k hi (.inr hk1) (by omega)
      rw [show ((k - 1 : Nat) : Int) = (k : Int) - 1 by omega] at a
      exact ⟨_, wv_ok (by omega) a b⟩
def R_ltree (n : Nat) (ds : List PyData) (r : Rs) : Prop := ∃ (ns : List Int) (at_ lo s k : Nat) (a b c : Int), ds = [.list (ns.map .int), .int at_, .int a, .int b, .int c] ∧ a = lo ∧ b = (lo : Int) + s ∧ c = k ∧ s < n ∧ s ≤ 60 ∧ k ≤ 12 ∧ (s = 0 ∨ 1 ≤ k) ∧ r = .ok (drT ns at_ lo s k).d
end Eg
namespace Eg
open PySem PySem.Spec PyProof.Rows L2
/-! ### the walks of a right plan -/
theorem wv_inv {n lo hi k : Int} {b w : Tr} {v : Nat} (h : wv (.drop n b w) lo hi k = some v) : ¬ (k = 0 ∨ ¬ (lo < n ∧ n ≤ hi)) ∧ ∃ x y, wv b lo (n - 1) (k - 1) = some x ∧ wv w n hi k = some y ∧ v = 1 + max x y := by
  by_cases hc : k = 0 ∨ ¬ (lo < n ∧ n ≤ hi)
  · rw [wv_no hc] at h
    cases h
  · cases hb : wv b lo (n - 1) (k - 1) with
    | none =>
      rw [wv_b hc hb] at h
      cases h
    | some x =>
      cases hw : wv w n hi k with
      | none =>
        rw [wv_w hc hw] at h
        cases h
      | some y =>
        rw [wv_ok hc hb hw] at h
        exact ⟨hc, x, y, rfl, rfl, (Option.some.inj h).symm⟩
theorem wv_told_inv {n lo hi k : Int} {v : Nat} (h : wv (.told n) lo hi k = some v) : lo = hi ∧ n = lo ∧ v = 0 := by
  rw [wv_told] at h
  split at h
  · next q => exact ⟨q.1, q.2, (Option.some.inj h).symm⟩
  · cases h
theorem wv_dep : ∀ (t : Tr) (lo hi k : Int) (v : Nat), wv t lo hi k = some v → v ≤ t.dep
  | .told n, lo, hi, k, v, h => by
    have := (wv_told_inv h).2.2
    omega
  | .drop n b w, lo, hi, k, v, h => by
    obtain ⟨_, x, y, hb, hw, e⟩ := wv_inv h
    have h1 := wv_dep b _ _ _ _ hb
    have h2 := wv_dep w _ _ _ _ hw
    unfold Tr.dep
    omega
/-- the floors are within the reach -/
theorem wv_rch : ∀ (t : Tr) (lo hi : Int) (k : Nat) (v : Nat), wv t lo hi k = some v → hi - lo ≤ rch k v
  | .told n, lo, hi, k, v, h => by
    have := (wv_told_inv h).1
    omega
  | .drop n b w, lo, hi, k, v, h => by
    obtain ⟨hc, x, y, hb, hw, e⟩ := wv_inv h
    obtain ⟨k, rfl⟩ : ∃ j, k = j + 1 := ⟨k - 1, by omega⟩
    rw [show ((k + 1 : Nat) : Int) - 1 = (k : Int) by omega] at hb
    have h1 := wv_rch b _ _ _ _ hb
    have h2 := wv_rch w _ _ _ _ hw
    have h3 := rch_le k (Nat.le_max_left x y)
    have h4 := rch_le (k + 1) (Nat.le_max_right x y)
    rw [e, Nat.add_comm 1, rch_next]
    omega
theorem wk_le : ∀ (t : Tr) (lo hi k : Int) (v : Nat) (fl : Int), wv t lo hi k = some v → (wk t fl).length ≤ v
  | .told n, lo, hi, k, v, fl, h => by
    rw [wk_told]
    exact Nat.zero_le _
  | .drop n b w, lo, hi, k, v, fl, h => by
    obtain ⟨_, x, y, hb, hw, e⟩ := wv_inv h
    have h1 := wk_le b _ _ _ _ fl hb
    have h2 := wk_le w _ _ _ _ fl hw
    by_cases q : fl < n
    · rw [wk_b q, List.length_cons]
      omega
    · rw [wk_w q, List.length_cons]
      omega
theorem wk_breaks : ∀ (t : Tr) (lo hi : Int) (k : Nat) (v : Nat) (fl : Int), wv t lo hi k = some v → ((wk t fl).filter (·.2)).length ≤ k
  | .told n, lo, hi, k, v, fl, h => by
    rw [wk_told]
    exact Nat.zero_le _
  | .drop n b w, lo, hi, k, v, fl, h => by
    obtain ⟨hc, x, y, hb, hw, e⟩ := wv_inv h
    obtain ⟨k, rfl⟩ : ∃ j, k = j + 1 := ⟨k - 1, by omega⟩
    rw [show ((k + 1 : Nat) : Int) - 1 = (k : Int) by omega] at hb
    have h1 := wk_breaks b _ _ _ _ fl hb
    have h2 := wk_breaks w _ _ _ _ fl hw
    by_cases q : fl < n
    · rw [wk_b q, List.filter_cons, if_pos rfl, List.length_cons]
      omega
    · rw [wk_w q, List.filter_cons, if_neg (by simp)]
      exact h2
/-- no two floors have one walk -/
theorem wk_inj : ∀ (t : Tr) (lo hi k : Int) (v : Nat) (x y : Int), wv t lo hi k = some v → lo ≤ x → x ≤ hi → lo ≤ y → y ≤ hi → wk t x = wk t y → x = y
  | .told n, lo, hi, k, v, x, y, h, h1, h2, h3, h4, _ => by
    have := (wv_told_inv h).1
    omega
  | .drop n b w, lo, hi, k, v, x, y, h, h1, h2, h3, h4, e => by
    obtain ⟨hc, p, q, hb, hw, _⟩ := wv_inv h
    by_cases a : x < n
    · by_cases c : y < n
      · rw [wk_b a, wk_b c] at e
        exact wk_inj b _ _ _ _ x y hb h1 (by omega) h3 (by omega) (List.cons.inj e).2
      · rw [wk_b a, wk_w c] at e
        have := (Prod.mk.inj (List.cons.inj e).1).2
        cases this
    · by_cases c : y < n
      · rw [wk_w a, wk_b c] at e
        have := (Prod.mk.inj (List.cons.inj e).1).2
        cases this
      · rw [wk_w a, wk_w c] at e
        exact wk_inj w _ _ _ _ x y hw (by omega) h2 (by omega) h4 (List.cons.inj e).2
theorem pdW_lay (p : Int × Bool) : (pdW p).canLay0 = true := by simp [pdW, PyData.canLay0, PyData.canLayAll0]
theorem pdW_dep (p : Int × Bool) : (pdW p).depth = 1 := by simp [pdW, PyData.depth, PyData.depthAll]
theorem pdWs_lay : ∀ l : List (Int × Bool), PyData.canLayAll0 (l.map pdW) = true
  | [] => rfl
  | p :: l => by simp [PyData.canLayAll0, pdW_lay p, pdWs_lay l]
theorem pdWs_dep : ∀ l : List (Int × Bool), PyData.depthAll (l.map pdW) ≤ 1
  | [] => Nat.zero_le _
  | p :: l => by
    have ih := pdWs_dep l
    have h := pdW_dep p
    simp only [List.map_cons, PyData.depthAll]
    omega
theorem sh_list {ds : List PyData} (h1 : PyData.canLayAll0 ds = true) (h2 : PyData.depthAll ds ≤ 60) : SeqAt.shaped (.list ds) = true := by
  have e1 : (PyData.list ds).canLay0 = true := by simpa only [PyData.canLay0] using h1
  have e2 : (PyData.list ds).depth = PyData.depthAll ds + 1 := by simp only [PyData.depth]
  unfold SeqAt.shaped
  rw [e1, e2, Bool.true_and]
  exact decide_eq_true (by omega)
theorem sh_tup {ds : List PyData} (h1 : PyData.canLayAll0 ds = true) (h2 : PyData.depthAll ds ≤ 60) : SeqAt.shaped (.tuple ds) = true := by
  have e1 : (PyData.tuple ds).canLay0 = true := by simpa only [PyData.canLay0] using h1
  have e2 : (PyData.tuple ds).depth = PyData.depthAll ds + 1 := by simp only [PyData.depth]
  unfold SeqAt.shaped
  rw [e1, e2, Bool.true_and]
  exact decide_eq_true (by omega)
theorem sh_walk (l : List (Int × Bool)) : SeqAt.shaped (.list (l.map pdW)) = true := by
  have h := pdWs_dep l
  exact sh_list (pdWs_lay l) (by omega)
def pdWL (l : List (Int × Bool)) : PyData := .list (l.map pdW)
theorem sh_walks (ls : List (List (Int × Bool))) : SeqAt.shaped (.list (ls.map pdWL)) = true := by
  have h1 : ∀ ls : List (List (Int × Bool)), PyData.canLayAll0 (ls.map pdWL) = true := fun ls => by
    induction ls with
    | nil => rfl
    | cons l ls ih => simp [pdWL, PyData.canLayAll0, PyData.canLay0, pdWs_lay l, ih]
  have h2 : ∀ ls : List (List (Int × Bool)), PyData.depthAll (ls.map pdWL) ≤ 2 := fun ls => by
    induction ls with
    | nil => exact Nat.zero_le _
    | cons l ls ih =>
      have h := pdWs_dep l
      simp only [List.map_cons, PyData.depthAll, pdWL, PyData.depth]
      omega
  have h := h2 ls
  exact sh_list (h1 ls) (by omega)
theorem eqv_pdW : ∀ l m : List (Int × Bool), PyData.eqvAll (l.map pdW) (m.map pdW) = true → l = m
  | [], [], _ => rfl
  | [], q :: m, h => by simp [PyData.eqvAll] at h
  | p :: l, [], h => by simp [PyData.eqvAll] at h
  | p :: l, q :: m, h => by
    simp only [List.map_cons, PyData.eqvAll, Bool.and_eq_true] at h
    have ih := eqv_pdW l m h.2
    have e := h.1
    simp only [pdW, PyData.eqv, PyData.eqvAll, Bool.and_eq_true, beq_iff_eq] at e
    rw [ih, Prod.ext e.1 e.2.1]
theorem seen_no {t : Tr} {f : Nat} {k : Int} {v : Nat} (h : wv t 0 f k = some v) {i : Nat} (hi : i ≤ f) : (((List.range i).map fun j : Nat => wk t (j : Int)).map pdWL).any (fun z => PyData.eqv z (.list ((wk t (i : Int)).map pdW))) = false := by
  rw [List.any_eq_false]
  intro z hz e
  obtain ⟨l, hl, rfl⟩ := List.mem_map.mp hz
  obtain ⟨j, hj, rfl⟩ := List.mem_map.mp hl
  have hj' := List.mem_range.mp hj
  have q : PyData.eqvAll ((wk t (j : Int)).map pdW) ((wk t (i : Int)).map pdW) = true := by
    simpa only [pdWL, PyData.eqv] using e
  have := wk_inj t 0 f k v j i h (by omega) (by omega) (by omega) (by omega) (eqv_pdW _ _ q)
  omega
theorem breaks_given : ∀ l : List (Int × Bool), (given l.length (fun i => (l[i]?.getD (0, false)).2) (fun i => pdW (l[i]?.getD (0, false)))).length = (l.filter (·.2)).length := by
  intro l
  unfold given
  rw [List.length_map]
  have e : ∀ l : List (Int × Bool), (List.range l.length).map (fun i => l[i]?.getD (0, false)) = l := fun l => by
    refine List.ext_getElem? fun i => ?_
    rw [List.getElem?_map]
    by_cases h : i < l.length
    · rw [List.getElem?_range h, List.getElem?_eq_getElem h]
      show some (l[i]?.getD (0, false)) = _
      rw [List.getElem?_eq_getElem h]
      rfl
    · rw [List.getElem?_eq_none (by rw [List.length_range]; omega), List.getElem?_eq_none (by omega)]
      rfl
  have q : (l.filter (·.2)) = (((List.range l.length).map (fun i => l[i]?.getD (0, false))).filter (·.2)) := by rw [e l]
  rw [q, List.filter_map, List.length_map]
  rfl
def resWk (C : Addr) (t : Tr) (f fl : Int) : Option Nat → Addr → Rs
  | none, C2 => .exc C2
  | some _, _ => if fl < 0 ∨ f < fl then .exc C else .new ((wk t fl).map pdW)
def R_walked (C1 C2 C3 : Addr) (ds : List PyData) (r : Rs) : Prop := ∃ (t : Tr) (f k fl : Int), ds = [t.d, .int f, .int k, .int fl] ∧ t.dep < 100 ∧ r = if badT f k = true then .exc C1 else resWk C3 t f fl (wv t 0 f k) C2
theorem R_walked_ok {C1 C2 C3 : Addr} {t : Tr} {f k : Nat} {fl : Int} {v : Nat} (h1 : f ≤ 60) (h2 : k ≤ 12) (h3 : f = 0 ∨ 1 ≤ k) (hd : t.dep < 100) (h : wv t 0 f k = some v) (a : 0 ≤ fl) (b : fl ≤ f) : R_walked C1 C2 C3 [t.d, .int f, .int k, .int fl] (.new ((wk t fl).map pdW)) :=
  ⟨t, f, k, fl, rfl, hd, by rw [if_neg (badT_of h1 h2 h3), h]; exact (if_neg (by omega)).symm⟩
end Eg
namespace Eg
open PySem PySem.Spec PyProof.Rows L2
open Evl (Ex fresh_back ex_l ex_t ex_rd)
/-! ### the classes of errors, asked -/
theorem kit_own {K : PySem.W.Frag} {D C : Addr} {b : Bool} (hc : PySem.W.hasDictIn K C = true) (ht : PySem.W.typeIn K (.ref C) = some (.type "type")) (hs : PySem.W.subIn K (.ref D) (.ref C) = some b) (hn : b = false → (Value.ref D == Value.ref C) = false) : PySem.W.kitOne K (.ref D) (.ref C) = some b := by
  obtain ⟨cd, hcd, _⟩ := PySem.W.any_some hc
  have e2 : ((PySem.W.clsIn K C).isSome && PySem.W.typeIn K (.ref C) == some (.type "type")) = true := by rw [hcd, ht] <;> rfl
  have e3 : PySem.W.kitCls K (.ref D) (.ref C) = some b := by
    show (if _ then PySem.W.subIn K (.ref D) (.ref C) else none) = some b
    rw [if_pos e2, hs]
  show (if (Value.ref D == Value.ref C) = true then some true else PySem.W.kitCls K (.ref D) (.ref C)) = some b
  rw [e3]
  cases b with
  | true => split <;> rfl
  | false => rw [hn rfl] <;> rfl
theorem kit_val {K : PySem.W.Frag} {D : Addr} {n : String} {b : Bool} (hm : PySem.W.kitMeta n = true) (hs : PySem.W.subIn K (.ref D) (.type n) = some b) (hn : (Value.ref D == Value.type n) = false) : PySem.W.kitOne K (.ref D) (.type n) = some b := by
  show (if (Value.ref D == Value.type n) = true then some true else if PySem.W.kitMeta n = true then PySem.W.subIn K (.ref D) (.type n) else none) = some b
  rw [hn, hm, hs] <;> rfl
/-- isinstance(e, c), e the exception that a suite holds: its object is at a -/
theorem isE {X : Cx} {K : PySem.W.Frag} {a D : Addr} {oe : Obj} (F : L2.ExcC K D) (hz : Zc (.ref D) none oe) (hf : ∃ vs, oe.data = .fields vs) (hp : (a, oe) ∈ X.pn) (hK : X.K = K := by rfl) : CallR X (.builtin "isinstance") (rIsE K D a) := by
  subst hK
  rintro pins s σ H xs us Q I r ⟨c, cv, b, rfl, only, ek, q⟩
  cases r with
  | cons r1 rest =>
  cases rest with
  | cons r2 rest =>
  cases rest
  cases r1
  cases only _ r2
  have there := (I.pin (a, oe) (List.mem_append.mpr (.inl hp))).1
  obtain ⟨vs, hv⟩ := hf
  have at_ : PySem.W.InstAt s.heap a oe D none := by
    rcases oe with ⟨o1, o2, o3, o4⟩
    rcases hz with ⟨z1, z2⟩
    dsimp only at z1 z2 hv
    cases z1; cases z2; cases hv
    exact ⟨there, rfl, rfl, trivial⟩
  refine PySem.W.kia_one (PySem.W.handS_kitx_exc F.hg F.hk F.hs F.hd F.ha F.hn F.ht F.hm) I.kIn at_ ek (fun z => nomatch z) fun tk => ?_
  exact ⟨.bl b, H, I.kept (t' := tk) fun _ _ z => z, rfl, q⟩
def Wh (K : PySem.W.Frag) (C1 C2 C3 C4 : Addr) (D : Addr) (ds : List PyData) : Prop := L2.ExcC K D ∧ ∃ b1 b2 b3 b4 b5, PySem.W.kitOne K (.ref D) (.ref C1) = some b1 ∧ PySem.W.kitOne K (.ref D) (.ref C2) = some b2 ∧ PySem.W.kitOne K (.ref D) (.ref C3) = some b3 ∧ PySem.W.kitOne K (.ref D) (.ref C4) = some b4 ∧ PySem.W.kitOne K (.ref D) (.type "ValueError") = some b5 ∧ ds = [.bool b1, .bool b2, .bool b3, .bool b4, .bool b5]
section
variable {K : PySem.W.Frag} {E : XK} {ρ : Rho}
theorem GE.isE {i : Nat} {a D : Addr} {c : V} {cv : Value} {b : Bool} (h : ρ[i]? = some (some (.fix (.ref a)))) (hc : ∀ u, RelV c u → u = cv) (hk : PySem.W.kitOne K (.ref D) cv = some b) : GE K E (tCB (rIsE K D a) (tCons (tVar i) (tCons (tC c) tNil))) ρ (.ok (.bool b)) := fun H0 B H σ bh s Q q =>
  ⟨.ref a, s.fix i _ h, c, cv, b, rfl, hc, hk, q.go _ B H (.refl bh) (.bl b)⟩
theorem Sl.setFix {H0 B H : Hp} {σ : L2.St} (s : Sl K H0 B H σ ρ) (i : Nat) {v : V} : Sl K H0 B H (σ.set i (some v)) (ρ.set i (some (.fix v))) where
  len := by rw [List.length_set, List.length_set, s.len]
  dat := fun j e h => by
    rcases set_get h with ⟨rfl, q⟩ | ⟨n, q⟩
    · cases q
    · rw [List.getElem?_set_ne n]
      exact s.dat j e q
  own := fun j ds h => by
    rcases set_get h with ⟨rfl, q⟩ | ⟨n, q⟩
    · cases q
    · rw [List.getElem?_set_ne n]
      exact s.own j ds q
  sep := fun j k dj dk hjk hj hk => by
    rcases set_get hj with ⟨rfl, q⟩ | ⟨n, q⟩
    · cases q
    · rcases set_get hk with ⟨rfl, q'⟩ | ⟨n', q'⟩
      · cases q'
      · rw [List.getElem?_set_ne n, List.getElem?_set_ne n']
        exact s.sep j k dj dk hjk q q'
  fix := fun j u h => by
    rcases set_get h with ⟨rfl, q⟩ | ⟨n, q⟩
    · cases q
      have hl := set_lt h
      rw [← s.len] at hl
      exact List.getElem?_set_self hl
    · rw [List.getElem?_set_ne n]
      exact s.fix j u q
theorem sl_fix1 {B H : Hp} {N : List Str} {v : V} (hN : N.length = 2) : Sl K H B H (L2.start N [v]) [some (.fix v), none] where
  len := by
    unfold L2.start
    rw [List.length_append, List.length_map, List.length_replicate, hN] <;> rfl
  dat := fun i d h => by
    match i, h with
    | 0, h => cases h
    | 1, h => cases h
  own := fun i d h => by
    match i, h with
    | 0, h => cases h
    | 1, h => cases h
  sep := fun i j di dj _ h => by
    match i, h with
    | 0, h => cases h
    | 1, h => cases h
  fix := fun i u h => by
    match i, h with
    | 0, h =>
      cases h
      rfl
    | 1, h => cases h
end
/-- a def of one argument, the exception that is handled; it comes to a new list by W -/
structure FnW (P : Program) (w : World) (K : PySem.W.Frag) (mg : Str → Option Value) (base : Heap) (x : Str) (W : Addr → List PyData → Prop) : Prop where
  ex : ∃ (f : Addr) (fd : FuncData) (n : Str), mg x = some (.ref f) ∧ PySem.W.keepIn K (.ref f) = true ∧ Binds K fd [n] [] ∧
    ∀ (A : Around) (outer : List Env) (s : Shared) (H : Hp) (args : Args) (Q : VK) (E : XK) (p : Addr × Obj) (D : Addr) (ds : List PyData), L2H.RoomH 1 A → Zc (.ref D) none p.2 → (∃ vs, p.2.data = .fields vs) → L2H.PinOk outer H s p → Env0 P w K mg base A outer s H →
      BindsTo s fd args [(n, .ref p.1)] → W D ds → (∃ B, Ex B H ∧ Fin K E0 B H (.new ds) Q) → codeAny (model P w) A (.call (.ref f) args) (CR (L2.CX P w) outer P w H s Q E) s
theorem fnW_mk {P : Program} {w : World} {K : PySem.W.Frag} {mg : Str → Option Value} {base : Heap} {x n : Str} {st : Stmt} {f : Addr} {fd : FuncData} {N : List Str} {W : Addr → List PyData → Prop} (F : Fun K x x st f fd) (S : FnScope N [n] (defScope st)) (hN : N.length = 2) (hm : mg x = some (.ref f)) (hb : Binds K fd [n] [])
    (body : ∀ (cdv : Value) (A : Around) (outer : List Env) (s : Shared) (H : Hp) (E : XK) (p : Addr × Obj) (D : Addr) (ds : List PyData), Zc (.ref D) none p.2 → (∃ vs, p.2.data = .fields vs) → W D ds → ∃ t, PSs (L2H.cxH (L2.CX P w) P w K mg base N x (defScope st) f cdv A outer s H E p) (defBody st) t ∧ GS K E0 t [some (.fix (.ref p.1)), none] (fun _ => False) (.new ds)) : FnW P w K mg base x W := by
  have kp := F.kp
  obtain ⟨oc, od, kV, doc, pm, an, cdv, ct, osl, rfl, lk, hcd⟩ := F.ex
  refine ⟨f, _, n, hm, kp, hb, fun A outer s H args Q E p D ds room hz hf okp env bt hW hQ => ?_⟩
  have inH : K.In s.heap := env.mod.kin.keeps fun b o e => (env.bs b o e).1
  have noLim : s.heap.NoLimit := env.mod.nolimit.keeps fun b o e => (env.bs b o e).1
  refine codeAny_call_function room.depth (inH _ _ lk) rfl S.co S.gen rfl (PySem.W.codeRec_of inH hcd) (bt _ _ _ _ ?_)
  refine wpAny_newFunctionEnv_cells S.kind (fun y hy => ?_) fun env1 he s1 call => ?_
  · rw [List.mem_singleton.mp hy]
    rcases S.par n (List.mem_singleton.mpr rfl) with k1 | k1
    · exact .inl k1
    · exact .inr ⟨k1, PySem.W.cellsFrom_some _ _ _ (.inl k1)⟩
  cases he
  refine ⟨noLim.keeps call.toInCall.keep, codeAny_func ?_⟩
  obtain ⟨t, ht, g⟩ := body cdv A outer s H E p D ds hz hf hW
  have I := L2H.inv_startH (CX := L2.CX P w) (E := E) (f := f) (cd := cdv) (vs := [.ref p.1]) S okp env rfl (.cons rfl .nil) call
  obtain ⟨B, bh, fin⟩ := hQ
  have hq : t { nx := fun _ H' => Q .non H', rt := Q } (L2.start N [.ref p.1]) H := g B H B H _ (.refl bh) (sl_fix1 hN) _ (fun _ _ _ _ _ _ z => z.elim) (fin_new fun v B' H' st' fv => fin.go v B' H' st' fv)
  refine wpAny_mono (ht.run [] s1 (L2.start N [.ref p.1]) H _ I hq) (fun fl s2 h2 => ?_) fun e s2 h2 => h2
  cases fl with
  | ret u =>
    obtain ⟨v, σ2, H2, J, rv, q⟩ := h2
    exact ⟨v, H2, J.os, J.bare, J.base, J.hok, rv, q⟩
  | next =>
    obtain ⟨σ2, H2, J, q⟩ := h2
    exact ⟨.non, H2, J.os, J.bare, J.base, J.hok, rfl, q⟩
  | brk =>
    obtain ⟨_, _, _, q⟩ := h2
    exact q.elim
  | cont =>
    obtain ⟨_, _, _, q⟩ := h2
    exact q.elim
def tWhich (K : PySem.W.Frag) (W : Addr → List PyData → Prop) (i : Nat) (a : Addr) (cls : Value) (d : Option Addr) : TE := fun σ H Q =>
  ∃ (D : Addr) (ds : List PyData), cls = .ref D ∧ d = none ∧ W D ds ∧ σ[i]? = some (some (.ref a)) ∧ ∃ B, Ex B H ∧ Fin K E0 B H (.new ds) Q
theorem pe_which {X : Cx} {P : Program} {w : World} {K : PySem.W.Frag} {mg : Str → Option Value} {base : Heap} {W : Addr → List PyData → Prop} {x : Str} {a : Addr} {oe : Obj} {cls : Value} {d : Option Addr} {pn : List (Addr × Obj)} {i k : Nat} {e : Expr} {p0 pos : Pos}
    (F : FnW P w K mg base x W) (hz : Zc cls d oe) (hf : ∃ vs, oe.data = .fields vs) (hr : Room k X.A) (hk : 1 ≤ k) (ha : PA (X.suite a ((a, oe) :: pn)) [e] (tCons (tVar i) tNil))
    (hP : X.prog = P := by rfl) (hw : X.w = w := by rfl) (hK : X.K = K := by rfl) (hmg : X.mg = mg := by rfl) (hB : X.base = base := by rfl) (hg : Gl X x := by rfl) (hdb : (x == ("__debug__" : Str)) = false := by decide)
    (he : starEach [e] X.env = [(false, eval e X.env)] := by rfl) (hpl : (backTo pos (starEach ([] : List Expr) X.env)).any (·.1) = false := by rfl) :
    PE (X.suite a ((a, oe) :: pn)) (.Call (.Name x p0) [e] [] pos) (tWhich K W i a cls d) := by
  subst hP hw hK hmg hB
  obtain ⟨f, fd, n, hm, hkp, hb, run⟩ := F.ex
  refine ⟨fun pins s σ H Q I h => ?_⟩
  obtain ⟨D, ds, rfl, rfl, hW, hs, hQ⟩ := h
  have go : ∀ {s1 : Shared} {us : List Value} {H1 : Hp}, Inv (X.suite a ((a, oe) :: pn)) pins σ H1 s1 → us = [.ref a] → (∃ B, Ex B H1 ∧ Fin X.K E0 B H1 (.new ds) Q) → wpAny (model X.prog X.w) (X.suite a ((a, oe) :: pn)).A (call (.ref f) us) (EP (X.suite a ((a, oe) :: pn)) pins σ Q) (X.suite a ((a, oe) :: pn)).xe s1 := by
    rintro s1 us H1 I1 rfl q1
    have pin := I1.pin (a, oe) (List.mem_append_left _ (List.mem_cons_self ..))
    have okp : L2H.PinOk X.stack H1 s1 (a, oe) := ⟨pin.1, pin.2.1, fun hm' => (List.mem_cons.mp (I1.stkSub a hm')).elim pin.2.2.1 pin.2.2.2.1, pin.2.2.2.2⟩
    have bt := hb s1 [.ref a] I1.kIn rfl
    have room : L2H.RoomH 1 (X.suite a ((a, oe) :: pn)).A := ⟨(hr.mono hk).dp, (hr.mono hk).un⟩
    have c := run (X.suite a ((a, oe) :: pn)).A X.stack s1 H1 ⟨[.ref a], []⟩ Q E0 (a, oe) D ds room hz hf okp I1.env0 bt hW q1
    refine wpAny_call (codeAny_mono c fun r s2 hq => ?_)
    rcases r with er | fl
    · obtain ⟨_, _, _, _, _, _, _, _, _, _, _, _, z⟩ := hq
      exact z.elim
    · cases fl with
      | ret u => exact I1.after hq
      | next => exact hq.elim
      | brk => exact hq.elim
      | cont => exact hq.elim
  refine wpAny_Call_Name_kw (ld_glob I hg hm ?_ hdb)
  refine PySem.W.callWith_K (h₀ := X.base) I.ok.mod.kin hkp (thn (ha.run pos pins s σ H (fun vs H1 => vs = [.ref a] ∧ ∃ B, Ex B H1 ∧ Fin X.K E0 B H1 (.new ds) Q) I ⟨.ref a, hs, rfl, hQ⟩) fun us s1 ⟨vs, H1, I1, rv, ev, q1⟩ => ⟨I1.kIn, ?_⟩) he hpl
  subst ev
  refine go I1 ?_ q1
  cases rv with
  | cons r1 rest =>
    cases rest
    cases r1
    rfl
/-- a call in a try's body -/
theorem pe_fW {X : Cx} {P : Program} {w : World} {K : PySem.W.Frag} {mg : Str → Option Value} {base : Heap} {R : List PyData → Rs → Prop} {k j : Nat} {x : Str} {W : WX} {p pos : Pos} {e : Expr} {es : List Expr} {ta : TA} (C : Fn P w K mg base k x R) (hr : Room j X.A) (hk : k ≤ j) (tk : Takes X W) (ha : PA X (e :: es) ta)
    (hP : X.prog = P := by rfl) (hw : X.w = w := by rfl) (hK : X.K = K := by rfl) (hmg : X.mg = mg := by rfl) (hB : X.base = base := by rfl) (hg : Gl X x := by rfl) (hdb : (x == ("__debug__" : Str)) = false := by decide) (he : starEach (e :: es) X.env = (false, eval e X.env) :: starEach es X.env := by rfl) (hpl : (backTo pos (starEach es X.env)).any (·.1) = false := by rfl) :
    PE X (.Call (.Name x p) (e :: es) [] pos) (tCallS (spR K R) (WE W) ta) := by
  subst hP hw hK hmg hB
  obtain ⟨f, fd, ps, F, hm, hkp, hb⟩ := C.ex
  exact pe_callS F (hr.mono hk) hg hm hkp hb (passAt tk) ha hdb he hpl
/-! ### try: body, except x as n: suite -/
section
variable {K : PySem.W.Frag} {E E' : XK} {ρ : Rho} {Nx : Rho → Prop} {r : Rs} {o : Option Addr}
/-- a body: it goes on, or lets out an error of the class o with the names as they were -/
def GB (K : PySem.W.Frag) (tb : WX → TS) (ρ : Rho) (o : Option Addr) (Nx : Rho → Prop) : Prop := ∀ B0 H0 B H σ, Step B0 H0 B H → Sl K H0 B H σ ρ → ∀ (W : WX) (D : Ends),
  (∀ σ' B' H' ρ', Step B0 H0 B' H' → Sl K H0 B' H' σ' ρ' → Nx ρ' → D.nx σ' H') → (∀ C, o = some C → ∀ B' H', Step B H B' H' → W (.ref C) none σ H') → tb W D σ H
theorem GB.ifs {tc : TT} {b : Bool} {t u : WX → TS} (h : GT K E' tc ρ b) (h1 : b = true → GB K t ρ o Nx) (h2 : b = false → GB K u ρ o Nx) : GB K (fun W => tIfS tc (t W) (u W)) ρ o Nx := fun B0 H0 B H σ st s W D nx up =>
  h H0 B H σ st.dh s _ fun B' H' st' => by
    cases b with
    | true => exact h1 rfl B0 H0 B' H' σ (st.trans st') (s.mono st') W D nx fun C e B2 H2 s2 => up C e B2 H2 (st'.trans s2)
    | false => exact h2 rfl B0 H0 B' H' σ (st.trans st') (s.mono st') W D nx fun C e B2 H2 s2 => up C e B2 H2 (st'.trans s2)
theorem GB.next (n : Nx ρ) : GB K (fun _ => tNext) ρ o Nx := fun B0 H0 B H σ st s W D nx up => nx σ B H ρ st s n
/-- what the call comes to: an error, or what is let go on -/
def outX : Rs → Option Addr
  | .exc C => some C
  | _ => none
theorem GB.drop {R : List PyData → Rs → Prop} {ta : TA} {ds : List PyData} {q : Rs} (ha : GA K E' ta ρ ds) (hr : R ds q) (ho : outX q = o) (n : o = none → Nx ρ) : GB K (fun W => tDrop (tCallS (spR K R) (WE W) ta)) ρ o Nx := fun B0 H0 B H σ st s W D nx up =>
  ha H0 B H σ st.dh s _ fun vs B1 H1 s1 d1 => ⟨B1, ds, q, s1.dh, d1, hr, fun v B2 H2 s2 f => nx σ B2 H2 ρ (st.trans (s1.trans s2)) (s.mono (s1.trans s2)) (n (by subst ho; cases q <;> first | rfl | exact f.elim)), fun C e B2 H2 s2 d ed => by
    subst e ho ed
    exact up C rfl B2 H2 (s1.trans s2)⟩
theorem GB.asg {R : List PyData → Rs → Prop} {ta : TA} {ds : List PyData} {d : PyData} {i : Nat} (ha : GA K E' ta ρ ds) (hr : R ds (.ok d)) (n : Nx (ρ.set i (some (.dat d)))) : GB K (fun W => tAsg (tCallS (spR K R) (WE W) ta) (gName i)) ρ o Nx := fun B0 H0 B H σ st s W D nx up =>
  ha H0 B H σ st.dh s _ fun vs B1 H1 s1 d1 => ⟨B1, ds, .ok d, s1.dh, d1, hr, fun v B2 H2 s2 f => nx _ B2 H2 _ (st.trans (s1.trans s2)) ((s.mono (s1.trans s2)).setD i f) n, fun C e => nomatch e⟩
theorem GB.asgX {R : List PyData → Rs → Prop} {ta : TA} {ds : List PyData} {C : Addr} {i : Nat} (ha : GA K E' ta ρ ds) (hr : R ds (.exc C)) : GB K (fun W => tAsg (tCallS (spR K R) (WE W) ta) (gName i)) ρ (some C) Nx := fun B0 H0 B H σ st s W D nx up =>
  ha H0 B H σ st.dh s _ fun vs B1 H1 s1 d1 => ⟨B1, ds, .exc C, s1.dh, d1, hr, fun v B2 H2 s2 f => f.elim, fun C' e B2 H2 s2 d ed => by
    cases e; cases ed
    exact up C rfl B2 H2 (s1.trans s2)⟩
def tTryAs (K : PySem.W.Frag) (c : Value) (i : Nat) (tb : WX → TS) (ts : Addr → Value → Option Addr → TS) (Wout : WX) : TS := fun D σ H => tb (wAs K c i ts Wout D) D σ H
theorem ps_tryA {X : Cx} {x n : Str} {c : Value} {i : Nat} {body suite : List Stmt} {b₀ : Stmt} {np pos pos' : Pos} {tb : WX → TS} {ts : Addr → Value → Option Addr → TS} {Wout : WX} (K : PySem.W.Frag) (h1 : X.stack = X.env :: X.outer) (h2 : X.env.frame = some X.env.locals) (h3 : X.N.Nodup) (h4 : X.N[i]? = some n) (h5 : X.env.kindOf n = some .local) (h6 : Names X x c) (h7 : Takes X Wout)
    (hb : ∀ (W : WX) (pn : List (Addr × Obj)) (xe : Value → Shared → Prop), Takes (X.tr pn xe) W → PassesOwn (model X.prog X.w) X.A X.env xe → PSs (X.tr pn xe) body (tb W))
    (hs : ∀ (a : Addr) (oe : Obj) (cls : Value) (d : Option Addr) (pn : List (Addr × Obj)), Zc cls d oe → (∃ vs, oe.data = .fields vs) → PSs (X.suite a ((a, oe) :: pn)) (b₀ :: suite) (ts a cls d)) (hK : X.K = K := by rfl) :
    PS X (.Try body [.ExceptHandler (some (.Name x np)) (some n) (b₀ :: suite) pos'] [] [] pos) (tTryAs K c i tb ts Wout) := by
  subst hK
  exact ps_try_as h1 h2 h3 h4 h5 h6 h7 hb hs
theorem GS.tryAs {c : Value} {i : Nat} {tb : WX → TS} {ts : Addr → Value → Option Addr → TS} {Wout : WX} (o : Option Addr) (hb : GB K tb ρ o Nx) (hx : ∀ C, o = some C → PySem.W.exmOne K (.ref C) c = some true ∧ ∀ a, GS K E (ts a (.ref C) none) (ρ.set i (some (.fix (.ref a)))) (fun ρ' => Nx (ρ'.set i none)) r) :
    GS K E (tTryAs K c i tb ts Wout) ρ Nx r := fun B0 H0 B H σ st s D nx fn =>
  hb B0 H0 B H σ st s _ D nx fun C e B' H' st' => by
    obtain ⟨ht, hg⟩ := hx C e
    refine ⟨true, ht, fun _ a ha => ?_, fun q => nomatch q⟩
    exact hg a B0 H0 B' H' _ (st.trans st') ((s.mono st').setFix i) _ (fun σ2 B2 H2 ρ2 s2 sl n => nx _ B2 H2 _ s2 (sl.forget i) n) fn
theorem GS.asgWhich {i j : Nat} {a D : Addr} {W : Addr → List PyData → Prop} {ds : List PyData} (hW : W D ds) (h : ρ[i]? = some (some (.fix (.ref a)))) (n : Nx (ρ.set j (some (.own ds)))) : GS K E (tAsg (tWhich K W i a (.ref D) none) (gName j)) ρ Nx r := fun B0 H0 B H σ st s D' nx fn =>
  ⟨D, ds, rfl, rfl, hW, s.fix i _ h, B, st.dh, fin_new fun v B' H' st' f => by
    obtain ⟨b, xs, rfl, h0, hb, h1, hd⟩ := f
    refine nx _ B' H' _ (st.trans st') ((s.mono st').setN j (fresh_back st.h h0) hb h1 hd fun m dm q z => ?_) n
    obtain ⟨b', ys, e1, _, _, e2, _⟩ := s.own m dm q
    rw [e1] at z
    cases z
    rw [h0] at e2
    cases e2⟩
end
end Eg
namespace Eg
open PySem PySem.Spec PyProof.Rows L2
open Evl (Ex fresh_back ex_l ex_t ex_rd)
/-! ### objects made -/
structure FnMk (P : Program) (w : World) (K : PySem.W.Frag) (mg : Str → Option Value) (base : Heap) (k : Nat) (C : Addr) (sp : Sp) : Prop where
  ex : ∃ (f : Addr) (fd : FuncData) (ps : List Str), FnOk P w K mg base (L2.CX P w) k f fd ps sp ∧ Mk K C f ∧ Binds K fd ps []
theorem pe_mk {X : Cx} {P : Program} {w : World} {K : PySem.W.Frag} {mg : Str → Option Value} {base : Heap} {sp : Sp} {k j : Nat} {x : Str} {C : Addr} {E : XK} {p pos : Pos} {e : Expr} {es : List Expr} {ta : TA} (F : FnMk P w K mg base k C sp) (hm : mg x = some (.ref C)) (hr : Room j X.A) (hk : k + 1 ≤ j) (hx : Passes (L2.CX X.prog X.w) X E) (ha : PA X (e :: es) ta)
    (hP : X.prog = P := by rfl) (hw : X.w = w := by rfl) (hK : X.K = K := by rfl) (hmg : X.mg = mg := by rfl) (hB : X.base = base := by rfl) (hg : Gl X x := by rfl) (hdb : (x == ("__debug__" : Str)) = false := by decide) (he : starEach (e :: es) X.env = (false, eval e X.env) :: starEach es X.env := by rfl) (hpl : (backTo pos (starEach es X.env)).any (·.1) = false := by rfl) :
    PE X (.Call (.Name x p) (e :: es) [] pos) (tMake C sp [] E ta) := by
  subst hP hw hK hmg hB
  obtain ⟨f, fd, ps, G, M, hb⟩ := F.ex
  exact pe_make M G (hr.mono hk) hg hm hb .nil hx ha hdb he hpl
/-- nothing is asked of the def, under another name -/
theorem fn_noneA {P : Program} {w : World} {K : PySem.W.Frag} {mg : Str → Option Value} {base : Heap} {x y qual : Str} {st : Stmt} {f : Addr} {fd : FuncData} {ps : List Str} {R : List PyData → Rs → Prop} (F : Fun K x qual st f fd) (hm : mg y = some (.ref f)) (b : Binds K fd ps []) (no : ∀ ds r, ¬ R ds r) : Fn P w K mg base 0 y R := by
  have n : ∀ vs H Q E, ¬ spR K R vs H Q E := fun vs H Q E h => by
    obtain ⟨B, ds, r, _, _, hR, _⟩ := h
    exact no ds r hR
  exact ⟨f, fd, ps, ⟨fun vs H Q E h => absurd h (n vs H Q E), fun A outer s H args us vs Q E _ _ _ _ h => absurd h (n vs H Q E)⟩, hm, F.kp, b⟩
/-- __init__ that raises at once -/
def spIX (K : PySem.W.Frag) (C : Addr) : Sp := fun vs H _ E => ∃ (p : Addr) (n t : Int), vs = [.ref p, .int n, .int t] ∧ badA n t = true ∧ ∃ B, Ex B H ∧ ∀ B' H', Step B H B' H' → E (.ref C) none H'
theorem GS.dropMkX {K : PySem.W.Frag} {E : XK} {ρ : Rho} {Nx : Rho → Prop} {C Cs : Addr} {ta : TA} {n t : Int} (ha : GA K E ta ρ [.int n, .int t]) (hb : badA n t = true) : GS K E (tDrop (tMake Cs (spIX K C) [] E ta)) ρ Nx (.exc C) := fun B0 H0 B H σ st s D nx fn =>
  ha H0 B H σ st.dh s _ fun vs B1 H1 s1 d1 => by
    cases d1 with
    | cons h1 d1 =>
    cases h1
    cases d1 with
    | cons h2 d1 =>
    cases h2; cases d1
    intro x dx hx hdx hne
    have sa : Step B1 H1 B1 (upd H1 dx (.own x)) := .own s1.dh hdx _
    have hx' : (upd H1 dx (.own x)) x = none := by rw [upd_ne (Ne.symm hne)]; exact hx
    have sb := sa.trans (.own sa.dh hx' (.ins Cs dx []))
    exact ⟨x, n, t, rfl, hb, B1, sb.dh, fun B' H' s2 => fn.up C rfl B' H' (st.trans (s1.trans (sb.trans s2))) none rfl⟩
end Eg
namespace Eg
open PySem PySem.Spec PyProof.Rows L2
/-! ### what is refused -/
theorem wv_one : ∀ (t : Tr) (lo hi hi' k k' : Int) (v v' : Nat), wv t lo hi k = some v → wv t lo hi' k' = some v' → hi = hi'
  | .told n, lo, hi, hi', k, k', v, v', h, h' => by
    have := (wv_told_inv h).1
    have := (wv_told_inv h').1
    omega
  | .drop n b w, lo, hi, hi', k, k', v, v', h, h' => by
    obtain ⟨_, _, _, _, hw, _⟩ := wv_inv h
    obtain ⟨_, _, _, _, hw', _⟩ := wv_inv h'
    exact wv_one w _ _ _ _ _ _ _ hw hw'
def badC (way f k : Int) : Prop := (0 ≤ way ∧ way ≤ 2 ∧ badA f k = true) ∨ (3 ≤ way ∧ way ≤ 8 ∧ badT f k = true) ∨ (way = 9 ∧ badR k f = true)
def badP (way f k : Int) (t : Tr) : Prop := (way = 4 ∨ way = 5 ∨ way = 8) ∧ badT f k = false ∧ wv t 0 f k = none
def badF (way f k : Int) (t : Tr) (fl : Int) : Prop := way = 5 ∧ badT f k = false ∧ (fl < 0 ∨ f < fl) ∧ ∃ v, wv t 0 f k = some v
def Bad (way f k : Int) (t : Tr) (fl : Int) (i : Nat) : Prop := (i = 0 ∧ badC way f k) ∨ (i = 1 ∧ badP way f k t) ∨ (i = 2 ∧ badF way f k t fl)
def pickC (C1 C2 C3 : Addr) (i : Nat) : Addr := if i = 0 then C1 else if i = 1 then C2 else C3
def R_asked13 (C1 C2 C3 : Addr) (ds : List PyData) (r : Rs) : Prop := ∃ (way f k fl : Int) (t : Tr) (i : Nat), ds = [.int way, .int f, .int k, t.d, .int fl] ∧ t.dep < 100 ∧ Bad way f k t fl i ∧ r = .exc (pickC C1 C2 C3 i)
def R_told13 (W : Nat → List PyData) (ds : List PyData) (r : Rs) : Prop := ∃ (way f k fl : Int) (t : Tr) (i : Nat), ds = [.int way, .int f, .int k, t.d, .int fl] ∧ t.dep < 100 ∧ Bad way f k t fl i ∧ r = .new (W i)
def R_planX (C : Addr) (ds : List PyData) (r : Rs) : Prop := ∃ f k : Int, ds = [.int f, .int k] ∧ badT f k = true ∧ r = .exc C
theorem badT_A {f k : Int} (h : badA f k = true) : badT f k = true := by
  unfold badT
  rw [h, Bool.or_true]
theorem badA_neg {f k : Int} (h : f < 0) : badA f k = true := by
  unfold badA badA1
  rw [decide_eq_true h, Bool.true_or, Bool.true_or]
theorem badA_big {f k : Int} (h : 1000 < f) : badA f k = true := by
  unfold badA badA1
  rw [decide_eq_true h]
  simp
theorem badA_k {f k : Int} (h : k < 0 ∨ 12 < k) : badA f k = true := by
  unfold badA badA1
  rcases h with h | h
  · rw [decide_eq_true h]
    simp
  · rw [decide_eq_true h]
    simp
theorem badA_no0 {f : Int} (h : 0 < f) : badA f 0 = true := by
  unfold badA badA2
  rw [decide_eq_true h]
  simp
theorem badR_f {f k : Int} (h : f < 0 ∨ 200 < f) : badR k f = true := by
  unfold badR
  rcases h with h | h
  · rw [decide_eq_true h]
    simp
  · rw [decide_eq_true h]
    simp
theorem badR_k {f k : Int} (h : k < 0 ∨ 12 < k) : badR k f = true := by
  unfold badR
  rcases h with h | h
  · rw [decide_eq_true h]
    simp
  · rw [decide_eq_true h]
    simp
def mostW (way : Int) : Int := if way ≤ 2 then 1000 else if way ≤ 8 then 60 else 200
theorem badC_f {way f k : Int} (h0 : 0 ≤ way) (h9 : way ≤ 9) (h : f < 0 ∨ mostW way < f) : badC way f k := by
  unfold mostW at h
  by_cases a : way ≤ 2
  · rw [if_pos a] at h
    refine .inl ⟨h0, a, ?_⟩
    rcases h with h | h
    · exact badA_neg h
    · exact badA_big h
  · rw [if_neg a] at h
    by_cases c : way ≤ 8
    · rw [if_pos c] at h
      refine .inr (.inl ⟨by omega, c, ?_⟩)
      rcases h with h | h
      · exact badT_A (badA_neg h)
      · unfold badT
        rw [decide_eq_true h, Bool.true_or]
    · rw [if_neg c] at h
      exact .inr (.inr ⟨by omega, badR_f h⟩)
theorem badC_k {way f k : Int} (h0 : 0 ≤ way) (h9 : way ≤ 9) (h : k < 0 ∨ 12 < k) : badC way f k := by
  by_cases a : way ≤ 2
  · exact .inl ⟨h0, a, badA_k h⟩
  · by_cases c : way ≤ 8
    · exact .inr (.inl ⟨by omega, c, badT_A (badA_k h)⟩)
    · exact .inr (.inr ⟨by omega, badR_k h⟩)
theorem badC_0 {way f : Int} (h0 : 0 ≤ way) (h9 : way ≤ 8) (h : 0 < f) : badC way f 0 := by
  by_cases a : way ≤ 2
  · exact .inl ⟨h0, a, badA_no0 h⟩
  · exact .inr (.inl ⟨by omega, h9, badT_A (badA_no0 h)⟩)
theorem badT_fine {n t : Nat} (h1 : n ≤ 60) (h2 : t ≤ 12) (h3 : n = 0 ∨ 1 ≤ t) : badT n t = false := by
  have := badT_of h1 h2 h3
  simpa using this
theorem picks {α : Type} (x y : α) {i : Int} (h0 : 0 ≤ i) (h2 : i < 2) : atI [x, y] i = some (if i = 0 then x else y) := by
  have : i = 0 ∨ i = 1 := by omega
  rcases this with rfl | rfl <;> rfl
theorem sh_bools (bs : List Bool) : SeqAt.shaped (.list (bs.map PyData.bool)) = true := by
  have h1 : ∀ bs : List Bool, PyData.canLayAll0 (bs.map PyData.bool) = true := fun bs => by
    induction bs with
    | nil => rfl
    | cons b bs ih => simp [PyData.canLayAll0, PyData.canLay0, ih]
  have h2 : ∀ bs : List Bool, PyData.depthAll (bs.map PyData.bool) = 0 := fun bs => by
    induction bs with
    | nil => rfl
    | cons b bs ih => simp [PyData.depthAll, PyData.depth, ih]
  exact sh_list (h1 bs) (by rw [h2 bs]; omega)
end Eg
namespace Eg
open PySem PySem.Spec PyProof.Rows L2
def top (i : Nat) : Stmt := PySem.Challenge.pw_eggfloors_k13_each_refusal_its_own.main.body.getD i (.Pass ⟨0, 0, 0, 0⟩)
abbrev s_wall : Stmt := top 0
abbrev s_ask : Stmt := top 11
abbrev s_rows : Stmt := top 12
abbrev s_reach : Stmt := top 13
abbrev s_needed : Stmt := top 14
abbrev s_fewest : Stmt := top 15
abbrev s_first_drops : Stmt := top 16
abbrev s_choices : Stmt := top 17
abbrev s_ask_tree : Stmt := top 20
abbrev s_grown : Stmt := top 21
abbrev s_plan : Stmt := top 23
abbrev s_worst : Stmt := top 24
abbrev s_looked : Stmt := top 25
abbrev s_walk : Stmt := top 26
abbrev s_walked : Stmt := top 27
abbrev s_S_init : Stmt := inClass (top 29) 0
abbrev s_S_dropped : Stmt := inClass (top 29) 1
abbrev s_S_span : Stmt := inClass (top 29) 2
abbrev s_S_left : Stmt := inClass (top 29) 3
abbrev s_S_drops : Stmt := inClass (top 29) 4
abbrev s_S_need : Stmt := inClass (top 29) 5
abbrev s_S_advice : Stmt := inClass (top 29) 6
abbrev s_tables : Stmt := top 31
abbrev s_least_sum : Stmt := top 32
abbrev s_grown2 : Stmt := top 33
abbrev s_sum_plan : Stmt := top 35
abbrev s_sum_of : Stmt := top 36
abbrev s_law_cell_at : Stmt := top 38
abbrev s_law_tree : Stmt := top 39
abbrev s_law_which : Stmt := top 40
abbrev s_law_asked : Stmt := top 41
abbrev s_law_told : Stmt := top 42
abbrev s_law : Stmt := top 43
abbrev sc_wall_N : List Str := ["k"]
theorem sc_wall : FnScope sc_wall_N ["k"] (defScope s_wall) := ⟨rfl, rfl, rfl, by decide +kernel, rfl, by decide +kernel, by decide +kernel⟩
abbrev sc_ask_N : List Str := ["floors", "things"]
theorem sc_ask : FnScope sc_ask_N ["floors", "things"] (defScope s_ask) := ⟨rfl, rfl, rfl, by decide +kernel, rfl, by decide +kernel, by decide +kernel⟩
abbrev sc_rows_N : List Str := ["things", "drops", "row", "drop", "k"]
theorem sc_rows : FnScope sc_rows_N ["things", "drops"] (defScope s_rows) := ⟨rfl, rfl, rfl, by decide +kernel, rfl, by decide +kernel, by decide +kernel⟩
abbrev sc_reach_N : List Str := ["things", "drops"]
theorem sc_reach : FnScope sc_reach_N ["things", "drops"] (defScope s_reach) := ⟨rfl, rfl, rfl, by decide +kernel, rfl, by decide +kernel, by decide +kernel⟩
abbrev sc_needed_N : List Str := ["floors", "things", "drops", "row", "k"]
theorem sc_needed : FnScope sc_needed_N ["floors", "things"] (defScope s_needed) := ⟨rfl, rfl, rfl, by decide +kernel, rfl, by decide +kernel, by decide +kernel⟩
abbrev sc_fewest_N : List Str := ["floors", "things"]
theorem sc_fewest : FnScope sc_fewest_N ["floors", "things"] (defScope s_fewest) := ⟨rfl, rfl, rfl, by decide +kernel, rfl, by decide +kernel, by decide +kernel⟩
abbrev sc_first_drops_N : List Str := ["floors", "things", "left", "row"]
theorem sc_first_drops : FnScope sc_first_drops_N ["floors", "things"] (defScope s_first_drops) := ⟨rfl, rfl, rfl, by decide +kernel, rfl, by decide +kernel, by decide +kernel⟩
abbrev sc_choices_N : List Str := ["floors", "things"]
theorem sc_choices : FnScope sc_choices_N ["floors", "things"] (defScope s_choices) := ⟨rfl, rfl, rfl, by decide +kernel, rfl, by decide +kernel, by decide +kernel⟩
abbrev sc_ask_tree_N : List Str := ["floors", "things"]
theorem sc_ask_tree : FnScope sc_ask_tree_N ["floors", "things"] (defScope s_ask_tree) := ⟨rfl, rfl, rfl, by decide +kernel, rfl, by decide +kernel, by decide +kernel⟩
abbrev sc_grown_N : List Str := ["low", "high", "things", "drop"]
theorem sc_grown : FnScope sc_grown_N ["low", "high", "things"] (defScope s_grown) := ⟨rfl, rfl, rfl, by decide +kernel, rfl, by decide +kernel, by decide +kernel⟩
abbrev sc_plan_N : List Str := ["floors", "things"]
theorem sc_plan : FnScope sc_plan_N ["floors", "things"] (defScope s_plan) := ⟨rfl, rfl, rfl, by decide +kernel, rfl, by decide +kernel, by decide +kernel⟩
abbrev sc_worst_N : List Str := ["tree", "low", "high", "things", "broken", "whole"]
theorem sc_worst : FnScope sc_worst_N ["tree", "low", "high", "things"] (defScope s_worst) := ⟨rfl, rfl, rfl, by decide +kernel, rfl, by decide +kernel, by decide +kernel⟩
abbrev sc_looked_N : List Str := ["tree", "floors", "things"]
theorem sc_looked : FnScope sc_looked_N ["tree", "floors", "things"] (defScope s_looked) := ⟨rfl, rfl, rfl, by decide +kernel, rfl, by decide +kernel, by decide +kernel⟩
abbrev sc_walk_N : List Str := ["tree", "floor", "found"]
theorem sc_walk : FnScope sc_walk_N ["tree", "floor"] (defScope s_walk) := ⟨rfl, rfl, rfl, by decide +kernel, rfl, by decide +kernel, by decide +kernel⟩
abbrev sc_walked_N : List Str := ["tree", "floors", "things", "floor"]
theorem sc_walked : FnScope sc_walked_N ["tree", "floors", "things", "floor"] (defScope s_walked) := ⟨rfl, rfl, rfl, by decide +kernel, rfl, by decide +kernel, by decide +kernel⟩
abbrev sc_S_init_N : List Str := ["self", "floors", "things"]
theorem sc_S_init : FnScope sc_S_init_N ["self", "floors", "things"] (defScope s_S_init) := ⟨rfl, rfl, rfl, by decide +kernel, rfl, by decide +kernel, by decide +kernel⟩
abbrev sc_S_dropped_N : List Str := ["self", "floor", "broken"]
theorem sc_S_dropped : FnScope sc_S_dropped_N ["self", "floor", "broken"] (defScope s_S_dropped) := ⟨rfl, rfl, rfl, by decide +kernel, rfl, by decide +kernel, by decide +kernel⟩
abbrev sc_S_span_N : List Str := ["self"]
theorem sc_S_span : FnScope sc_S_span_N ["self"] (defScope s_S_span) := ⟨rfl, rfl, rfl, by decide +kernel, rfl, by decide +kernel, by decide +kernel⟩
abbrev sc_S_left_N : List Str := ["self"]
theorem sc_S_left : FnScope sc_S_left_N ["self"] (defScope s_S_left) := ⟨rfl, rfl, rfl, by decide +kernel, rfl, by decide +kernel, by decide +kernel⟩
abbrev sc_S_drops_N : List Str := ["self"]
theorem sc_S_drops : FnScope sc_S_drops_N ["self"] (defScope s_S_drops) := ⟨rfl, rfl, rfl, by decide +kernel, rfl, by decide +kernel, by decide +kernel⟩
abbrev sc_S_need_N : List Str := ["self"]
theorem sc_S_need : FnScope sc_S_need_N ["self"] (defScope s_S_need) := ⟨rfl, rfl, rfl, by decide +kernel, rfl, by decide +kernel, by decide +kernel⟩
abbrev sc_S_advice_N : List Str := ["self"]
theorem sc_S_advice : FnScope sc_S_advice_N ["self"] (defScope s_S_advice) := ⟨rfl, rfl, rfl, by decide +kernel, rfl, by decide +kernel, by decide +kernel⟩
abbrev sc_tables_N : List Str := ["floors", "things", "sums", "firsts", "thing", "row", "drops", "size", "best", "drop", "broken", "total"]
theorem sc_tables : FnScope sc_tables_N ["floors", "things"] (defScope s_tables) := ⟨rfl, rfl, rfl, by decide +kernel, rfl, by decide +kernel, by decide +kernel⟩
abbrev sc_least_sum_N : List Str := ["floors", "things"]
theorem sc_least_sum : FnScope sc_least_sum_N ["floors", "things"] (defScope s_least_sum) := ⟨rfl, rfl, rfl, by decide +kernel, rfl, by decide +kernel, by decide +kernel⟩
abbrev sc_grown2_N : List Str := ["low", "high", "things", "firsts", "drop"]
theorem sc_grown2 : FnScope sc_grown2_N ["low", "high", "things", "firsts"] (defScope s_grown2) := ⟨rfl, rfl, rfl, by decide +kernel, rfl, by decide +kernel, by decide +kernel⟩
abbrev sc_sum_plan_N : List Str := ["floors", "things"]
theorem sc_sum_plan : FnScope sc_sum_plan_N ["floors", "things"] (defScope s_sum_plan) := ⟨rfl, rfl, rfl, by decide +kernel, rfl, by decide +kernel, by decide +kernel⟩
abbrev sc_sum_of_N : List Str := ["tree", "floors", "things", "floor"]
theorem sc_sum_of : FnScope sc_sum_of_N ["tree", "floors", "things"] (defScope s_sum_of) := ⟨rfl, rfl, rfl, by decide +kernel, rfl, by decide +kernel, by decide +kernel⟩
abbrev sc_law_cell_at_N : List Str := ["script", "k"]
theorem sc_law_cell_at : FnScope sc_law_cell_at_N ["script", "k"] (defScope s_law_cell_at) := ⟨rfl, rfl, rfl, by decide +kernel, rfl, by decide +kernel, by decide +kernel⟩
abbrev sc_law_tree_N : List Str := ["script", "at", "low", "high", "things", "cell", "drop", "broken"]
theorem sc_law_tree : FnScope sc_law_tree_N ["script", "at", "low", "high", "things"] (defScope s_law_tree) := ⟨rfl, rfl, rfl, by decide +kernel, rfl, by decide +kernel, by decide +kernel⟩
abbrev sc_law_which_N : List Str := ["e", "some"]
theorem sc_law_which : FnScope sc_law_which_N ["e"] (defScope s_law_which) := ⟨rfl, rfl, rfl, by decide +kernel, rfl, by decide +kernel, by decide +kernel⟩
abbrev sc_law_asked_N : List Str := ["way", "floors", "things", "tree", "floor"]
theorem sc_law_asked : FnScope sc_law_asked_N ["way", "floors", "things", "tree", "floor"] (defScope s_law_asked) := ⟨rfl, rfl, rfl, by decide +kernel, rfl, by decide +kernel, by decide +kernel⟩
abbrev sc_law_told_N : List Str := ["way", "floors", "things", "tree", "floor", "told", "e"]
theorem sc_law_told : FnScope sc_law_told_N ["way", "floors", "things", "tree", "floor"] (defScope s_law_told) := ⟨rfl, rfl, rfl, by decide +kernel, rfl, by decide +kernel, by decide +kernel⟩
abbrev sc_law_N : List Str := ["script", "floors", "things", "tree", "way", "kind", "far", "most", "floor", "other", "gone"]
theorem sc_law : FnScope sc_law_N ["script"] (defScope s_law) := ⟨rfl, rfl, rfl, by decide +kernel, rfl, by decide +kernel, by decide +kernel⟩
structure Tx (K : PySem.W.Frag) (mg : Str → Option Value) (C_FloorError C_NoCase C_NoPlan C_NoFloor C_BadLine C_Search : Addr) : Prop where
  z_ValueError : mg "ValueError" = none
  z_isinstance : mg "isinstance" = none
  z_len : mg "len" = none
  z_list : mg "list" = none
  z_max : mg "max" = none
  z_min : mg "min" = none
  z_range : mg "range" = none
  z_sum : mg "sum" = none
  m_MOST_DROPS : ∃ u, mg "MOST_DROPS" = some u ∧ RelV (.int 200) u
  m_MOST_FLOORS : ∃ u, mg "MOST_FLOORS" = some u ∧ RelV (.int 1000) u
  m_MOST_THINGS : ∃ u, mg "MOST_THINGS" = some u ∧ RelV (.int 12) u
  m_MOST_TREE : ∃ u, mg "MOST_TREE" = some u ∧ RelV (.int 60) u
  e_FloorError : ExC K mg "FloorError" C_FloorError
  e_NoCase : ExC K mg "NoCase" C_NoCase
  e_NoPlan : ExC K mg "NoPlan" C_NoPlan
  e_NoFloor : ExC K mg "NoFloor" C_NoFloor
  e_BadLine : ExC K mg "BadLine" C_BadLine
  g_Search : mg "Search" = some (.ref C_Search)
  cl_Search : Cls K C_Search
  na_low : NoAttr K C_Search "low"
  na_high : NoAttr K C_Search "high"
  na_things : NoAttr K C_Search "things"
  na_done : NoAttr K C_Search "done"
  xe_NoCase : L2.ExcC K C_NoCase
  xf_NoCase : PySem.W.exmOne K (.ref C_NoCase) (.ref C_FloorError) = some true
  kt_NoCase_NoCase : PySem.W.kitOne K (.ref C_NoCase) (.ref C_NoCase) = some true
  kt_NoCase_NoPlan : PySem.W.kitOne K (.ref C_NoCase) (.ref C_NoPlan) = some false
  kt_NoCase_NoFloor : PySem.W.kitOne K (.ref C_NoCase) (.ref C_NoFloor) = some false
  kt_NoCase_BadLine : PySem.W.kitOne K (.ref C_NoCase) (.ref C_BadLine) = some false
  kv_NoCase : PySem.W.kitOne K (.ref C_NoCase) (.type "ValueError") = some true
  xe_NoPlan : L2.ExcC K C_NoPlan
  xf_NoPlan : PySem.W.exmOne K (.ref C_NoPlan) (.ref C_FloorError) = some true
  kt_NoPlan_NoCase : PySem.W.kitOne K (.ref C_NoPlan) (.ref C_NoCase) = some false
  kt_NoPlan_NoPlan : PySem.W.kitOne K (.ref C_NoPlan) (.ref C_NoPlan) = some true
  kt_NoPlan_NoFloor : PySem.W.kitOne K (.ref C_NoPlan) (.ref C_NoFloor) = some false
  kt_NoPlan_BadLine : PySem.W.kitOne K (.ref C_NoPlan) (.ref C_BadLine) = some false
  kv_NoPlan : PySem.W.kitOne K (.ref C_NoPlan) (.type "ValueError") = some true
  xe_NoFloor : L2.ExcC K C_NoFloor
  xf_NoFloor : PySem.W.exmOne K (.ref C_NoFloor) (.ref C_FloorError) = some true
  kt_NoFloor_NoCase : PySem.W.kitOne K (.ref C_NoFloor) (.ref C_NoCase) = some false
  kt_NoFloor_NoPlan : PySem.W.kitOne K (.ref C_NoFloor) (.ref C_NoPlan) = some false
  kt_NoFloor_NoFloor : PySem.W.kitOne K (.ref C_NoFloor) (.ref C_NoFloor) = some true
  kt_NoFloor_BadLine : PySem.W.kitOne K (.ref C_NoFloor) (.ref C_BadLine) = some false
  kv_NoFloor : PySem.W.kitOne K (.ref C_NoFloor) (.type "ValueError") = some true
  xe_BadLine : L2.ExcC K C_BadLine
  xf_BadLine : PySem.W.exmOne K (.ref C_BadLine) (.ref C_FloorError) = some true
  kt_BadLine_NoCase : PySem.W.kitOne K (.ref C_BadLine) (.ref C_NoCase) = some false
  kt_BadLine_NoPlan : PySem.W.kitOne K (.ref C_BadLine) (.ref C_NoPlan) = some false
  kt_BadLine_NoFloor : PySem.W.kitOne K (.ref C_BadLine) (.ref C_NoFloor) = some false
  kt_BadLine_BadLine : PySem.W.kitOne K (.ref C_BadLine) (.ref C_BadLine) = some true
  kv_BadLine : PySem.W.kitOne K (.ref C_BadLine) (.type "ValueError") = some true
section
variable {P : Program} {w : World} {K : PySem.W.Frag} {mg : Str → Option Value} {base : Heap} {C_FloorError C_NoCase C_NoPlan C_NoFloor C_BadLine C_Search : Addr} (T : Tx K mg C_FloorError C_NoCase C_NoPlan C_NoFloor C_BadLine C_Search)
include T
def wd_ (i : Nat) : List PyData := [.bool (decide (i = 0)), .bool (decide (i = 1)), .bool (decide (i = 2)), .bool (decide (i = 3)), .bool true]
theorem wh_NoCase : Wh K C_NoCase C_NoPlan C_NoFloor C_BadLine C_NoCase (wd_ 0) := ⟨T.xe_NoCase, _, _, _, _, _, T.kt_NoCase_NoCase, T.kt_NoCase_NoPlan, T.kt_NoCase_NoFloor, T.kt_NoCase_BadLine, T.kv_NoCase, rfl⟩
theorem wh_NoPlan : Wh K C_NoCase C_NoPlan C_NoFloor C_BadLine C_NoPlan (wd_ 1) := ⟨T.xe_NoPlan, _, _, _, _, _, T.kt_NoPlan_NoCase, T.kt_NoPlan_NoPlan, T.kt_NoPlan_NoFloor, T.kt_NoPlan_BadLine, T.kv_NoPlan, rfl⟩
theorem wh_NoFloor : Wh K C_NoCase C_NoPlan C_NoFloor C_BadLine C_NoFloor (wd_ 2) := ⟨T.xe_NoFloor, _, _, _, _, _, T.kt_NoFloor_NoCase, T.kt_NoFloor_NoPlan, T.kt_NoFloor_NoFloor, T.kt_NoFloor_BadLine, T.kv_NoFloor, rfl⟩
theorem wh_BadLine : Wh K C_NoCase C_NoPlan C_NoFloor C_BadLine C_BadLine (wd_ 3) := ⟨T.xe_BadLine, _, _, _, _, _, T.kt_BadLine_NoCase, T.kt_BadLine_NoPlan, T.kt_BadLine_NoFloor, T.kt_BadLine_BadLine, T.kv_BadLine, rfl⟩
theorem ok_ask {f : Addr} {fd : FuncData} (F : Fun K "ask" "ask" s_ask f fd) (hm : mg "ask" = some (.ref f)) (b : Binds K fd ["floors", "things"] []) : Fn P w K mg base 1 "ask" (R_ask C_NoCase) := by
  refine ok_fn F sc_ask hm b (fun ds r ⟨n, t, e, _⟩ => by subst e; rfl) (fun cdv A outer s H E hr => ⟨_, (pss_cons (ps_if (PW.pt (pw_or (pt_cmpR op_lt (pv 0) pe_int (nomark _)) (pw_or (pt_cmpR op_gt (pv 0) (pe_gl (.int 1000) T.m_MOST_FLOORS) (nomark _)) (pw_or (pt_cmpR op_lt (pv 1) pe_int (nomark _)) (pw_or1 (pt_cmpR op_gt (pv 1) (pe_gl (.int 12) T.m_MOST_THINGS) (nomark _))))))) (pss_one (ps_rs T.e_NoCase rfl (takes_of rfl rfl rfl rfl))) pss_nil)
      (pss_one (ps_if (PW.pt (pw_and (pt_cmpR op_gt (pv 0) pe_int (nomark _)) (pw_and1 (pt_cmpR op_eq (pv 1) pe_int (nomark _))))) (pss_one (ps_rs T.e_NoCase rfl (takes_of rfl rfl rfl rfl))) pss_nil))), ?_⟩)
  rintro ds r ⟨n, t, rfl, rfl⟩
  show GS K E _ [some (.dat (.int n)), some (.dat (.int t))] _ _
  refine GS.seq (GS.ifs (b := badA1 n t) (GT.or (GT.test (GE.op (GE.var rfl) GE.int rd_bl)) fun _ => GT.or (GT.test (GE.op (GE.var rfl) (GE.c fun _ => .int 1000) rd_bl)) fun _ => GT.or (GT.test (GE.op (GE.var rfl) GE.int rd_bl)) fun _ => GT.test (GE.op (GE.var rfl) (GE.c fun _ => .int 12) rd_bl)) (fun hb => ?_) fun hb => GS.next ?_)
  · rw [if_pos (by unfold badA; rw [hb]; rfl)]
    exact GS.raise
  · refine GS.ifs (b := badA2 n t) (GT.and (GT.test (GE.op (GE.var rfl) GE.int rd_bl)) fun _ => GT.test (GE.op (GE.var rfl) GE.int rd_eqI)) (fun hc => ?_) fun hc => GS.next ?_
    · rw [if_pos (by unfold badA; rw [hb, hc]; rfl)]
      exact GS.raise
    · rw [if_neg (by unfold badA; rw [hb, hc]; decide)]
theorem ok_rows {f : Addr} {fd : FuncData} (F : Fun K "rows" "rows" s_rows f fd) (hm : mg "rows" = some (.ref f)) (b : Binds K fd ["things", "drops"] []) : Fn P w K mg base 1 "rows" R_rows := by
  refine ok_fn F sc_rows hm b (fun ds r ⟨n, t, e, _⟩ => by subst e; rfl) (fun cdv A outer s H E hr => ⟨_, (pss_cons (ps_set (i := 2) sc_rows.nd rfl (Or.inr rfl) (pe_op op_rep (pe_lst (pa_cons pe_int pa_nil)) (pe_op op_add (pv 0) pe_int)))
      (pss_cons (ps_for (passes_of rfl) rfl (pi_range1 (by rfl) T.z_range (pa_cons (pv 1) pa_nil)) (pg_name (i := 3) sc_rows.nd rfl (Or.inl rfl)) (pss_one (ps_set (i := 2) sc_rows.nd rfl (Or.inr rfl) (pe_op op_cat (pe_lst (pa_cons pe_int pa_nil)) (pe_lc (own := [("k", 4)]) (g := gName 4) rfl sc_rows.nd (pi_range2 (by rfl) T.z_range (pa_cons pe_int (pa_cons (pe_op op_add (pv 0) pe_int) pa_nil))) (blkOk_by (own := [("k", 4)]) (N := sc_rows_N) (sc := defScope s_rows) (by decide +kernel)) (fun _ _ _ _ _ => pg_name (i := 4) sc_rows.nd rfl (Or.inl rfl)) (fun _ _ _ _ _ => pts_nil) (fun _ _ _ _ _ => (pe_op op_add (pe_op op_add (pe_ix (ixL K) (pv 2) (pv 4) (fun _ _ => rfl)) (pe_ix (ixL K) (pv 2) (pe_op op_sub (pv 4) pe_int) (fun _ _ => rfl))) pe_int)))))))
      (pss_one (ps_ret (pv 2))))), ?_⟩)
  rintro ds r ⟨n, t, rfl, hn, ht, rfl⟩
  show GS K E _ [some (.dat (.int n)), some (.dat (.int t)), none, none, none] _ _
  refine GS.seq (GS.asgN (ds := rowD n 0) (GE.to (GE.rep (k := (n : Int) + 1) (GE.lst (GA.cons GE.int GA.nil) (by decide)) (.new _) (GE.op (GE.var rfl) GE.int rd_int) (by omega) (by show 1 * ((n : Int) + 1).toNat ≤ 100000; omega)) (by rw [row_start])) ?_)
  refine GS.seq (GS.forR1 (hi := (t : Int)) (GA.cons (GE.var rfl) GA.nil) (by omega) (fun i ρ' => ∃ x y, ρ' = [some (.dat (.int n)), some (.dat (.int t)), some (.own (rowD n i)), x, y]) ⟨none, none, rfl⟩ ?_ ?_)
  · rintro i ρ' hi ⟨x, y, rfl⟩
    refine GS.asgN (ds := rowD n (i + 1)) (GE.to (GE.cat (GE.lst (GA.cons GE.int GA.nil) (by decide)) (.new _)
      (GE.lcR2 (E' := E0) (fun _ => true) (fun j => .int (rch (j + 1) (i + 1))) (lo := 1) (hi := (n : Int) + 1) (GA.cons GE.int (GA.cons (GE.op (GE.var rfl) GE.int rd_int) GA.nil)) (by omega) (by omega) (fun j hj => GT.yes) (fun j hj _ => ?_)) (.new _)
      (by have := given_len ((n : Int) + 1 - 1).toNat (fun _ => true) (fun j => PyData.int (rch (j + 1) (i + 1))); show 1 + _ ≤ _; omega)) (by rw [row_next])) ⟨_, _, rfl⟩
    refine GE.to (GE.op (GE.op (GE.ixL (GE.own rfl) (.ali _) (GE.var rfl) (row_at (j := j + 1) (by omega) (by omega))) (GE.ixL (GE.own rfl) (.ali _) (GE.op (GE.var rfl) GE.int rd_int) (row_at (j := j) (by omega) (by omega))) rd_int) GE.int rd_int) ?_
    rw [rch_next]
    exact congrArg (fun z => Rs.ok (.int z)) (by omega)
  · rintro ρ' ⟨x, y, rfl⟩
    exact GS.retOwn rfl
theorem ok_reach (C_rows : Fn P w K mg base 1 "rows" R_rows) {f : Addr} {fd : FuncData} (F : Fun K "reach" "reach" s_reach f fd) (hm : mg "reach" = some (.ref f)) (b : Binds K fd ["things", "drops"] []) : Fn P w K mg base 2 "reach" (R_reach C_NoCase) := by
  refine ok_fn F sc_reach hm b (fun ds r ⟨n, t, e, _⟩ => by subst e; rfl) (fun cdv A outer s H E hr => ⟨_, (pss_cons (ps_if (PW.pt (pw_or (pt_cmpR op_lt (pv 0) pe_int (nomark _)) (pw_or (pt_cmpR op_gt (pv 0) (pe_gl (.int 12) T.m_MOST_THINGS) (nomark _)) (pw_or (pt_cmpR op_lt (pv 1) pe_int (nomark _)) (pw_or1 (pt_cmpR op_gt (pv 1) (pe_gl (.int 200) T.m_MOST_DROPS) (nomark _))))))) (pss_one (ps_rs T.e_NoCase rfl (takes_of rfl rfl rfl rfl))) pss_nil)
      (pss_one (ps_ret (pe_ix (ixL K) (pe_f (E := E) C_rows hr (by omega) (fun σ => passAt (takes_of rfl rfl rfl rfl) σ) (pa_cons (pv 0) (pa_cons (pv 1) pa_nil))) (pv 0) (fun _ _ => rfl))))), ?_⟩)
  rintro ds r ⟨n, t, rfl, rfl⟩
  show GS K E _ [some (.dat (.int n)), some (.dat (.int t))] _ _
  refine GS.seq (GS.ifs (b := badR n t) (GT.or (GT.test (GE.op (GE.var rfl) GE.int rd_bl)) fun _ => GT.or (GT.test (GE.op (GE.var rfl) GE.int rd_bl)) fun _ => GT.or (GT.test (GE.op (GE.var rfl) GE.int rd_bl)) fun _ => GT.test (GE.op (GE.var rfl) GE.int rd_bl)) (fun hb => ?_) fun hb => ?_)
  · rw [if_pos hb]
    exact GS.raise
  · obtain ⟨n', t', rfl, rfl, hn, ht⟩ := badR_no hb
    rw [if_neg (by rw [hb]; decide)]
    exact GS.next (GS.retD (GE.ixL (GE.call (GA.cons (GE.var rfl) (GA.cons (GE.var rfl) GA.nil)) ⟨n', t', rfl, hn, by omega, rfl⟩) (.new _) (GE.var rfl) (row_at rfl (Nat.le_refl n'))))
theorem ok_needed {f : Addr} {fd : FuncData} (F : Fun K "needed" "needed" s_needed f fd) (hm : mg "needed" = some (.ref f)) (b : Binds K fd ["floors", "things"] []) : Fn P w K mg base 1 "needed" R_needed := by
  refine ok_fn F sc_needed hm b (fun ds r ⟨n, t, e, _⟩ => by subst e; rfl) (fun cdv A outer s H E hr => ⟨_, (pss_cons (ps_set (i := 2) sc_needed.nd rfl (Or.inl rfl) pe_int)
      (pss_cons (ps_set (i := 3) sc_needed.nd rfl (Or.inr rfl) (pe_op op_rep (pe_lst (pa_cons pe_int pa_nil)) (pe_op op_add (pv 1) pe_int)))
      (pss_cons (ps_while (passes_of rfl) (pt_cmpR op_lt (pe_ix (ixL K) (pv 3) (pv 1) (fun _ _ => rfl)) (pv 0) (nomark _)) (pss_cons (ps_set (i := 3) sc_needed.nd rfl (Or.inr rfl) (pe_op op_cat (pe_lst (pa_cons pe_int pa_nil)) (pe_lc (own := [("k", 4)]) (g := gName 4) rfl sc_needed.nd (pi_range2 (by rfl) T.z_range (pa_cons pe_int (pa_cons (pe_op op_add (pv 1) pe_int) pa_nil))) (blkOk_by (own := [("k", 4)]) (N := sc_needed_N) (sc := defScope s_needed) (by decide +kernel)) (fun _ _ _ _ _ => pg_name (i := 4) sc_needed.nd rfl (Or.inl rfl)) (fun _ _ _ _ _ => pts_nil) (fun _ _ _ _ _ => (pe_op op_add (pe_op op_add (pe_ix (ixL K) (pv 3) (pv 4) (fun _ _ => rfl)) (pe_ix (ixL K) (pv 3) (pe_op op_sub (pv 4) pe_int) (fun _ _ => rfl))) pe_int)))))
      (pss_one (ps_set (i := 2) sc_needed.nd rfl (Or.inl rfl) (pe_op op_add (pv 2) pe_int)))))
      (pss_one (ps_ret (pv 2)))))), ?_⟩)
  rintro ds r ⟨f', n, rfl, hf, hn, h0, rfl⟩
  show GS K E _ [some (.dat (.int f')), some (.dat (.int n)), none, none, none] _ _
  have sp := need_spec h0
  refine GS.seq (GS.asg (d := .int (0 : Nat)) GE.int ?_)
  refine GS.seq (GS.asgN (ds := rowD n 0) (GE.to (GE.rep (k := (n : Int) + 1) (GE.lst (GA.cons GE.int GA.nil) (by decide)) (.new _) (GE.op (GE.var rfl) GE.int rd_int) (by omega) (by show 1 * ((n : Int) + 1).toNat ≤ 100000; omega)) (by rw [row_start])) ?_)
  refine GS.seq (GS.while (fun m ρ' => ∃ (t : Nat) (y : Option Cl), m + t = need n f' ∧ ρ' = [some (.dat (.int f')), some (.dat (.int n)), some (.dat (.int t)), some (.own (rowD n t)), y]) (need n f') ⟨0, none, rfl, rfl⟩ ?_)
  rintro m ρ' ⟨t, y, hmt, rfl⟩
  refine ⟨decide ((rch n t : Int) < f'), GT.test (GE.op (GE.ixL (GE.own rfl) (.ali _) (GE.var rfl) (row_at rfl (Nat.le_refl n))) (GE.var rfl) rd_bl), fun hb => ?_, fun hb => ?_⟩
  · have hlt : rch n t < f' := by have := of_decide_eq_true hb; omega
    have ht : t < need n f' := sp.lt hlt
    refine GS.seq (GS.asgN (ds := rowD n (t + 1)) (GE.to (GE.cat (GE.lst (GA.cons GE.int GA.nil) (by decide)) (.new _)
      (GE.lcR2 (E' := E0) (fun _ => true) (fun j => .int (rch (j + 1) (t + 1))) (lo := 1) (hi := (n : Int) + 1) (GA.cons GE.int (GA.cons (GE.op (GE.var rfl) GE.int rd_int) GA.nil)) (by omega) (by omega) (fun j hj => GT.yes) (fun j hj _ => ?_)) (.new _)
      (by have := given_len ((n : Int) + 1 - 1).toNat (fun _ => true) (fun j => PyData.int (rch (j + 1) (t + 1))); show 1 + _ ≤ _; omega)) (by rw [row_next])) ?_)
    · refine GE.to (GE.op (GE.op (GE.ixL (GE.own rfl) (.ali _) (GE.var rfl) (row_at (j := j + 1) (by omega) (by omega))) (GE.ixL (GE.own rfl) (.ali _) (GE.op (GE.var rfl) GE.int rd_int) (row_at (j := j) (by omega) (by omega))) rd_int) GE.int rd_int) ?_
      rw [rch_next]
      exact congrArg (fun z => Rs.ok (.int z)) (by omega)
    · exact GS.asg (d := .int ((t + 1 : Nat) : Int)) (GE.op (GE.var rfl) GE.int rd_int) ⟨m - 1, by omega, t + 1, y, by omega, rfl⟩
  · have hge : f' ≤ rch n t := by have := of_decide_eq_false hb; omega
    have ht : need n f' = t := Nat.le_antisymm (sp.le hge) (by omega)
    rw [ht]
    exact GS.retD (GE.var rfl)
theorem ok_fewest (C_ask : Fn P w K mg base 1 "ask" (R_ask C_NoCase)) (C_needed : Fn P w K mg base 1 "needed" R_needed) {f : Addr} {fd : FuncData} (F : Fun K "fewest" "fewest" s_fewest f fd) (hm : mg "fewest" = some (.ref f)) (b : Binds K fd ["floors", "things"] []) : Fn P w K mg base 2 "fewest" (R_fewest C_NoCase) := by
  refine ok_fn F sc_fewest hm b (fun ds r ⟨n, t, e, _⟩ => by subst e; rfl) (fun cdv A outer s H E hr => ⟨_, (pss_cons (ps_expr (pe_f (E := E) C_ask hr (by omega) (fun σ => passAt (takes_of rfl rfl rfl rfl) σ) (pa_cons (pv 0) (pa_cons (pv 1) pa_nil))))
      (pss_one (ps_ret (pe_f (E := E) C_needed hr (by omega) (fun σ => passAt (takes_of rfl rfl rfl rfl) σ) (pa_cons (pv 0) (pa_cons (pv 1) pa_nil)))))), ?_⟩)
  rintro ds r ⟨n, t, rfl, rfl⟩
  show GS K E _ [some (.dat (.int n)), some (.dat (.int t))] _ _
  by_cases hb : badA n t = true
  · rw [if_pos hb]
    exact GS.seq (GS.dropX (GE.call (GA.cons (GE.var rfl) (GA.cons (GE.var rfl) GA.nil)) ⟨n, t, rfl, by rw [if_pos hb]⟩))
  · rw [if_neg hb]
    obtain ⟨n', t', rfl, rfl, h1, h2, h3⟩ := badA_no hb
    refine GS.seq (GS.drop (d := .none) (GE.call (GA.cons (GE.var rfl) (GA.cons (GE.var rfl) GA.nil)) ⟨_, _, rfl, by rw [if_neg hb]⟩) ?_)
    exact GS.retD (GE.call (GA.cons (GE.var rfl) (GA.cons (GE.var rfl) GA.nil)) ⟨n', t', rfl, h1, h2, h3, rfl⟩)
theorem ok_first_drops (C_needed : Fn P w K mg base 1 "needed" R_needed) (C_rows : Fn P w K mg base 1 "rows" R_rows) {f : Addr} {fd : FuncData} (F : Fun K "first_drops" "first_drops" s_first_drops f fd) (hm : mg "first_drops" = some (.ref f)) (b : Binds K fd ["floors", "things"] []) : Fn P w K mg base 2 "first_drops" R_first := by
  refine ok_fn F sc_first_drops hm b (fun ds r ⟨n, t, e, _⟩ => by subst e; rfl) (fun cdv A outer s H E hr => ⟨_, (pss_cons (ps_set (i := 2) sc_first_drops.nd rfl (Or.inl rfl) (pe_op op_sub (pe_f (E := E) C_needed hr (by omega) (fun σ => passAt (takes_of rfl rfl rfl rfl) σ) (pa_cons (pv 0) (pa_cons (pv 1) pa_nil))) pe_int))
      (pss_cons (ps_set (i := 3) sc_first_drops.nd rfl (Or.inl rfl) (pe_f (E := E) C_rows hr (by omega) (fun σ => passAt (takes_of rfl rfl rfl rfl) σ) (pa_cons (pv 1) (pa_cons (pv 2) pa_nil))))
      (pss_one (ps_ret (pe_tup (pa_cons (pe_callB (call_max' rfl) (by rfl) T.z_max (by decide +kernel) (pa_cons pe_int (pa_cons (pe_op op_sub (pv 0) (pe_ix (ixL K) (pv 3) (pv 1) (fun _ _ => rfl))) pa_nil))) (pa_cons (pe_callB (call_min' rfl) (by rfl) T.z_min (by decide +kernel) (pa_cons (pv 0) (pa_cons (pe_op op_add (pe_ix (ixL K) (pv 3) (pe_op op_sub (pv 1) pe_int) (fun _ _ => rfl)) pe_int) pa_nil))) pa_nil))))))), ?_⟩)
  rintro ds r ⟨f', n, rfl, hf1, hf, hn1, hn, rfl⟩
  show GS K E _ [some (.dat (.int f')), some (.dat (.int n)), none, none] _ _
  have sp := need_spec (k := n) (f := f') (.inr hn1)
  have hp : 1 ≤ need n f' := sp.pos hf1
  have hle := need_le (k := n) (f := f') hn1
  refine GS.seq (GS.asg (d := .int ((need n f' - 1 : Nat) : Int)) (GE.to (GE.op (GE.call (GA.cons (GE.var rfl) (GA.cons (GE.var rfl) GA.nil)) ⟨f', n, rfl, hf, hn, .inr hn1, rfl⟩) GE.int rd_int) (congrArg (fun z => Rs.ok (.int z)) (by omega))) ?_)
  refine GS.seq (GS.asgN (ds := rowD n (need n f' - 1)) (GE.call (GA.cons (GE.var rfl) (GA.cons (GE.var rfl) GA.nil)) ⟨n, need n f' - 1, rfl, hn, by omega, rfl⟩) ?_)
  exact GS.retD (GE.tup (GA.cons (GE.max (GA.cons GE.int (GA.cons (GE.op (GE.var rfl) (GE.ixL (GE.own rfl) (.ali _) (GE.var rfl) (row_at rfl (Nat.le_refl n))) rd_int) GA.nil)))
    (GA.cons (GE.min (GA.cons (GE.var rfl) (GA.cons (GE.op (GE.ixL (GE.own rfl) (.ali _) (GE.op (GE.var rfl) GE.int rd_int) (row_at (j := n - 1) (by omega) (by omega))) GE.int rd_int) GA.nil))) GA.nil)) (by simp))
theorem ok_choices (C_ask : Fn P w K mg base 1 "ask" (R_ask C_NoCase)) (C_first_drops : Fn P w K mg base 2 "first_drops" R_first) {f : Addr} {fd : FuncData} (F : Fun K "choices" "choices" s_choices f fd) (hm : mg "choices" = some (.ref f)) (b : Binds K fd ["floors", "things"] []) : Fn P w K mg base 3 "choices" (R_choices C_NoCase) := by
  refine ok_fn F sc_choices hm b (fun ds r ⟨n, t, e, _⟩ => by subst e; rfl) (fun cdv A outer s H E hr => ⟨_, (pss_cons (ps_expr (pe_f (E := E) C_ask hr (by omega) (fun σ => passAt (takes_of rfl rfl rfl rfl) σ) (pa_cons (pv 0) (pa_cons (pv 1) pa_nil))))
      (pss_cons (ps_if (pt_cmpR op_eq (pv 0) pe_int (nomark _)) (pss_one (ps_ret pe_non)) pss_nil)
      (pss_one (ps_ret (pe_f (E := E) C_first_drops hr (by omega) (fun σ => passAt (takes_of rfl rfl rfl rfl) σ) (pa_cons (pv 0) (pa_cons (pv 1) pa_nil))))))), ?_⟩)
  rintro ds r ⟨n, t, rfl, rfl⟩
  show GS K E _ [some (.dat (.int n)), some (.dat (.int t))] _ _
  by_cases hb : badA n t = true
  · rw [if_pos hb]
    exact GS.seq (GS.dropX (GE.call (GA.cons (GE.var rfl) (GA.cons (GE.var rfl) GA.nil)) ⟨n, t, rfl, by rw [if_pos hb]⟩))
  · rw [if_neg hb]
    obtain ⟨n', t', rfl, rfl, h1, h2, h3⟩ := badA_no hb
    refine GS.seq (GS.drop (d := .none) (GE.call (GA.cons (GE.var rfl) (GA.cons (GE.var rfl) GA.nil)) ⟨_, _, rfl, by rw [if_neg hb]⟩) ?_)
    refine GS.seq (GS.ifs (b := decide ((n' : Int) = 0)) (GT.test (GE.op (GE.var rfl) GE.int rd_eqI)) (fun hc => ?_) fun hc => GS.next ?_)
    · rw [if_pos (of_decide_eq_true hc)]
      exact GS.retD GE.non
    · have hn := of_decide_eq_false hc
      rw [if_neg hn]
      exact GS.retD (GE.call (GA.cons (GE.var rfl) (GA.cons (GE.var rfl) GA.nil)) ⟨n', t', rfl, by omega, h1, by omega, h2, rfl⟩)
theorem ok_ask_tree (C_ask : Fn P w K mg base 1 "ask" (R_ask C_NoCase)) {f : Addr} {fd : FuncData} (F : Fun K "ask_tree" "ask_tree" s_ask_tree f fd) (hm : mg "ask_tree" = some (.ref f)) (b : Binds K fd ["floors", "things"] []) : Fn P w K mg base 2 "ask_tree" (R_asktree C_NoCase) := by
  refine ok_fn F sc_ask_tree hm b (fun ds r ⟨n, t, e, _⟩ => by subst e; rfl) (fun cdv A outer s H E hr => ⟨_, (pss_cons (ps_if (pt_cmpR op_gt (pv 0) (pe_gl (.int 60) T.m_MOST_TREE) (nomark _)) (pss_one (ps_rs T.e_NoCase rfl (takes_of rfl rfl rfl rfl))) pss_nil)
      (pss_one (ps_expr (pe_f (E := E) C_ask hr (by omega) (fun σ => passAt (takes_of rfl rfl rfl rfl) σ) (pa_cons (pv 0) (pa_cons (pv 1) pa_nil)))))), ?_⟩)
  rintro ds r ⟨n, t, rfl, rfl⟩
  show GS K E _ [some (.dat (.int n)), some (.dat (.int t))] _ _
  refine GS.seq (GS.ifs (b := decide (60 < n)) (GT.test (GE.op (GE.var rfl) (GE.c fun _ => .int 60) rd_bl)) (fun hb => ?_) fun hb => GS.next ?_)
  · rw [if_pos (by unfold badT; rw [hb]; rfl)]
    exact GS.raise
  · by_cases hc : badA n t = true
    · rw [if_pos (by unfold badT; rw [hc, Bool.or_true])]
      exact GS.dropX (GE.call (GA.cons (GE.var rfl) (GA.cons (GE.var rfl) GA.nil)) ⟨n, t, rfl, by rw [if_pos hc]⟩)
    · rw [if_neg (by unfold badT; rw [hb]; simpa using hc)]
      exact GS.drop (d := .none) (GE.call (GA.cons (GE.var rfl) (GA.cons (GE.var rfl) GA.nil)) ⟨n, t, rfl, by rw [if_neg hc]⟩) rfl
theorem ok_grown {f : Addr} {fd : FuncData} (F : Fun K "grown" "grown" s_grown f fd) (hm : mg "grown_plans" = some (.ref f)) (b : Binds K fd ["low", "high", "things"] []) : Fn P w K mg base 0 "grown_plans" (fun _ _ => False) := fn_noneA F hm b fun _ _ h => h
theorem ok_plan (C_ask_tree : Fn P w K mg base 2 "ask_tree" (R_asktree C_NoCase)) (C_grown : Fn P w K mg base 0 "grown_plans" (fun _ _ => False)) {f : Addr} {fd : FuncData} (F : Fun K "plan" "plan" s_plan f fd) (hm : mg "plan" = some (.ref f)) (b : Binds K fd ["floors", "things"] []) : Fn P w K mg base 3 "plan" (R_planX C_NoCase) := by
  refine ok_fn F sc_plan hm b (fun ds r ⟨n, t, e, _⟩ => by subst e; rfl) (fun cdv A outer s H E hr => ⟨_, (pss_cons (ps_expr (pe_f (E := E) C_ask_tree hr (by omega) (fun σ => passAt (takes_of rfl rfl rfl rfl) σ) (pa_cons (pv 0) (pa_cons (pv 1) pa_nil))))
      (pss_one (ps_ret (pe_f (E := E) C_grown hr (by omega) (fun σ => passAt (takes_of rfl rfl rfl rfl) σ) (pa_cons pe_int (pa_cons (pv 0) (pa_cons (pv 1) pa_nil))))))), ?_⟩)
  rintro ds r ⟨n, t, rfl, hb, rfl⟩
  show GS K E _ [some (.dat (.int n)), some (.dat (.int t))] _ _
  exact GS.seq (GS.dropX (GE.call (GA.cons (GE.var rfl) (GA.cons (GE.var rfl) GA.nil)) ⟨n, t, rfl, by rw [if_pos hb]⟩))
theorem ok_worst_n {f : Addr} {fd : FuncData} (F : Fun K "worst" "worst" s_worst f fd) (hm : mg "worst" = some (.ref f)) (b : Binds K fd ["tree", "low", "high", "things"] []) : ∀ n : Nat, Fn P w K mg base n "worst" (R_worst C_NoPlan n)
  | 0 => fn_none F hm b fun ds r ⟨_, _, _, _, _, h, _⟩ => by omega
  | n + 1 => by
    have C_worst := ok_worst_n F hm b n
    refine ok_fn (k := n) F sc_worst hm b (fun ds r ⟨_, _, _, _, e, _⟩ => by subst e; rfl) (fun cdv A outer s H E hr => ⟨_, (pss_cons (ps_if (pt_cmpR op_eq (pe_ix (ixT K) (pv 0) pe_int (fun _ _ => rfl)) pe_str (nomark _)) (pss_cons (ps_if (PW.pt (pw_or (pt_cmpR op_ne (pv 1) (pv 2) (nomark _)) (pw_or1 (pt_cmpR op_ne (pe_ix (ixT K) (pv 0) pe_int (fun _ _ => rfl)) (pv 1) (nomark _))))) (pss_one (ps_rs T.e_NoPlan rfl (takes_of rfl rfl rfl rfl))) pss_nil)
      (pss_one (ps_ret pe_int))) pss_nil)
      (pss_cons (ps_if (PW.pt (pw_or (pt_cmpR op_eq (pv 3) pe_int (nomark _)) (pw_or1 (pt_not (pt_chain op_lt op_le (pv 1) (pe_ix (ixT K) (pv 0) pe_int (fun _ _ => rfl)) (pv 2)))))) (pss_one (ps_rs T.e_NoPlan rfl (takes_of rfl rfl rfl rfl))) pss_nil)
      (pss_cons (ps_set (i := 4) sc_worst.nd rfl (Or.inl rfl) (pe_f (E := E) C_worst hr (by omega) (fun σ => passAt (takes_of rfl rfl rfl rfl) σ) (pa_cons (pe_ix (ixT K) (pv 0) pe_int (fun _ _ => rfl)) (pa_cons (pv 1) (pa_cons (pe_op op_sub (pe_ix (ixT K) (pv 0) pe_int (fun _ _ => rfl)) pe_int) (pa_cons (pe_op op_sub (pv 3) pe_int) pa_nil))))))
      (pss_cons (ps_set (i := 5) sc_worst.nd rfl (Or.inl rfl) (pe_f (E := E) C_worst hr (by omega) (fun σ => passAt (takes_of rfl rfl rfl rfl) σ) (pa_cons (pe_ix (ixT K) (pv 0) pe_int (fun _ _ => rfl)) (pa_cons (pe_ix (ixT K) (pv 0) pe_int (fun _ _ => rfl)) (pa_cons (pv 2) (pa_cons (pv 3) pa_nil))))))
      (pss_one (ps_ret (pe_op op_add pe_int (pe_callB (call_max' rfl) (by rfl) T.z_max (by decide +kernel) (pa_cons (pv 4) (pa_cons (pv 5) pa_nil)))))))))), ?_⟩)
    rintro ds r ⟨t, lo, hi, k, rfl, hd, rfl⟩
    show GS K E _ [some (.dat t.d), some (.dat (.int lo)), some (.dat (.int hi)), some (.dat (.int k)), none, none] _ _
    cases t with
    | told m =>
      refine GS.seq (GS.ifs (b := true) ((GT.test (GE.op (GE.ixT (GE.var (d := .tuple [.str "told", .int m]) rfl) GE.int rfl) GE.str rd_eqS)).to tt_told) (fun _ => ?_) fun hb => nomatch hb)
      refine GS.seq (GS.ifs (b := !decide (lo = hi) || !decide (m = lo)) (GT.or (GT.test (GE.op (GE.var rfl) (GE.var rfl) rd_neI)) fun _ => GT.test (GE.op (GE.ixT (GE.var (d := .tuple [.str "told", .int m]) rfl) GE.int rfl) (GE.var rfl) rd_neI)) (fun hb => ?_) fun hb => GS.next ?_)
      · rw [wv_told, if_neg (by simp only [Bool.or_eq_true, Bool.not_eq_true', decide_eq_false_iff_not] at hb; omega)]
        exact GS.raise
      · rw [wv_told, if_pos (by simp only [Bool.or_eq_false_iff, Bool.not_eq_false', decide_eq_true_eq] at hb; omega)]
        exact GS.retD GE.int
    | drop m u v =>
      have hdu : u.dep < n := by unfold Tr.dep at hd; omega
      have hdv : v.dep < n := by unfold Tr.dep at hd; omega
      have ev : ∀ {ρ : Rho}, ρ[0]? = some (some (.dat (Tr.drop m u v).d)) → GE K E (tVar 0) ρ (.ok (.tuple [.str "drop", .int m, u.d, v.d])) := fun h => GE.var h
      refine GS.seq (GS.ifs (b := false) ((GT.test (GE.op (GE.ixT (ev rfl) GE.int rfl) GE.str rd_eqS)).to tt_dt) (fun hb => nomatch hb) fun _ => GS.next ?_)
      refine GS.seq (GS.ifs (b := decide (k = 0) || !(decide (lo < m) && decide (m ≤ hi))) (GT.or (GT.test (GE.op (GE.var rfl) GE.int rd_eqI)) fun _ => GT.not (GT.chain (GE.var rfl) (GE.ixT (ev rfl) GE.int rfl) (GE.var rfl) rd_bl rd_bl)) (fun hb => ?_) fun hb => GS.next ?_)
      · rw [wv_no (by simp only [Bool.or_eq_true, Bool.not_eq_true', Bool.and_eq_false_iff, decide_eq_true_eq, decide_eq_false_iff_not] at hb; omega)]
        exact GS.raise
      · have hc : ¬ (k = 0 ∨ ¬ (lo < m ∧ m ≤ hi)) := by
          simp only [Bool.or_eq_false_iff, Bool.not_eq_false', Bool.and_eq_true, decide_eq_true_eq, decide_eq_false_iff_not] at hb
          omega
        cases eb : wv u lo (m - 1) (k - 1) with
        | none =>
          rw [wv_b hc eb]
          exact GS.seq (GS.asgX (GE.call (GA.cons (GE.ixT (ev rfl) GE.int rfl) (GA.cons (GE.var rfl) (GA.cons (GE.op (GE.ixT (ev rfl) GE.int rfl) GE.int rd_int) (GA.cons (GE.op (GE.var rfl) GE.int rd_int) GA.nil)))) ⟨u, lo, m - 1, k - 1, rfl, hdu, by rw [eb]; rfl⟩))
        | some x =>
          refine GS.seq (GS.asg (d := .int x) (GE.call (GA.cons (GE.ixT (ev rfl) GE.int rfl) (GA.cons (GE.var rfl) (GA.cons (GE.op (GE.ixT (ev rfl) GE.int rfl) GE.int rd_int) (GA.cons (GE.op (GE.var rfl) GE.int rd_int) GA.nil)))) ⟨u, lo, m - 1, k - 1, rfl, hdu, by rw [eb]; rfl⟩) ?_)
          cases ew : wv v m hi k with
          | none =>
            rw [wv_w hc ew]
            exact GS.seq (GS.asgX (GE.call (GA.cons (GE.ixT (ev rfl) GE.int rfl) (GA.cons (GE.ixT (ev rfl) GE.int rfl) (GA.cons (GE.var rfl) (GA.cons (GE.var rfl) GA.nil)))) ⟨v, m, hi, k, rfl, hdv, by rw [ew]; rfl⟩))
          | some y =>
            rw [wv_ok hc eb ew]
            refine GS.seq (GS.asg (d := .int y) (GE.call (GA.cons (GE.ixT (ev rfl) GE.int rfl) (GA.cons (GE.ixT (ev rfl) GE.int rfl) (GA.cons (GE.var rfl) (GA.cons (GE.var rfl) GA.nil)))) ⟨v, m, hi, k, rfl, hdv, by rw [ew]; rfl⟩) ?_)
            exact GS.retD (GE.to (GE.op GE.int (GE.max (GA.cons (GE.var rfl) (GA.cons (GE.var rfl) GA.nil))) rd_int) (congrArg (fun z => Rs.ok (.int z)) (by omega)))
theorem ok_worst {f : Addr} {fd : FuncData} (F : Fun K "worst" "worst" s_worst f fd) (hm : mg "worst" = some (.ref f)) (b : Binds K fd ["tree", "low", "high", "things"] []) : Fn P w K mg base 100 "worst" (R_worst C_NoPlan 100) := ok_worst_n T F hm b 100
theorem ok_looked (C_ask_tree : Fn P w K mg base 2 "ask_tree" (R_asktree C_NoCase)) (C_worst : Fn P w K mg base 100 "worst" (R_worst C_NoPlan 100)) {f : Addr} {fd : FuncData} (F : Fun K "looked" "looked" s_looked f fd) (hm : mg "looked" = some (.ref f)) (b : Binds K fd ["tree", "floors", "things"] []) : Fn P w K mg base 101 "looked" (R_looked C_NoCase C_NoPlan) := by
  refine ok_fn F sc_looked hm b (fun ds r ⟨_, n, t, e, _⟩ => by subst e; rfl) (fun cdv A outer s H E hr => ⟨_, (pss_cons (ps_expr (pe_f (E := E) C_ask_tree hr (by omega) (fun σ => passAt (takes_of rfl rfl rfl rfl) σ) (pa_cons (pv 1) (pa_cons (pv 2) pa_nil))))
      (pss_one (ps_ret (pe_f (E := E) C_worst hr (by omega) (fun σ => passAt (takes_of rfl rfl rfl rfl) σ) (pa_cons (pv 0) (pa_cons pe_int (pa_cons (pv 1) (pa_cons (pv 2) pa_nil)))))))), ?_⟩)
  rintro ds r ⟨t, f', k, rfl, hd, rfl⟩
  show GS K E _ [some (.dat t.d), some (.dat (.int f')), some (.dat (.int k))] _ _
  by_cases hb : badT f' k = true
  · rw [if_pos hb]
    exact GS.seq (GS.dropX (GE.call (GA.cons (GE.var rfl) (GA.cons (GE.var rfl) GA.nil)) ⟨f', k, rfl, by rw [if_pos hb]⟩))
  · rw [if_neg hb]
    refine GS.seq (GS.drop (d := .none) (GE.call (GA.cons (GE.var rfl) (GA.cons (GE.var rfl) GA.nil)) ⟨f', k, rfl, by rw [if_neg hb]⟩) ?_)
    have q : GE K E _ [some (.dat t.d), some (.dat (.int f')), some (.dat (.int k))] (resW C_NoPlan (wv t 0 f' k)) := GE.call (R := R_worst C_NoPlan 100) (GA.cons (GE.var (i := 0) rfl) (GA.cons (GE.int (i := 0)) (GA.cons (GE.var (i := 1) rfl) (GA.cons (GE.var (i := 2) rfl) GA.nil)))) ⟨t, 0, f', k, rfl, hd, rfl⟩
    cases e : wv t 0 f' k with
    | none =>
      rw [e] at q
      exact GS.retX q
    | some v =>
      rw [e] at q
      exact GS.retD q
theorem ok_walk {f : Addr} {fd : FuncData} (F : Fun K "walk" "walk" s_walk f fd) (hm : mg "walk" = some (.ref f)) (b : Binds K fd ["tree", "floor"] []) : Fn P w K mg base 1 "walk" R_walk := by
  refine ok_fn F sc_walk hm b (fun ds r ⟨_, _, e, _⟩ => by subst e; rfl) (fun cdv A outer s H E hr => ⟨_, (pss_cons (ps_set (i := 2) sc_walk.nd rfl (Or.inl rfl) (pe_lst pa_nil))
      (pss_cons (ps_while (passes_of rfl) (pt_cmpR op_eq (pe_ix (ixT K) (pv 0) pe_int (fun _ _ => rfl)) pe_str (nomark _)) (pss_cons (ps_expr (pe_bm PySem.F.plainAttrs_list PySem.F.slot_list_append PySem.F.type_list_append mt_append (pv 2) (pa_cons (pe_tup (pa_cons (pe_ix (ixT K) (pv 0) pe_int (fun _ _ => rfl)) (pa_cons (pe_cmpR op_gt (pe_ix (ixT K) (pv 0) pe_int (fun _ _ => rfl)) (pv 1) (nomark _)) pa_nil))) pa_nil)))
      (pss_one (ps_if (pt_cmpR op_gt (pe_ix (ixT K) (pv 0) pe_int (fun _ _ => rfl)) (pv 1) (nomark _)) (pss_one (ps_set (i := 0) sc_walk.nd rfl (Or.inl rfl) (pe_ix (ixT K) (pv 0) pe_int (fun _ _ => rfl)))) (pss_one (ps_set (i := 0) sc_walk.nd rfl (Or.inl rfl) (pe_ix (ixT K) (pv 0) pe_int (fun _ _ => rfl))))))))
      (pss_one (ps_ret (pv 2))))), ?_⟩)
  rintro ds r ⟨t, fl, rfl, hd, rfl⟩
  show GS K E _ [some (.dat t.d), some (.dat (.int fl)), none] _ _
  refine GS.seq (GS.asgN (ds := []) (GE.lst GA.nil (by simp)) ?_)
  refine GS.seq (GS.while (fun m ρ' => ∃ (u : Tr) (acc : List (Int × Bool)), u.dep ≤ m ∧ acc.length + u.dep < 100 ∧ acc ++ wk u fl = wk t fl ∧ ρ' = [some (.dat u.d), some (.dat (.int fl)), some (.own (acc.map pdW))]) t.dep ⟨t, [], Nat.le_refl _, by simp; omega, rfl, rfl⟩ ?_)
  rintro m ρ' ⟨u, acc, hm', hl, ew, rfl⟩
  cases u with
  | told n =>
    refine ⟨false, (GT.test (GE.op (GE.ixT (GE.var (d := .tuple [.str "told", .int n]) rfl) GE.int rfl) GE.str rd_eqS)).to tt_td, (fun hb => nomatch hb), fun _ => ?_⟩
    rw [wk_told, List.append_nil] at ew
    rw [ew]
    exact GS.retOwn rfl
  | drop n x y =>
    have ev : ∀ {ρ : Rho}, ρ[0]? = some (some (.dat (Tr.drop n x y).d)) → GE K E (tVar 0) ρ (.ok (.tuple [.str "drop", .int n, x.d, y.d])) := fun h => GE.var h
    have dx : (Tr.drop n x y).dep = 1 + max x.dep y.dep := rfl
    refine ⟨true, (GT.test (GE.op (GE.ixT (ev rfl) GE.int rfl) GE.str rd_eqS)).to tt_drop, fun _ => ?_, fun hb => nomatch hb⟩
    refine GS.seq (GS.app (d := .tuple [.int n, .bool (decide (fl < n))]) rfl (GE.tup (GA.cons (GE.ixT (ev rfl) GE.int rfl) (GA.cons (GE.op (GE.ixT (ev rfl) GE.int rfl) (GE.var rfl) rd_bl) GA.nil)) (by simp)) (by rw [List.length_map]; omega) ?_)
    refine GS.ifs (b := decide (fl < n)) (GT.test (GE.op (GE.ixT (ev rfl) GE.int rfl) (GE.var rfl) rd_bl)) (fun hb => ?_) fun hb => ?_
    · have hlt := of_decide_eq_true hb
      refine GS.asg (d := x.d) (GE.ixT (ev rfl) GE.int rfl) ⟨m - 1, by omega, x, acc ++ [(n, true)], by omega, by rw [List.length_append]; show acc.length + 1 + _ < _; omega, ?_, ?_⟩
      · rw [← ew, wk_b hlt, List.append_assoc]
        rfl
      · rw [List.map_append, hb]
        rfl
    · have hlt := of_decide_eq_false hb
      refine GS.asg (d := y.d) (GE.ixT (ev rfl) GE.int rfl) ⟨m - 1, by omega, y, acc ++ [(n, false)], by omega, by rw [List.length_append]; show acc.length + 1 + _ < _; omega, ?_, ?_⟩
      · rw [← ew, wk_w hlt, List.append_assoc]
        rfl
      · rw [List.map_append, hb]
        rfl
theorem ok_walked (C_looked : Fn P w K mg base 101 "looked" (R_looked C_NoCase C_NoPlan)) (C_walk : Fn P w K mg base 1 "walk" R_walk) {f : Addr} {fd : FuncData} (F : Fun K "walked" "walked" s_walked f fd) (hm : mg "walked" = some (.ref f)) (b : Binds K fd ["tree", "floors", "things", "floor"] []) : Fn P w K mg base 102 "walked" (R_walked C_NoCase C_NoPlan C_NoFloor) := by
  refine ok_fn F sc_walked hm b (fun ds r ⟨_, _, n, t, e, _⟩ => by subst e; rfl) (fun cdv A outer s H E hr => ⟨_, (pss_cons (ps_expr (pe_f (E := E) C_looked hr (by omega) (fun σ => passAt (takes_of rfl rfl rfl rfl) σ) (pa_cons (pv 0) (pa_cons (pv 1) (pa_cons (pv 2) pa_nil)))))
      (pss_cons (ps_if (PW.pt (pw_or (pt_cmpR op_lt (pv 3) pe_int (nomark _)) (pw_or1 (pt_cmpR op_gt (pv 3) (pv 1) (nomark _))))) (pss_one (ps_rs T.e_NoFloor rfl (takes_of rfl rfl rfl rfl))) pss_nil)
      (pss_one (ps_ret (pe_f (E := E) C_walk hr (by omega) (fun σ => passAt (takes_of rfl rfl rfl rfl) σ) (pa_cons (pv 0) (pa_cons (pv 3) pa_nil))))))), ?_⟩)
  rintro ds r ⟨t, f', k, fl, rfl, hd, rfl⟩
  show GS K E _ [some (.dat t.d), some (.dat (.int f')), some (.dat (.int k)), some (.dat (.int fl))] _ _
  have q : ∀ r, R_looked C_NoCase C_NoPlan [t.d, .int f', .int k] r → GE K E _ [some (.dat t.d), some (.dat (.int f')), some (.dat (.int k)), some (.dat (.int fl))] r := fun r h => GE.call (R := R_looked C_NoCase C_NoPlan) (GA.cons (GE.var (i := 0) rfl) (GA.cons (GE.var (i := 1) rfl) (GA.cons (GE.var (i := 2) rfl) GA.nil))) h
  by_cases hb : badT f' k = true
  · rw [if_pos hb]
    exact GS.seq (GS.dropX (q _ ⟨t, f', k, rfl, hd, by rw [if_pos hb]⟩))
  · rw [if_neg hb]
    cases e : wv t 0 f' k with
    | none => exact GS.seq (GS.dropX (q _ ⟨t, _, _, rfl, hd, by rw [if_neg hb, e]; rfl⟩))
    | some v =>
      refine GS.seq (GS.drop (d := .int v) (q _ ⟨t, _, _, rfl, hd, by rw [if_neg hb, e]; rfl⟩) ?_)
      refine GS.seq (GS.ifs (b := decide (fl < 0) || decide (f' < fl)) (GT.or (GT.test (GE.op (GE.var rfl) GE.int rd_bl)) fun _ => GT.test (GE.op (GE.var rfl) (GE.var rfl) rd_bl)) (fun hc => ?_) fun hc => GS.next ?_)
      · have hc' : fl < 0 ∨ f' < fl := by simpa using hc
        show GS K E _ _ _ (if fl < 0 ∨ f' < fl then _ else _)
        rw [if_pos hc']
        exact GS.raise
      · have hc' : ¬ (fl < 0 ∨ f' < fl) := by simpa using hc
        show GS K E _ _ _ (if fl < 0 ∨ f' < fl then _ else _)
        rw [if_neg hc']
        exact GS.retN (GE.call (GA.cons (GE.var rfl) (GA.cons (GE.var rfl) GA.nil)) ⟨t, fl, rfl, hd, rfl⟩)
theorem ok_S_init (C_ask : Fn P w K mg base 1 "ask" (R_ask C_NoCase)) {f : Addr} {fd : FuncData} (F : Fun K "__init__" "Search.__init__" s_S_init f fd) (hm : Mk K C_Search f) (b : Binds K fd ["self", "floors", "things"] []) : FnMk P w K mg base 2 C_Search (spIX K C_NoCase) := by
  refine ⟨f, fd, _, F.okX sc_S_init (fun vs H Q E h => ?_) (fun cdv A outer s H vs Q E hr h => ?_), hm, b⟩
  · obtain ⟨p, n, t, rfl, _⟩ := h
    rfl
  · obtain ⟨p, n, t, rfl, hb, B, bh, up⟩ := h
    refine ⟨_, (pss_cons (ps_expr (pe_f (E := E) C_ask hr (by omega) (fun σ => passAt (takes_of rfl rfl rfl rfl) σ) (pa_cons (pv 1) (pa_cons (pv 2) pa_nil))))
      (pss_cons (ps_fld (pv 0) pe_int rfl)
      (pss_cons (ps_fld (pv 0) (pv 1) rfl)
      (pss_cons (ps_fld (pv 0) (pv 2) rfl)
      (pss_one (ps_fld (pv 0) (pe_lst pa_nil) rfl)))))), ?_⟩
    have sl : Sl K H B H (L2.start sc_S_init_N [.ref p, .int n, .int t]) [none, some (.dat (.int n)), some (.dat (.int t))] := by
      refine ⟨rfl, fun i d e => ?_, fun i d e => ?_, fun i j di dj _ e => ?_, fun i v e => ?_⟩
      · match i, e with
        | 1, e =>
          cases e
          exact ⟨_, rfl, .int _⟩
        | 2, e =>
          cases e
          exact ⟨_, rfl, .int _⟩
      all_goals
        match i, e with
        | 1, e => cases e
        | 2, e => cases e
    exact GS.seq (K := K) (E := E) (r := .exc C_NoCase) (Nx := fun _ => False) (GS.dropX (GE.call (GA.cons (GE.var rfl) (GA.cons (GE.var rfl) GA.nil)) ⟨n, t, rfl, by rw [if_pos hb]⟩)) B H B H _ (.refl bh) sl _ (fun _ _ _ _ _ _ z => z.elim) ⟨fun v B' H' _ f => f.elim, fun C e B' H' s2 d ed => by
      cases e; cases ed
      exact up B' H' s2⟩
theorem ok_tables {f : Addr} {fd : FuncData} (F : Fun K "tables" "tables" s_tables f fd) (hm : mg "tables" = some (.ref f)) (b : Binds K fd ["floors", "things"] []) : Fn P w K mg base 1 "tables" R_tables := by
  refine ok_fn F sc_tables hm b (fun ds r ⟨n, t, e, _⟩ => by subst e; rfl) (fun cdv A outer s H E hr => ⟨_, (pss_cons (ps_set (i := 2) sc_tables.nd rfl (Or.inl rfl) (pe_lst (pa_cons (pe_op op_cat (pe_lst (pa_cons pe_int pa_nil)) (pe_op op_rep (pe_lst (pa_cons pe_non pa_nil)) (pv 0))) pa_nil)))
      (pss_cons (ps_set (i := 3) sc_tables.nd rfl (Or.inl rfl) (pe_lst (pa_cons (pe_op op_rep (pe_lst (pa_cons pe_non pa_nil)) (pe_op op_add (pv 0) pe_int)) pa_nil)))
      (pss_cons (ps_for (passes_of rfl) rfl (pi_range2 (by rfl) T.z_range (pa_cons pe_int (pa_cons (pe_op op_add (pv 1) pe_int) pa_nil))) (pg_name (i := 4) sc_tables.nd rfl (Or.inl rfl)) (pss_cons (ps_set (i := 5) sc_tables.nd rfl (Or.inl rfl) (pe_lst (pa_cons pe_int pa_nil)))
      (pss_cons (ps_set (i := 6) sc_tables.nd rfl (Or.inl rfl) (pe_lst (pa_cons pe_non pa_nil)))
      (pss_cons (ps_for (passes_of rfl) rfl (pi_range2 (by rfl) T.z_range (pa_cons pe_int (pa_cons (pe_op op_add (pv 0) pe_int) pa_nil))) (pg_name (i := 7) sc_tables.nd rfl (Or.inl rfl)) (pss_cons (ps_set (i := 8) sc_tables.nd rfl (Or.inl rfl) pe_non)
      (pss_cons (ps_for (passes_of rfl) rfl (pi_range2 (by rfl) T.z_range (pa_cons pe_int (pa_cons (pe_op op_add (pv 7) pe_int) pa_nil))) (pg_name (i := 9) sc_tables.nd rfl (Or.inl rfl)) (pss_cons (ps_set (i := 10) sc_tables.nd rfl (Or.inl rfl) (pe_ix (ixL K) (pe_ix (ixL K) (pv 2) (pe_op op_sub (pv 4) pe_int) (fun _ _ => rfl)) (pe_op op_sub (pv 9) pe_int) (fun _ _ => rfl)))
      (pss_one (ps_if (pt_cmpR op_noN' (pv 10) pe_non (nomark _)) (pss_cons (ps_set (i := 11) sc_tables.nd rfl (Or.inl rfl) (pe_op op_add (pe_op op_add (pe_op op_add (pv 7) pe_int) (pv 10)) (pe_ix (ixL K) (pv 5) (pe_op op_sub (pv 7) (pv 9)) (fun _ _ => rfl))))
      (pss_one (ps_if (PW.pt (pw_or (pt_cmpR op_isN' (pv 8) pe_non (nomark _)) (pw_or1 (pt_cmpR op_lt (pv 11) (pe_ix (ixT K) (pv 8) pe_int (fun _ _ => rfl)) (nomark _))))) (pss_one (ps_set (i := 8) sc_tables.nd rfl (Or.inl rfl) (pe_tup (pa_cons (pv 11) (pa_cons (pv 9) pa_nil))))) pss_nil))) pss_nil))))
      (pss_cons (ps_expr (pe_bm PySem.F.plainAttrs_list PySem.F.slot_list_append PySem.F.type_list_append mt_append (pv 5) (pa_cons (pe_ix (ixT K) (pv 8) pe_int (fun _ _ => rfl)) pa_nil)))
      (pss_one (ps_expr (pe_bm PySem.F.plainAttrs_list PySem.F.slot_list_append PySem.F.type_list_append mt_append (pv 6) (pa_cons (pe_ix (ixT K) (pv 8) pe_int (fun _ _ => rfl)) pa_nil))))))))
      (pss_cons (ps_expr (pe_bm PySem.F.plainAttrs_list PySem.F.slot_list_append PySem.F.type_list_append mt_append (pv 2) (pa_cons (pv 5) pa_nil)))
      (pss_one (ps_expr (pe_bm PySem.F.plainAttrs_list PySem.F.slot_list_append PySem.F.type_list_append mt_append (pv 3) (pa_cons (pv 6) pa_nil)))))))))
      (pss_one (ps_ret (pe_tup (pa_cons (pv 2) (pa_cons (pv 3) pa_nil)))))))), ?_⟩)
  rintro ds r ⟨f', k, rfl, hf, hk, rfl⟩
  show GS K E _ [some (.dat (.int f')), some (.dat (.int k)), none, none, none, none, none, none, none, none, none, none] _ _
  refine GS.seq (GS.asgN (ds := sTab f' 0) (GE.to (GE.lst (GA.cons (GE.frz (GE.cat (GE.lst (GA.cons GE.int GA.nil) (by simp)) (.new _) (GE.rep (k := (f' : Int)) (GE.lst (GA.cons GE.non GA.nil) (by simp)) (.new _) (GE.var rfl) (by omega) (by show 1 * (f' : Int).toNat ≤ 100000; omega)) (.new _)
    (by rw [flat_one, List.length_replicate]; show 1 + (f' : Int).toNat ≤ 100000; omega))) GA.nil) (by simp)) (by rw [show ((f' : Int)).toNat = f' from rfl, sRow_0]; rfl)) ?_)
  refine GS.seq (GS.asgN (ds := dTab f' 0) (GE.to (GE.lst (GA.cons (GE.frz (GE.rep (k := (f' : Int) + 1) (GE.lst (GA.cons GE.non GA.nil) (by simp)) (.new _) (GE.op (GE.var rfl) GE.int rd_int) (by omega) (by show 1 * ((f' : Int) + 1).toNat ≤ 100000; omega))) GA.nil) (by simp)) (by rw [show ((f' : Int) + 1).toNat = f' + 1 by omega, dRow_0]; rfl)) ?_)
  refine GS.seq (GS.forR2 (lo := 1) (hi := (k : Int) + 1) (GA.cons GE.int (GA.cons (GE.op (GE.var rfl) GE.int rd_int) GA.nil)) (by omega) (fun i ρ' => ∃ x4 x5 x6 x7 x8 x9 x10 x11, ρ' = [some (.dat (.int f')), some (.dat (.int k)), some (.own (sTab f' i)), some (.own (dTab f' i)), x4, x5, x6, x7, x8, x9, x10, x11]) ⟨none, none, none, none, none, none, none, none, rfl⟩ ?_ ?_)
  · rintro i ρ' hi ⟨x4, x5, x6, x7, x8, x9, x10, x11, rfl⟩
    refine GS.seq (GS.asgN (ds := sRow (i + 1) 0) (GE.to (GE.lst (GA.cons GE.int GA.nil) (by simp)) (by rw [sRow_s0 i])) ?_)
    refine GS.seq (GS.asgN (ds := dRow (i + 1) 0) (GE.to (GE.lst (GA.cons GE.non GA.nil) (by simp)) (by rw [dRow_s0 i])) ?_)
    refine GS.seq (GS.forR2 (lo := 1) (hi := (f' : Int) + 1) (GA.cons GE.int (GA.cons (GE.op (GE.var rfl) GE.int rd_int) GA.nil)) (by omega) (fun j ρ' => ∃ x7 x8 x9 x10 x11, ρ' = [some (.dat (.int f')), some (.dat (.int k)), some (.own (sTab f' i)), some (.own (dTab f' i)), some (.dat (.int (1 + (i : Int)))), some (.own (sRow (i + 1) j)), some (.own (dRow (i + 1) j)), x7, x8, x9, x10, x11]) ⟨x7, x8, x9, x10, x11, rfl⟩ ?_ ?_)
    · rintro j ρ' hj ⟨x7, x8, x9, x10, x11, rfl⟩
      refine GS.seq (GS.asg (d := .none) GE.non ?_)
      refine GS.seq (GS.forR2 (lo := 1) (hi := 1 + (j : Int) + 1) (GA.cons GE.int (GA.cons (GE.op (GE.var rfl) GE.int rd_int) GA.nil)) (by omega) (fun d ρ' => ∃ x9 x10 x11, ρ' = [some (.dat (.int f')), some (.dat (.int k)), some (.own (sTab f' i)), some (.own (dTab f' i)), some (.dat (.int (1 + (i : Int)))), some (.own (sRow (i + 1) j)), some (.own (dRow (i + 1) j)), some (.dat (.int (1 + (j : Int)))), some (.dat (bst i j d)), x9, x10, x11]) ⟨x9, x10, x11, rfl⟩ ?_ ?_)
      · rintro d ρ' hd ⟨x9, x10, x11, rfl⟩
        refine GS.seq (GS.asg (d := sD i d) (GE.ixL (GE.ixL (GE.own rfl) (.ali _) (GE.op (GE.var rfl) GE.int rd_int) (sTab_at (j := i) (by omega) (Nat.le_refl i))) (.ok _) (GE.op (GE.var rfl) GE.int rd_int) (sRow_at (j := d) (by omega) (by omega))) ?_)
        by_cases h0 : i = 0 ∧ d ≠ 0
        · obtain ⟨rfl, hd0⟩ := h0
          refine GS.ifs (b := false) ((GT.test (GE.op (GE.var rfl) GE.non rd_noN)).to (by unfold sD; rw [if_pos ⟨rfl, hd0⟩]; rfl)) (fun hb => nomatch hb) fun _ => GS.next ⟨some (.dat (.int (1 + (d : Int)))), some (.dat (sD 0 d)), x11, ?_⟩
          obtain ⟨d, rfl⟩ : ∃ c, d = c + 1 := ⟨d - 1, by omega⟩
          have e1 := argF_zero (n := j) (by omega) (d + 1) (by omega)
          have e2 := argF_zero (n := j) (by omega) d (by omega)
          have e : bst 0 j (d + 1 + 1) = bst 0 j (d + 1) := by
            show PyData.tuple [.int ((j + 2 + gS 0 j (argF (gS 0 j) (d + 1)) : Nat) : Int), .int ((1 + argF (gS 0 j) (d + 1) : Nat) : Int)] = PyData.tuple [.int ((j + 2 + gS 0 j (argF (gS 0 j) d) : Nat) : Int), .int ((1 + argF (gS 0 j) d : Nat) : Int)]
            rw [e1, e2]
          rw [e]
          rfl
        · have es : sD i d = .int (S i d) := if_neg h0
          refine GS.ifs (b := true) ((GT.test (GE.op (GE.var rfl) GE.non rd_noN)).to (by rw [es]; rfl)) (fun _ => ?_) fun hb => nomatch hb
          rw [es]
          refine GS.seq (GS.asg (d := .int ((j + 2 + gS i j d : Nat) : Int)) (GE.to (GE.op (GE.op (GE.op (GE.var rfl) GE.int rd_int) (GE.var rfl) rd_int) (GE.ixL (GE.own rfl) (.ali _) (GE.op (GE.var rfl) (GE.var rfl) rd_int) ((sRow_at (j := j - d) (by omega) (by omega)).trans (by rw [sD_s]))) rd_int) (congrArg (fun z => Rs.ok (.int z)) (by unfold gS; omega))) ?_)
          cases d with
          | zero =>
            refine GS.ifs (b := true) ((GT.or (b := false) (GT.test (GE.op (GE.var (d := .none) rfl) GE.non (rd_isN (x := .none)))) fun hb => absurd (show true = false from hb) (by decide)).to rfl) (fun _ => ?_) fun hb => nomatch hb
            exact GS.asg (d := bst i j (0 + 1)) (GE.tup (GA.cons (GE.var rfl) (GA.cons (GE.var rfl) GA.nil)) (by simp)) ⟨_, _, _, rfl⟩
          | succ d =>
            refine GS.ifs (b := decide (((j + 2 + gS i j (d + 1) : Nat) : Int) < ((j + 2 + gS i j (argF (gS i j) d) : Nat) : Int))) ((GT.or (GT.test (GE.op (GE.var rfl) GE.non rd_isN)) fun _ => GT.test (GE.op (GE.var rfl) (GE.ixT (GE.var rfl) GE.int rfl) rd_bl)).to rfl) (fun hb => ?_) fun hb => ?_
            · have hl : gS i j (d + 1) < gS i j (argF (gS i j) d) := by have := of_decide_eq_true hb; omega
              have ea : argF (gS i j) (d + 1) = d + 1 := if_pos hl
              have e : bst i j (d + 1 + 1) = .tuple [.int ((j + 2 + gS i j (d + 1) : Nat) : Int), .int (1 + ((d + 1 : Nat) : Int))] := by
                show PyData.tuple [.int ((j + 2 + gS i j (argF (gS i j) (d + 1)) : Nat) : Int), .int ((1 + argF (gS i j) (d + 1) : Nat) : Int)] = _
                rw [ea, show ((1 + (d + 1) : Nat) : Int) = 1 + ((d + 1 : Nat) : Int) by omega]
              exact GS.asg (d := bst i j (d + 1 + 1)) (GE.to (GE.tup (GA.cons (GE.var rfl) (GA.cons (GE.var rfl) GA.nil)) (by simp)) (by rw [e])) ⟨_, _, _, rfl⟩
            · have hl : ¬ gS i j (d + 1) < gS i j (argF (gS i j) d) := by have := of_decide_eq_false hb; omega
              have ea : argF (gS i j) (d + 1) = argF (gS i j) d := if_neg hl
              have e : bst i j (d + 1 + 1) = bst i j (d + 1) := by
                show PyData.tuple [.int ((j + 2 + gS i j (argF (gS i j) (d + 1)) : Nat) : Int), .int ((1 + argF (gS i j) (d + 1) : Nat) : Int)] = _
                rw [ea]
                rfl
              refine GS.next ⟨some (.dat (.int (1 + ((d + 1 : Nat) : Int)))), some (.dat (.int (S i (d + 1)))), some (.dat (.int ((j + 2 + gS i j (d + 1) : Nat) : Int))), ?_⟩
              rw [e]
              rfl
      · rintro ρ' ⟨x9, x10, x11, rfl⟩
        rw [show (1 + (j : Int) + 1 - 1).toNat = j + 1 by omega]
        have e1 : sD (i + 1) (j + 1) = .int ((j + 2 + gS i j (argF (gS i j) j) : Nat) : Int) := by rw [sD_s, S_ss]; rfl
        refine GS.seq (GS.app (d := sD (i + 1) (j + 1)) rfl (GE.to (GE.ixT (GE.var rfl) GE.int rfl) (by rw [e1])) (by unfold sRow; rw [map_len]; omega) ?_)
        refine GS.app (d := dD (i + 1) (j + 1)) rfl (GE.to (GE.ixT (GE.var rfl) GE.int rfl) (by rw [dD_s]; rfl)) (by unfold dRow; rw [map_len]; omega) ⟨some (.dat (.int (1 + (j : Int)))), some (.dat (bst i j (j + 1))), x9, x10, x11, ?_⟩
        unfold sRow dRow
        rw [map_next, map_next]
        rfl
    · rintro ρ' ⟨x7, x8, x9, x10, x11, rfl⟩
      rw [show ((f' : Int) + 1 - 1).toNat = f' by omega]
      refine GS.freeze 5 rfl (GS.seq (GS.app (d := .list (sRow (i + 1) f')) rfl (GE.var rfl) (by unfold sTab; rw [map_len]; omega) ?_))
      refine GS.freeze 6 rfl (GS.app (d := .list (dRow (i + 1) f')) rfl (GE.var rfl) (by unfold dTab; rw [map_len]; omega) ⟨some (.dat (.int (1 + (i : Int)))), some (.dat (.list (sRow (i + 1) f'))), some (.dat (.list (dRow (i + 1) f'))), x7, x8, x9, x10, x11, ?_⟩)
      unfold sTab dTab
      rw [map_next (g := fun j => .list (sRow j f')), map_next (g := fun j => .list (dRow j f'))]
      rfl
  · rintro ρ' ⟨x4, x5, x6, x7, x8, x9, x10, x11, rfl⟩
    rw [show ((k : Int) + 1 - 1).toNat = k by omega]
    exact GS.freeze 2 rfl (GS.freeze 3 rfl (GS.retD (GE.tup (GA.cons (GE.var rfl) (GA.cons (GE.var rfl) GA.nil)) (by simp))))
theorem ok_least_sum (C_ask_tree : Fn P w K mg base 2 "ask_tree" (R_asktree C_NoCase)) (C_tables : Fn P w K mg base 1 "tables" R_tables) {f : Addr} {fd : FuncData} (F : Fun K "least_sum" "least_sum" s_least_sum f fd) (hm : mg "least_sum" = some (.ref f)) (b : Binds K fd ["floors", "things"] []) : Fn P w K mg base 3 "least_sum" (R_least C_NoCase) := by
  refine ok_fn F sc_least_sum hm b (fun ds r ⟨n, t, e, _⟩ => by subst e; rfl) (fun cdv A outer s H E hr => ⟨_, (pss_cons (ps_expr (pe_f (E := E) C_ask_tree hr (by omega) (fun σ => passAt (takes_of rfl rfl rfl rfl) σ) (pa_cons (pv 0) (pa_cons (pv 1) pa_nil))))
      (pss_one (ps_ret (pe_ix (ixL K) (pe_ix (ixL K) (pe_ix (ixT K) (pe_f (E := E) C_tables hr (by omega) (fun σ => passAt (takes_of rfl rfl rfl rfl) σ) (pa_cons (pv 0) (pa_cons (pv 1) pa_nil))) pe_int (fun _ _ => rfl)) (pv 1) (fun _ _ => rfl)) (pv 0) (fun _ _ => rfl))))), ?_⟩)
  rintro ds r ⟨n, t, rfl, rfl⟩
  show GS K E _ [some (.dat (.int n)), some (.dat (.int t))] _ _
  by_cases hb : badT n t = true
  · rw [if_pos hb]
    exact GS.seq (GS.dropX (GE.call (GA.cons (GE.var rfl) (GA.cons (GE.var rfl) GA.nil)) ⟨n, t, rfl, by rw [if_pos hb]⟩))
  · rw [if_neg hb]
    obtain ⟨_, n', t', rfl, rfl, h1, h2, h3⟩ := badT_no hb
    refine GS.seq (GS.drop (d := .none) (GE.call (GA.cons (GE.var rfl) (GA.cons (GE.var rfl) GA.nil)) ⟨_, _, rfl, by rw [if_neg hb]⟩) ?_)
    refine GS.retD (GE.to (GE.ixL (GE.ixL (GE.ixT (GE.call (GA.cons (GE.var rfl) (GA.cons (GE.var rfl) GA.nil)) (show R_tables [.int n', .int t'] (.ok (.tuple [.list (sTab n' t'), .list (dTab n' t')])) from ⟨n', t', rfl, h1, h2, rfl⟩)) GE.int rfl) (.ok _) (GE.var rfl) (sTab_at rfl (Nat.le_refl t'))) (.ok _) (GE.var rfl) (sRow_at rfl (Nat.le_refl n'))) ?_)
    unfold sD
    rw [if_neg (by omega)]
    rfl
theorem ok_grown2 {f : Addr} {fd : FuncData} (F : Fun K "grown" "grown" s_grown2 f fd) (hm : mg "grown_sums" = some (.ref f)) (b : Binds K fd ["low", "high", "things", "firsts"] []) : Fn P w K mg base 0 "grown_sums" (fun _ _ => False) := fn_noneA F hm b fun _ _ h => h
theorem ok_sum_plan (C_ask_tree : Fn P w K mg base 2 "ask_tree" (R_asktree C_NoCase)) (C_grown2 : Fn P w K mg base 0 "grown_sums" (fun _ _ => False)) (C_tables : Fn P w K mg base 1 "tables" R_tables) {f : Addr} {fd : FuncData} (F : Fun K "sum_plan" "sum_plan" s_sum_plan f fd) (hm : mg "sum_plan" = some (.ref f)) (b : Binds K fd ["floors", "things"] []) : Fn P w K mg base 3 "sum_plan" (R_planX C_NoCase) := by
  refine ok_fn F sc_sum_plan hm b (fun ds r ⟨n, t, e, _⟩ => by subst e; rfl) (fun cdv A outer s H E hr => ⟨_, (pss_cons (ps_expr (pe_f (E := E) C_ask_tree hr (by omega) (fun σ => passAt (takes_of rfl rfl rfl rfl) σ) (pa_cons (pv 0) (pa_cons (pv 1) pa_nil))))
      (pss_one (ps_ret (pe_f (E := E) C_grown2 hr (by omega) (fun σ => passAt (takes_of rfl rfl rfl rfl) σ) (pa_cons pe_int (pa_cons (pv 0) (pa_cons (pv 1) (pa_cons (pe_ix (ixT K) (pe_f (E := E) C_tables hr (by omega) (fun σ => passAt (takes_of rfl rfl rfl rfl) σ) (pa_cons (pv 0) (pa_cons (pv 1) pa_nil))) pe_int (fun _ _ => rfl)) pa_nil)))))))), ?_⟩)
  rintro ds r ⟨n, t, rfl, hb, rfl⟩
  show GS K E _ [some (.dat (.int n)), some (.dat (.int t))] _ _
  exact GS.seq (GS.dropX (GE.call (GA.cons (GE.var rfl) (GA.cons (GE.var rfl) GA.nil)) ⟨n, t, rfl, by rw [if_pos hb]⟩))
theorem ok_sum_of (C_looked : Fn P w K mg base 101 "looked" (R_looked C_NoCase C_NoPlan)) (C_walk : Fn P w K mg base 1 "walk" R_walk) {f : Addr} {fd : FuncData} (F : Fun K "sum_of" "sum_of" s_sum_of f fd) (hm : mg "sum_of" = some (.ref f)) (b : Binds K fd ["tree", "floors", "things"] []) : Fn P w K mg base 102 "sum_of" (R_sumof C_NoCase C_NoPlan) := by
  refine ok_fn F sc_sum_of hm b (fun ds r ⟨_, n, t, e, _⟩ => by subst e; rfl) (fun cdv A outer s H E hr => ⟨_, (pss_cons (ps_expr (pe_f (E := E) C_looked hr (by omega) (fun σ => passAt (takes_of rfl rfl rfl rfl) σ) (pa_cons (pv 0) (pa_cons (pv 1) (pa_cons (pv 2) pa_nil)))))
      (pss_one (ps_ret (pe_callB (cSum K) (by rfl) T.z_sum (by decide +kernel) (pa_cons (pe_lc (own := [("floor", 3)]) (g := gName 3) rfl sc_sum_of.nd (pi_range1 (by rfl) T.z_range (pa_cons (pe_op op_add (pv 1) pe_int) pa_nil)) (blkOk_by (own := [("floor", 3)]) (N := sc_sum_of_N) (sc := defScope s_sum_of) (by decide +kernel)) (fun _ _ _ _ _ => pg_name (i := 3) sc_sum_of.nd rfl (Or.inl rfl)) (fun _ _ _ _ _ => pts_nil) (fun _ _ _ _ _ => (pe_callB (cLen K) (by rfl) T.z_len (by decide +kernel) (pa_cons (pe_f (E := E0) C_walk hr (by omega) pz0 (pa_cons (pv 0) (pa_cons (pv 3) pa_nil))) pa_nil)))) pa_nil))))), ?_⟩)
  rintro ds r ⟨t, f', k, rfl, hd, rfl⟩
  show GS K E _ [some (.dat t.d), some (.dat (.int f')), some (.dat (.int k)), none] _ _
  have q : ∀ r, R_looked C_NoCase C_NoPlan [t.d, .int f', .int k] r → GE K E _ [some (.dat t.d), some (.dat (.int f')), some (.dat (.int k)), none] r := fun r h => GE.call (R := R_looked C_NoCase C_NoPlan) (GA.cons (GE.var (i := 0) rfl) (GA.cons (GE.var (i := 1) rfl) (GA.cons (GE.var (i := 2) rfl) GA.nil))) h
  by_cases hb : badT f' k = true
  · rw [if_pos hb]
    exact GS.seq (GS.dropX (q _ ⟨t, f', k, rfl, hd, by rw [if_pos hb]⟩))
  · rw [if_neg hb]
    obtain ⟨_, n', t', rfl, rfl, h1, h2, h3⟩ := badT_no hb
    cases e : wv t 0 n' t' with
    | none => exact GS.seq (GS.dropX (q _ ⟨t, _, _, rfl, hd, by rw [if_neg hb, e]; rfl⟩))
    | some v =>
      refine GS.seq (GS.drop (d := .int v) (q _ ⟨t, _, _, rfl, hd, by rw [if_neg hb, e]; rfl⟩) ?_)
      refine GS.retD (GE.to (GE.sum (ns := (List.range (n' + 1)).map fun i : Nat => ((wk t (0 + i)).length : Int)) (GE.to (GE.lcR1 (E' := E0) (fun _ => true) (fun i => .int ((wk t (0 + (i : Int))).length : Int)) (hi := (n' : Int) + 1) (GA.cons (GE.op (GE.var rfl) GE.int rd_int) GA.nil) (by omega) (fun i hi => GT.yes) fun i hi _ => ?_) ?_) (.new _)) ?_)
      · exact GE.to (GE.len (GE.call (GA.cons (GE.var rfl) (GA.cons (GE.var rfl) GA.nil)) ⟨t, _, rfl, hd, rfl⟩) (.ls (.new _))) (by rw [List.length_map, Int.zero_add])
      · rw [given_all, List.map_map, show ((n' : Int) + 1).toNat = n' + 1 by omega]
        rfl
      · rw [sumL_list]
        rfl
theorem ok_law_cell_at {f : Addr} {fd : FuncData} (F : Fun K "_law_cell_at" "_law_cell_at" s_law_cell_at f fd) (hm : mg "_law_cell_at" = some (.ref f)) (b : Binds K fd ["script", "k"] []) : Fn P w K mg base 1 "_law_cell_at" R_cell := by
  refine ok_fn F sc_law_cell_at hm b (fun ds r ⟨ns, k, e, _⟩ => by subst e; rfl) (fun cdv A outer s H E hr => ⟨_, (pss_cons (ps_if (pt_cmpR op_lt (pv 1) (pe_callB (cLen K) (by rfl) T.z_len (by decide +kernel) (pa_cons (pv 0) pa_nil)) (nomark _)) (pss_one (ps_ret (pe_ix (ixL K) (pv 0) (pv 1) (fun _ _ => rfl)))) pss_nil)
      (pss_one (ps_ret pe_int))), ?_⟩)
  rintro ds r ⟨ns, k, rfl, rfl⟩
  show GS K E _ [some (.dat (.list (ns.map .int))), some (.dat (.int k))] _ _
  refine GS.seq (GS.ifs (b := decide (k < ns.length)) ((GT.test (GE.op (GE.var rfl) (GE.len (GE.var rfl) (.ls (.ok _))) rd_bl)).to ?_) (fun hb => ?_) fun hb => ?_)
  · rw [List.length_map]
    exact decide_eq_decide.mpr (by omega)
  · have h := of_decide_eq_true hb
    exact GS.retD (GE.ixL (GE.var rfl) (.ok _) (GE.var rfl) (cell_in h))
  · have h := of_decide_eq_false hb
    refine GS.next (GS.retD ?_)
    rw [cell_out (by omega)]
    exact GE.int
theorem ok_law_tree_n (C_law_cell_at : Fn P w K mg base 1 "_law_cell_at" R_cell) {f : Addr} {fd : FuncData} (F : Fun K "_law_tree" "_law_tree" s_law_tree f fd) (hm : mg "_law_tree" = some (.ref f)) (b : Binds K fd ["script", "at", "low", "high", "things"] []) : ∀ n : Nat, Fn P w K mg base (1 + n) "_law_tree" (R_ltree n)
  | 0 => by
    have z : Fn P w K mg base 0 "_law_tree" (R_ltree 0) := fn_none F hm b fun ds r ⟨_, _, _, _, _, _, _, _, _, _, _, _, h, _⟩ => by omega
    exact z.up (by omega)
  | n + 1 => by
    have C_law_tree := ok_law_tree_n C_law_cell_at F hm b n
    refine ok_fn (k := 1 + n) F sc_law_tree hm b (fun ds r ⟨_, _, _, _, _, _, _, _, e, _⟩ => by subst e; rfl) (fun cdv A outer s H E hr => ⟨_, (pss_cons (ps_if (pt_cmpR op_eq (pv 2) (pv 3) (nomark _)) (pss_one (ps_ret (pe_tup (pa_cons pe_str (pa_cons (pv 2) pa_nil))))) pss_nil)
      (pss_cons (ps_set (i := 5) sc_law_tree.nd rfl (Or.inl rfl) (pe_op op_fdiv (pe_f (E := E) C_law_cell_at hr (by omega) (fun σ => passAt (takes_of rfl rfl rfl rfl) σ) (pa_cons (pv 0) (pa_cons (pe_op op_add (pv 1) (pe_op op_mod (pe_op op_add (pe_op op_mul pe_int (pv 2)) (pe_op op_mul pe_int (pv 3))) pe_int)) pa_nil))) (pe_op op_add pe_int (pv 4))))
      (pss_cons (ps_set (i := 6) sc_law_tree.nd rfl (Or.inl rfl) (pe_op op_add (pe_op op_add (pv 2) pe_int) (pe_op op_mod (pv 5) (pe_op op_sub (pv 3) (pv 2)))))
      (pss_cons (ps_if (pt_cmpR op_eq (pv 4) pe_int (nomark _)) (pss_one (ps_set (i := 6) sc_law_tree.nd rfl (Or.inl rfl) (pe_op op_add (pv 2) pe_int))) pss_nil)
      (pss_cons (ps_set (i := 7) sc_law_tree.nd rfl (Or.inl rfl) (pe_f (E := E) C_law_tree hr (by omega) (fun σ => passAt (takes_of rfl rfl rfl rfl) σ) (pa_cons (pv 0) (pa_cons (pv 1) (pa_cons (pv 2) (pa_cons (pe_op op_sub (pv 6) pe_int) (pa_cons (pe_op op_sub (pv 4) pe_int) pa_nil)))))))
      (pss_one (ps_ret (pe_tup (pa_cons pe_str (pa_cons (pv 6) (pa_cons (pv 7) (pa_cons (pe_f (E := E) C_law_tree hr (by omega) (fun σ => passAt (takes_of rfl rfl rfl rfl) σ) (pa_cons (pv 0) (pa_cons (pv 1) (pa_cons (pv 6) (pa_cons (pv 3) (pa_cons (pv 4) pa_nil)))))) pa_nil)))))))))))), ?_⟩)
    rintro ds r ⟨ns, at_, lo, s, k, a, b', c, rfl, rfl, rfl, rfl, hsn, hs, hk, h0, rfl⟩
    show GS K E _ [some (.dat (.list (ns.map .int))), some (.dat (.int at_)), some (.dat (.int lo)), some (.dat (.int ((lo : Int) + s))), some (.dat (.int k)), none, none, none] _ _
    refine GS.seq (GS.ifs (b := decide ((lo : Int) = (lo : Int) + s)) (GT.test (GE.op (GE.var rfl) (GE.var rfl) rd_eqI)) (fun hb => ?_) fun hb => GS.next ?_)
    · have hz : s = 0 := by have := of_decide_eq_true hb; omega
      subst hz
      rw [drT_0]
      exact GS.retD (GE.tup (GA.cons GE.str (GA.cons (GE.var rfl) GA.nil)) (by simp))
    · have hz : s ≠ 0 := by have := of_decide_eq_false hb; omega
      have hk1 : 1 ≤ k := by omega
      have h1 := dR_pos ns at_ lo s k
      have h2 := dR_le (ns := ns) (at_ := at_) (lo := lo) (k := k) hz
      have h3 := dR_left (ns := ns) (at_ := at_) (lo := lo) (s := s) hk1
      refine GS.seq (GS.asg (d := .int (cell ns (at_ + (7 * lo + 3 * (lo + s)) % 40) / (1 + (k : Int)))) (GE.op (GE.call (ds := [.list (ns.map .int), .int ((at_ + (7 * lo + 3 * (lo + s)) % 40 : Nat) : Int)]) (GA.cons (GE.var rfl) (GA.cons (GE.to (GE.op (GE.var rfl) (GE.op (GE.op (GE.op GE.int (GE.var rfl) (rd_intC (.inl (by decide)))) (GE.op GE.int (GE.var rfl) (rd_intC (.inl (by decide)))) rd_int) GE.int (rd_intC (by decide))) rd_int) (congrArg (fun z => Rs.ok (.int z)) (by omega))) GA.nil)) ⟨ns, _, rfl, rfl⟩) (GE.op GE.int (GE.var rfl) rd_int) (rd_intC ⟨by omega, by omega⟩)) ?_)
      refine GS.seq (GS.asg (d := .int ((lo : Int) + 1 + cell ns (at_ + (7 * lo + 3 * (lo + s)) % 40) / (1 + (k : Int)) % (s : Int))) (GE.to (GE.op (GE.op (GE.var rfl) GE.int rd_int) (GE.op (GE.var rfl) (GE.op (GE.var rfl) (GE.var rfl) rd_int) (rd_intC (by omega))) rd_int) (by rw [show (lo : Int) + s - lo = (s : Int) by omega])) ?_)
      refine GS.seq (GS.mono (Nx := fun ρ' => ∃ x, ρ' = [some (.dat (.list (ns.map .int))), some (.dat (.int at_)), some (.dat (.int lo)), some (.dat (.int ((lo : Int) + s))), some (.dat (.int k)), x, some (.dat (.int ((lo + dR ns at_ lo s k : Nat) : Int))), none]) (GS.ifs (b := decide ((k : Int) = 1)) (GT.test (GE.op (GE.var rfl) GE.int rd_eqI)) (fun hb => ?_) fun hb => ?_) ?_)
      · have e : dR ns at_ lo s k = 1 := if_pos (by have := of_decide_eq_true hb; omega)
        exact GS.asg (d := .int ((lo + dR ns at_ lo s k : Nat) : Int)) (GE.to (GE.op (GE.var rfl) GE.int rd_int) (congrArg (fun z => Rs.ok (.int z)) (by rw [e]; omega))) ⟨_, rfl⟩
      · have e : dR ns at_ lo s k = _ := if_neg (by have := of_decide_eq_false hb; omega)
        have hp := Int.emod_nonneg (cell ns (at_ + (7 * lo + 3 * (lo + s)) % 40) / (1 + (k : Int))) (show (s : Int) ≠ 0 by omega)
        refine GS.next ⟨some (.dat (.int (cell ns (at_ + (7 * lo + 3 * (lo + s)) % 40) / (1 + (k : Int))))), ?_⟩
        rw [e, show ((lo + (1 + (cell ns (at_ + (7 * lo + 3 * (lo + s)) % 40) / (1 + (k : Int)) % (s : Int)).toNat) : Nat) : Int) = (lo : Int) + 1 + cell ns (at_ + (7 * lo + 3 * (lo + s)) % 40) / (1 + (k : Int)) % (s : Int) by omega]
        rfl
      · rintro ρ' ⟨x, rfl⟩
        refine GS.seq (GS.asg (d := (drT ns at_ lo (dR ns at_ lo s k - 1) (k - 1)).d) (GE.call (GA.cons (GE.var rfl) (GA.cons (GE.var rfl) (GA.cons (GE.var rfl) (GA.cons (GE.op (GE.var rfl) GE.int rd_int) (GA.cons (GE.op (GE.var rfl) GE.int rd_int) GA.nil))))) ⟨ns, at_, lo, dR ns at_ lo s k - 1, k - 1, _, _, _, rfl, rfl, by omega, by omega, by omega, by omega, by omega, h3, rfl⟩) ?_)
        rw [drT_s hz]
        exact GS.retD (GE.tup (GA.cons GE.str (GA.cons (GE.var rfl) (GA.cons (GE.var rfl) (GA.cons (GE.call (GA.cons (GE.var rfl) (GA.cons (GE.var rfl) (GA.cons (GE.var rfl) (GA.cons (GE.var rfl) (GA.cons (GE.var rfl) GA.nil))))) ⟨ns, at_, lo + dR ns at_ lo s k, s - dR ns at_ lo s k, k, _, _, _, rfl, rfl, by omega, rfl, by omega, by omega, hk, .inr hk1, rfl⟩) GA.nil)))) (by simp))
theorem ok_law_tree (C_law_cell_at : Fn P w K mg base 1 "_law_cell_at" R_cell) {f : Addr} {fd : FuncData} (F : Fun K "_law_tree" "_law_tree" s_law_tree f fd) (hm : mg "_law_tree" = some (.ref f)) (b : Binds K fd ["script", "at", "low", "high", "things"] []) : Fn P w K mg base 65 "_law_tree" (R_ltree 64) := ok_law_tree_n T C_law_cell_at F hm b 64
theorem ok_law_which {f : Addr} {fd : FuncData} (F : Fun K "_law_which" "_law_which" s_law_which f fd) (hm : mg "_law_which" = some (.ref f)) (b : Binds K fd ["e"] []) : FnW P w K mg base "_law_which" (Wh K C_NoCase C_NoPlan C_NoFloor C_BadLine) := by
  refine fnW_mk F sc_law_which rfl hm b fun cdv A outer s H E p D ds hz hf hW => ?_
  obtain ⟨hE, b1, b2, b3, b4, b5, h1, h2, h3, h4, h5, rfl⟩ := hW
  refine ⟨_, (pss_cons (ps_set (i := 1) sc_law_which.nd rfl (Or.inl rfl) (pe_lst (pa_cons (pe_callB (isE hE hz hf (List.mem_singleton.mpr rfl)) (by rfl) T.z_isinstance (by decide +kernel) (pa_cons (pv 0) (pa_cons (pe_gl (.ref C_NoCase) ⟨_, T.e_NoCase.g, rfl⟩) pa_nil))) (pa_cons (pe_callB (isE hE hz hf (List.mem_singleton.mpr rfl)) (by rfl) T.z_isinstance (by decide +kernel) (pa_cons (pv 0) (pa_cons (pe_gl (.ref C_NoPlan) ⟨_, T.e_NoPlan.g, rfl⟩) pa_nil))) (pa_cons (pe_callB (isE hE hz hf (List.mem_singleton.mpr rfl)) (by rfl) T.z_isinstance (by decide +kernel) (pa_cons (pv 0) (pa_cons (pe_gl (.ref C_NoFloor) ⟨_, T.e_NoFloor.g, rfl⟩) pa_nil))) (pa_cons (pe_callB (isE hE hz hf (List.mem_singleton.mpr rfl)) (by rfl) T.z_isinstance (by decide +kernel) (pa_cons (pv 0) (pa_cons (pe_gl (.ref C_BadLine) ⟨_, T.e_BadLine.g, rfl⟩) pa_nil))) pa_nil))))))
      (pss_one (ps_ret (pe_op op_cat (pv 1) (pe_lst (pa_cons (pe_callB (isE hE hz hf (List.mem_singleton.mpr rfl)) (by rfl) T.z_isinstance (by decide +kernel) (pa_cons (pv 0) (pa_cons (pe_bltn (v := .ty "ValueError") (by rfl) T.z_ValueError (by decide +kernel) rfl) pa_nil))) pa_nil)))))), ?_⟩
  refine GS.seq (GS.asgN (ds := [.bool b1, .bool b2, .bool b3, .bool b4]) (GE.lst (GA.cons (GE.isE rfl (fun u h => h) h1) (GA.cons (GE.isE rfl (fun u h => h) h2) (GA.cons (GE.isE rfl (fun u h => h) h3) (GA.cons (GE.isE rfl (fun u h => h) h4) GA.nil)))) (by simp)) ?_)
  exact GS.retN (GE.cat (ds := [.bool b1, .bool b2, .bool b3, .bool b4]) (es := [.bool b5]) (GE.own rfl) (.ali _) (GE.lst (GA.cons (GE.isE rfl (fun u h => h) h5) GA.nil) (by simp)) (.new _) (by simp))
theorem ok_law_asked (C_S_init : FnMk P w K mg base 2 C_Search (spIX K C_NoCase)) (C_fewest : Fn P w K mg base 2 "fewest" (R_fewest C_NoCase)) (C_choices : Fn P w K mg base 3 "choices" (R_choices C_NoCase)) (C_plan : Fn P w K mg base 3 "plan" (R_planX C_NoCase)) (C_looked : Fn P w K mg base 101 "looked" (R_looked C_NoCase C_NoPlan)) (C_walked : Fn P w K mg base 102 "walked" (R_walked C_NoCase C_NoPlan C_NoFloor)) (C_least_sum : Fn P w K mg base 3 "least_sum" (R_least C_NoCase)) (C_sum_plan : Fn P w K mg base 3 "sum_plan" (R_planX C_NoCase)) (C_sum_of : Fn P w K mg base 102 "sum_of" (R_sumof C_NoCase C_NoPlan)) (C_reach : Fn P w K mg base 2 "reach" (R_reach C_NoCase)) {f : Addr} {fd : FuncData} (F : Fun K "_law_asked" "_law_asked" s_law_asked f fd) (hm : mg "_law_asked" = some (.ref f)) (b : Binds K fd ["way", "floors", "things", "tree", "floor"] []) : Fn P w K mg base 103 "_law_asked" (R_asked13 C_NoCase C_NoPlan C_NoFloor) := by
  refine ok_fn F sc_law_asked hm b (fun ds r ⟨_, _, _, _, _, _, e, _⟩ => by subst e; rfl) (fun cdv A outer s H E hr => ⟨_, (pss_one (ps_if (pt_cmpR op_eq (pv 0) pe_int (nomark _)) (pss_one (ps_expr (pe_f (E := E) C_fewest hr (by omega) (fun σ => passAt (takes_of rfl rfl rfl rfl) σ) (pa_cons (pv 1) (pa_cons (pv 2) pa_nil))))) (pss_one (ps_if (pt_cmpR op_eq (pv 0) pe_int (nomark _)) (pss_one (ps_expr (pe_f (E := E) C_choices hr (by omega) (fun σ => passAt (takes_of rfl rfl rfl rfl) σ) (pa_cons (pv 1) (pa_cons (pv 2) pa_nil))))) (pss_one (ps_if (pt_cmpR op_eq (pv 0) pe_int (nomark _)) (pss_one (ps_expr (pe_mk (E := E) C_S_init T.g_Search hr (by omega) (passes_call (takes_of rfl rfl rfl rfl) (fun _ _ _ _ h => h)) (pa_cons (pv 1) (pa_cons (pv 2) pa_nil))))) (pss_one (ps_if (pt_cmpR op_eq (pv 0) pe_int (nomark _)) (pss_one (ps_expr (pe_f (E := E) C_plan hr (by omega) (fun σ => passAt (takes_of rfl rfl rfl rfl) σ) (pa_cons (pv 1) (pa_cons (pv 2) pa_nil))))) (pss_one (ps_if (pt_cmpR op_eq (pv 0) pe_int (nomark _)) (pss_one (ps_expr (pe_f (E := E) C_looked hr (by omega) (fun σ => passAt (takes_of rfl rfl rfl rfl) σ) (pa_cons (pv 3) (pa_cons (pv 1) (pa_cons (pv 2) pa_nil)))))) (pss_one (ps_if (pt_cmpR op_eq (pv 0) pe_int (nomark _)) (pss_one (ps_expr (pe_f (E := E) C_walked hr (by omega) (fun σ => passAt (takes_of rfl rfl rfl rfl) σ) (pa_cons (pv 3) (pa_cons (pv 1) (pa_cons (pv 2) (pa_cons (pv 4) pa_nil))))))) (pss_one (ps_if (pt_cmpR op_eq (pv 0) pe_int (nomark _)) (pss_one (ps_expr (pe_f (E := E) C_least_sum hr (by omega) (fun σ => passAt (takes_of rfl rfl rfl rfl) σ) (pa_cons (pv 1) (pa_cons (pv 2) pa_nil))))) (pss_one (ps_if (pt_cmpR op_eq (pv 0) pe_int (nomark _)) (pss_one (ps_expr (pe_f (E := E) C_sum_plan hr (by omega) (fun σ => passAt (takes_of rfl rfl rfl rfl) σ) (pa_cons (pv 1) (pa_cons (pv 2) pa_nil))))) (pss_one (ps_if (pt_cmpR op_eq (pv 0) pe_int (nomark _)) (pss_one (ps_expr (pe_f (E := E) C_sum_of hr (by omega) (fun σ => passAt (takes_of rfl rfl rfl rfl) σ) (pa_cons (pv 3) (pa_cons (pv 1) (pa_cons (pv 2) pa_nil)))))) (pss_one (ps_expr (pe_f (E := E) C_reach hr (by omega) (fun σ => passAt (takes_of rfl rfl rfl rfl) σ) (pa_cons (pv 2) (pa_cons (pv 1) pa_nil))))))))))))))))))))))), ?_⟩)
  rintro ds r ⟨way, f', k, fl, t, i, rfl, hd, hbad, rfl⟩
  show GS K E _ [some (.dat (.int way)), some (.dat (.int f')), some (.dat (.int k)), some (.dat t.d), some (.dat (.int fl))] _ _
  have two := fun (E : XK) => GA.cons (K := K) (E := E) (GE.var (ρ := [some (.dat (.int way)), some (.dat (.int f')), some (.dat (.int k)), some (.dat t.d), some (.dat (.int fl))]) (i := 1) rfl) (GA.cons (GE.var (i := 2) rfl) GA.nil)
  have ev : ∀ c : Int, GT K E (tTest (tOp rEq (tVar 0) (tC (.int c)))) [some (.dat (.int way)), some (.dat (.int f')), some (.dat (.int k)), some (.dat t.d), some (.dat (.int fl))] (decide (way = c)) := fun c => GT.test (GE.op (GE.var rfl) GE.int rd_eqI)
  have c0 : 0 ≤ way → way ≤ 2 → badA f' k = true ∧ i = 0 := fun h0 h2 => by
    rcases hbad with ⟨e, h | h | h⟩ | ⟨e, h, _⟩ | ⟨e, h, _⟩
    · exact ⟨h.2.2, e⟩
    all_goals omega
  have c3 : way = 3 ∨ way = 6 ∨ way = 7 → badT f' k = true ∧ i = 0 := fun h0 => by
    rcases hbad with ⟨e, h | h | h⟩ | ⟨e, h, _⟩ | ⟨e, h, _⟩
    · omega
    · exact ⟨h.2.2, e⟩
    all_goals omega
  have c9 : ¬ (0 ≤ way ∧ way ≤ 8) → badR k f' = true ∧ i = 0 := fun h0 => by
    rcases hbad with ⟨e, h | h | h⟩ | ⟨e, h, _⟩ | ⟨e, h, _⟩
    · omega
    · omega
    · exact ⟨h.2, e⟩
    all_goals omega
  refine GS.ifs (ev 0) (fun hb => ?_) fun n0 => GS.ifs (ev 1) (fun hb => ?_) fun n1 => GS.ifs (ev 2) (fun hb => ?_) fun n2 => GS.ifs (ev 3) (fun hb => ?_) fun n3 => GS.ifs (ev 4) (fun hb => ?_) fun n4 => GS.ifs (ev 5) (fun hb => ?_) fun n5 => GS.ifs (ev 6) (fun hb => ?_) fun n6 => GS.ifs (ev 7) (fun hb => ?_) fun n7 => GS.ifs (ev 8) (fun hb => ?_) fun n8 => ?_
  · have e := of_decide_eq_true hb
    obtain ⟨h, rfl⟩ := c0 (by omega) (by omega)
    exact GS.dropX (GE.call (two _) ⟨f', k, rfl, by rw [if_pos h]; rfl⟩)
  · have e := of_decide_eq_true hb
    obtain ⟨h, rfl⟩ := c0 (by omega) (by omega)
    exact GS.dropX (GE.call (two _) ⟨f', k, rfl, by rw [if_pos h]; rfl⟩)
  · have e := of_decide_eq_true hb
    obtain ⟨h, rfl⟩ := c0 (by omega) (by omega)
    exact GS.dropMkX (two _) h
  · have e := of_decide_eq_true hb
    obtain ⟨h, rfl⟩ := c3 (by omega)
    exact GS.dropX (GE.call (two _) ⟨f', k, rfl, h, rfl⟩)
  · have e := of_decide_eq_true hb
    refine GS.dropX (GE.call (GA.cons (GE.var rfl) (two _)) ⟨t, f', k, rfl, hd, ?_⟩)
    rcases hbad with ⟨rfl, h | h | h⟩ | ⟨rfl, _, h, h'⟩ | ⟨_, h, _⟩
    · omega
    · rw [if_pos h.2.2]; rfl
    · omega
    · rw [if_neg (by rw [h]; decide), h']; rfl
    · omega
  · have e := of_decide_eq_true hb
    refine GS.dropX (GE.call (GA.cons (GE.var rfl) (GA.cons (GE.var rfl) (GA.cons (GE.var rfl) (GA.cons (GE.var rfl) GA.nil)))) ⟨t, f', k, fl, rfl, hd, ?_⟩)
    rcases hbad with ⟨rfl, h | h | h⟩ | ⟨rfl, _, h, h'⟩ | ⟨rfl, _, h, hfl, v, h'⟩
    · omega
    · rw [if_pos h.2.2]; rfl
    · omega
    · rw [if_neg (by rw [h]; decide), h']; rfl
    · rw [if_neg (by rw [h]; decide), h']
      exact (if_pos hfl).symm
  · have e := of_decide_eq_true hb
    obtain ⟨h, rfl⟩ := c3 (by omega)
    exact GS.dropX (GE.call (two _) ⟨f', k, rfl, by rw [if_pos h]; rfl⟩)
  · have e := of_decide_eq_true hb
    obtain ⟨h, rfl⟩ := c3 (by omega)
    exact GS.dropX (GE.call (two _) ⟨f', k, rfl, h, rfl⟩)
  · have e := of_decide_eq_true hb
    refine GS.dropX (GE.call (GA.cons (GE.var rfl) (two _)) ⟨t, f', k, rfl, hd, ?_⟩)
    rcases hbad with ⟨rfl, h | h | h⟩ | ⟨rfl, _, h, h'⟩ | ⟨_, h, _⟩
    · omega
    · rw [if_pos h.2.2]; rfl
    · omega
    · rw [if_neg (by rw [h]; decide), h']; rfl
    · omega
  · have h0 := of_decide_eq_false n0
    have h1 := of_decide_eq_false n1
    have h2 := of_decide_eq_false n2
    have h3 := of_decide_eq_false n3
    have h4 := of_decide_eq_false n4
    have h5 := of_decide_eq_false n5
    have h6 := of_decide_eq_false n6
    have h7 := of_decide_eq_false n7
    have h8 := of_decide_eq_false n8
    obtain ⟨h, rfl⟩ := c9 (by omega)
    exact GS.dropX (GE.call (GA.cons (GE.var rfl) (GA.cons (GE.var rfl) GA.nil)) ⟨k, f', rfl, by rw [if_pos h]; rfl⟩)
theorem ok_law_told (C_law_which : FnW P w K mg base "_law_which" (Wh K C_NoCase C_NoPlan C_NoFloor C_BadLine)) (C_law_asked : Fn P w K mg base 103 "_law_asked" (R_asked13 C_NoCase C_NoPlan C_NoFloor)) {f : Addr} {fd : FuncData} (F : Fun K "_law_told" "_law_told" s_law_told f fd) (hm : mg "_law_told" = some (.ref f)) (b : Binds K fd ["way", "floors", "things", "tree", "floor"] []) : Fn P w K mg base 104 "_law_told" (R_told13 wd_) := by
  refine ok_fn F sc_law_told hm b (fun ds r ⟨_, _, _, _, _, _, e, _⟩ => by subst e; rfl) (fun cdv A outer s H E hr => ⟨_, (pss_cons (ps_set (i := 5) sc_law_told.nd rfl (Or.inl rfl) (pe_lst pa_nil))
      (pss_cons (ps_tryA (i := 6) K rfl rfl sc_law_told.nd rfl rfl ⟨rfl, by decide, Or.inl T.e_FloorError.g⟩ (takes_of rfl rfl rfl rfl) (fun W pn xe tk ps => (pss_one (ps_expr (pe_fW C_law_asked hr (by omega) tk (pa_cons (pv 0) (pa_cons (pv 1) (pa_cons (pv 2) (pa_cons (pv 3) (pa_cons (pv 4) pa_nil))))))))) (fun a oe cls d pn hz hf => (pss_one (ps_set (i := 5) sc_law_told.nd rfl (Or.inl rfl) (pe_which (i := 6) C_law_which hz hf hr (by omega) (pa_cons (pv 6) pa_nil))))))
      (pss_one (ps_ret (pv 5))))), ?_⟩)
  rintro ds r ⟨way, f', k, fl, t, i, rfl, hd, hbad, rfl⟩
  show GS K E _ [some (.dat (.int way)), some (.dat (.int f')), some (.dat (.int k)), some (.dat t.d), some (.dat (.int fl)), none, none] _ _
  refine GS.seq (GS.asgN (ds := []) (GE.lst GA.nil (by simp)) ?_)
  have hi : i = 0 ∨ i = 1 ∨ i = 2 := by
    rcases hbad with ⟨h, _⟩ | ⟨h, _⟩ | ⟨h, _⟩ <;> omega
  have hw : ∀ C, some (pickC C_NoCase C_NoPlan C_NoFloor i) = some C → PySem.W.exmOne K (.ref C) (.ref C_FloorError) = some true ∧ Wh K C_NoCase C_NoPlan C_NoFloor C_BadLine C (wd_ i) := fun C e => by
    cases e
    rcases hi with rfl | rfl | rfl
    · exact ⟨T.xf_NoCase, wh_NoCase T⟩
    · exact ⟨T.xf_NoPlan, wh_NoPlan T⟩
    · exact ⟨T.xf_NoFloor, wh_NoFloor T⟩
  refine GS.seq (GS.mono (Nx := fun ρ' => ρ' = [some (.dat (.int way)), some (.dat (.int f')), some (.dat (.int k)), some (.dat t.d), some (.dat (.int fl)), some (.own (wd_ i)), none]) (GS.tryAs (some (pickC C_NoCase C_NoPlan C_NoFloor i)) (GB.drop (E' := E0) (GA.cons (GE.var rfl) (GA.cons (GE.var rfl) (GA.cons (GE.var rfl) (GA.cons (GE.var rfl) (GA.cons (GE.var rfl) GA.nil))))) ⟨way, f', k, fl, t, i, rfl, hd, hbad, rfl⟩ rfl fun q => nomatch q) fun C q => ⟨(hw C q).1, fun a => GS.asgWhich (hw C q).2 rfl rfl⟩) ?_)
  rintro ρ' rfl
  exact GS.retOwn rfl
theorem ok_law (C_law_cell_at : Fn P w K mg base 1 "_law_cell_at" R_cell) (C_law_tree : Fn P w K mg base 65 "_law_tree" (R_ltree 64)) (C_law_told : Fn P w K mg base 104 "_law_told" (R_told13 wd_)) {f : Addr} {fd : FuncData} (F : Fun K "law" "law" s_law f fd) : FnOk P w K mg base (L2.CX P w) 105 f fd ["script"] (spR K RLaw) := by
  refine ok_fnk F sc_law (fun ds r ⟨ns, e, _⟩ => by subst e; rfl) (fun cdv A outer s H E hr => ⟨_, (pss_cons (ps_set (i := 1) sc_law.nd rfl (Or.inl rfl) (pe_op op_add pe_int (pe_op op_mod (pe_f (E := E) C_law_cell_at hr (by omega) (fun σ => passAt (takes_of rfl rfl rfl rfl) σ) (pa_cons (pv 0) (pa_cons pe_int pa_nil))) pe_int)))
      (pss_cons (ps_set (i := 2) sc_law.nd rfl (Or.inl rfl) (pe_op op_add pe_int (pe_op op_mod (pe_f (E := E) C_law_cell_at hr (by omega) (fun σ => passAt (takes_of rfl rfl rfl rfl) σ) (pa_cons (pv 0) (pa_cons pe_int pa_nil))) pe_int)))
      (pss_cons (ps_set (i := 3) sc_law.nd rfl (Or.inl rfl) (pe_f (E := E) C_law_tree hr (by omega) (fun σ => passAt (takes_of rfl rfl rfl rfl) σ) (pa_cons (pv 0) (pa_cons pe_int (pa_cons pe_int (pa_cons (pv 1) (pa_cons (pv 2) pa_nil)))))))
      (pss_cons (ps_set (i := 4) sc_law.nd rfl (Or.inl rfl) (pe_op op_mod (pe_f (E := E) C_law_cell_at hr (by omega) (fun σ => passAt (takes_of rfl rfl rfl rfl) σ) (pa_cons (pv 0) (pa_cons pe_int pa_nil))) pe_int))
      (pss_cons (ps_set (i := 5) sc_law.nd rfl (Or.inl rfl) (pe_op op_mod (pe_f (E := E) C_law_cell_at hr (by omega) (fun σ => passAt (takes_of rfl rfl rfl rfl) σ) (pa_cons (pv 0) (pa_cons pe_int pa_nil))) pe_int))
      (pss_cons (ps_set (i := 6) sc_law.nd rfl (Or.inl rfl) (pe_op op_mod (pe_f (E := E) C_law_cell_at hr (by omega) (fun σ => passAt (takes_of rfl rfl rfl rfl) σ) (pa_cons (pv 0) (pa_cons pe_int pa_nil))) (pe_op op_pow pe_int pe_int)))
      (pss_cons (ps_set (i := 7) sc_law.nd rfl (Or.inl rfl) (pe_ix (ixL K) (pe_lst (pa_cons pe_int (pa_cons pe_int (pa_cons pe_int (pa_cons pe_int (pa_cons pe_int (pa_cons pe_int (pa_cons pe_int (pa_cons pe_int (pa_cons pe_int (pa_cons pe_int pa_nil))))))))))) (pv 4) (fun _ _ => rfl)))
      (pss_cons (ps_set (i := 8) sc_law.nd rfl (Or.inl rfl) (pe_ix (ixL K) (pe_lst (pa_cons (pe_un un_neg pe_int) (pa_cons (pe_op op_add (pv 1) pe_int) (pa_cons (pe_op op_sub (pe_un un_neg pe_int) (pv 6)) (pa_cons (pe_op op_add (pe_op op_add (pv 1) pe_int) (pv 6)) pa_nil))))) (pe_op op_mod (pe_f (E := E) C_law_cell_at hr (by omega) (fun σ => passAt (takes_of rfl rfl rfl rfl) σ) (pa_cons (pv 0) (pa_cons pe_int pa_nil))) pe_int) (fun _ _ => rfl)))
      (pss_cons (ps_set (i := 9) sc_law.nd rfl (Or.inl rfl) (pe_op op_add (pe_op op_add (pv 1) pe_int) (pe_op op_mod (pe_f (E := E) C_law_cell_at hr (by omega) (fun σ => passAt (takes_of rfl rfl rfl rfl) σ) (pa_cons (pv 0) (pa_cons pe_int pa_nil))) pe_int)))
      (pss_cons (ps_if (pt_cmpR op_lt (pv 5) pe_int (nomark _)) (pss_cons (ps_set (i := 10) sc_law.nd rfl (Or.inl rfl) (pe_ix (ixL K) (pe_ix (ixL K) (pe_lst (pa_cons (pe_lst (pa_cons (pe_un un_neg pe_int) (pa_cons (pe_op op_sub (pe_un un_neg pe_int) (pv 6)) pa_nil))) (pa_cons (pe_lst (pa_cons (pe_op op_add (pv 7) pe_int) (pa_cons (pe_op op_add (pe_op op_add (pv 7) pe_int) (pv 6)) pa_nil))) pa_nil))) (pv 5) (fun _ _ => rfl)) (pe_op op_mod (pv 6) pe_int) (fun _ _ => rfl)))
      (pss_one (ps_ret (pe_cmpR (oEqD K hr.units) (pe_f (E := E) C_law_told hr (by omega) (fun σ => passAt (takes_of rfl rfl rfl rfl) σ) (pa_cons (pv 4) (pa_cons (pv 10) (pa_cons (pv 2) (pa_cons (pv 3) (pa_cons (pv 8) pa_nil)))))) (pe_lst (pa_cons pe_bl (pa_cons pe_bl (pa_cons pe_bl (pa_cons pe_bl (pa_cons pe_bl pa_nil)))))) (nomark _))))) pss_nil)
      (pss_cons (ps_if (pt_cmpR op_eq (pv 5) pe_int (nomark _)) (pss_cons (ps_set (i := 10) sc_law.nd rfl (Or.inl rfl) (pe_ix (ixL K) (pe_lst (pa_cons (pe_un un_neg pe_int) (pa_cons pe_int (pa_cons (pe_op op_sub (pe_un un_neg pe_int) (pv 6)) (pa_cons (pe_op op_add pe_int (pv 6)) pa_nil))))) (pe_op op_mod (pe_op op_fdiv (pe_f (E := E) C_law_cell_at hr (by omega) (fun σ => passAt (takes_of rfl rfl rfl rfl) σ) (pa_cons (pv 0) (pa_cons pe_int pa_nil))) pe_int) pe_int) (fun _ _ => rfl)))
      (pss_one (ps_ret (pe_cmpR (oEqD K hr.units) (pe_f (E := E) C_law_told hr (by omega) (fun σ => passAt (takes_of rfl rfl rfl rfl) σ) (pa_cons (pv 4) (pa_cons (pv 1) (pa_cons (pv 10) (pa_cons (pv 3) (pa_cons (pv 8) pa_nil)))))) (pe_lst (pa_cons pe_bl (pa_cons pe_bl (pa_cons pe_bl (pa_cons pe_bl (pa_cons pe_bl pa_nil)))))) (nomark _))))) pss_nil)
      (pss_cons (ps_if (pt_cmpR op_eq (pv 5) pe_int (nomark _)) (pss_one (ps_ret (pe_cmpR (oEqD K hr.units) (pe_f (E := E) C_law_told hr (by omega) (fun σ => passAt (takes_of rfl rfl rfl rfl) σ) (pa_cons (pe_op op_mod (pv 4) pe_int) (pa_cons (pv 1) (pa_cons pe_int (pa_cons (pv 3) (pa_cons (pv 8) pa_nil)))))) (pe_lst (pa_cons pe_bl (pa_cons pe_bl (pa_cons pe_bl (pa_cons pe_bl (pa_cons pe_bl pa_nil)))))) (nomark _)))) pss_nil)
      (pss_cons (ps_if (pt_cmpR op_eq (pv 5) pe_int (nomark _)) (pss_one (ps_ret (pe_cmpR (oEqD K hr.units) (pe_f (E := E) C_law_told hr (by omega) (fun σ => passAt (takes_of rfl rfl rfl rfl) σ) (pa_cons (pe_ix (ixL K) (pe_lst (pa_cons pe_int (pa_cons pe_int (pa_cons pe_int pa_nil)))) (pe_op op_mod (pv 4) pe_int) (fun _ _ => rfl)) (pa_cons (pv 9) (pa_cons (pv 2) (pa_cons (pv 3) (pa_cons (pv 8) pa_nil)))))) (pe_lst (pa_cons pe_bl (pa_cons pe_bl (pa_cons pe_bl (pa_cons pe_bl (pa_cons pe_bl pa_nil)))))) (nomark _)))) pss_nil)
      (pss_one (ps_ret (pe_cmpR (oEqD K hr.units) (pe_f (E := E) C_law_told hr (by omega) (fun σ => passAt (takes_of rfl rfl rfl rfl) σ) (pa_cons pe_int (pa_cons (pv 1) (pa_cons (pv 2) (pa_cons (pv 3) (pa_cons (pv 8) pa_nil)))))) (pe_lst (pa_cons pe_bl (pa_cons pe_bl (pa_cons pe_bl (pa_cons pe_bl (pa_cons pe_bl pa_nil)))))) (nomark _))))))))))))))))), ?_⟩)
  rintro ds r ⟨ns, rfl, hl, rfl⟩
  show GS K E _ [some (.dat (.list (ns.map .int))), none, none, none, none, none, none, none, none, none, none] _ _
  obtain ⟨f0, hf, ef⟩ := mod_nat (cell ns 0) (m := 20) (by decide)
  obtain ⟨k0, hk0, ek⟩ := mod_nat (cell ns 1) (m := 6) (by decide)
  obtain ⟨way, hw10, ew⟩ := mod_nat (cell ns 2) (m := 10) (by decide)
  obtain ⟨kind, hk6, ekd⟩ := mod_nat (cell ns 3) (m := 6) (by decide)
  obtain ⟨f', hf', hf1, hf20⟩ : ∃ k : Nat, (1 : Int) + (f0 : Int) = k ∧ 1 ≤ k ∧ k ≤ 20 := ⟨1 + f0, by omega, by omega, by omega⟩
  obtain ⟨k, hk, hk1, hkm⟩ : ∃ k : Nat, (1 : Int) + (k0 : Int) = k ∧ 1 ≤ k ∧ k ≤ 6 := ⟨1 + k0, by omega, by omega, by omega⟩
  refine GS.seq (GS.asg (d := .int f') (GE.to (GE.op GE.int (GE.op (GE.call (GA.cons (GE.var rfl) (GA.cons GE.int GA.nil)) ⟨ns, 0, rfl, rfl⟩) GE.int (rd_intC (by decide))) rd_int) (by rw [ef, hf'])) ?_)
  refine GS.seq (GS.asg (d := .int k) (GE.to (GE.op GE.int (GE.op (GE.call (GA.cons (GE.var rfl) (GA.cons GE.int GA.nil)) ⟨ns, 1, rfl, rfl⟩) GE.int (rd_intC (by decide))) rd_int) (by rw [ek, hk])) ?_)
  have hdep := drT_dep ns 10 f' 0 k
  obtain ⟨v, hwv⟩ := drT_wv ns 10 f' 0 k (f' : Int) (.inr hk1) (by omega)
  have hwv : wv (drT ns 10 0 f' k) 0 f' k = some v := hwv
  refine GS.seq (GS.asg (d := (drT ns 10 0 f' k).d) (GE.call (GA.cons (GE.var rfl) (GA.cons GE.int (GA.cons GE.int (GA.cons (GE.var rfl) (GA.cons (GE.var rfl) GA.nil))))) ⟨ns, 10, 0, f', k, _, _, _, rfl, rfl, by omega, rfl, by omega, by omega, by omega, .inr hk1, rfl⟩) ?_)
  generalize drT ns 10 0 f' k = t at hdep hwv ⊢
  refine GS.seq (GS.asg (d := .int way) (GE.to (GE.op (GE.call (GA.cons (GE.var rfl) (GA.cons GE.int GA.nil)) ⟨ns, 2, rfl, rfl⟩) GE.int (rd_intC (by decide))) (by rw [ew])) ?_)
  refine GS.seq (GS.asg (d := .int kind) (GE.to (GE.op (GE.call (GA.cons (GE.var rfl) (GA.cons GE.int GA.nil)) ⟨ns, 3, rfl, rfl⟩) GE.int (rd_intC (by decide))) (by rw [ekd])) ?_)
  have hfar : 0 ≤ cell ns 4 % 10 ^ 39 := Int.emod_nonneg _ (by decide +kernel)
  obtain ⟨far, efar, hfar⟩ : ∃ far : Int, cell ns 4 % 10 ^ 39 = far ∧ 0 ≤ far := ⟨_, rfl, hfar⟩
  refine GS.seq (GS.asg (d := .int far) (GE.to (GE.op (GE.call (GA.cons (GE.var rfl) (GA.cons GE.int GA.nil)) ⟨ns, 4, rfl, rfl⟩) (GE.op GE.int GE.int (rd_intC ⟨by decide, by decide, by decide +kernel⟩)) (rd_intC (by decide +kernel))) (congrArg (fun z => Rs.ok (.int z)) efar)) ?_)
  have hmost : atI [PyData.int 1000, .int 1000, .int 1000, .int 60, .int 60, .int 60, .int 60, .int 60, .int 60, .int 200] (way : Int) = some (.int (mostW way)) := by
    have : way = 0 ∨ way = 1 ∨ way = 2 ∨ way = 3 ∨ way = 4 ∨ way = 5 ∨ way = 6 ∨ way = 7 ∨ way = 8 ∨ way = 9 := by omega
    rcases this with rfl | rfl | rfl | rfl | rfl | rfl | rfl | rfl | rfl | rfl <;> rfl
  refine GS.seq (GS.asg (d := .int (mostW way)) (GE.ixL (GE.lst (GA.cons GE.int (GA.cons GE.int (GA.cons GE.int (GA.cons GE.int (GA.cons GE.int (GA.cons GE.int (GA.cons GE.int (GA.cons GE.int (GA.cons GE.int (GA.cons GE.int GA.nil)))))))))) (by simp)) (.new _) (GE.var rfl) hmost) ?_)
  obtain ⟨m5, hm5, em5⟩ := mod_nat (cell ns 5) (m := 4) (by decide)
  obtain ⟨fl, efl, hfl⟩ : ∃ fl : Int, atI [PyData.int (-1), .int ((f' : Int) + 1), .int (-1 - far), .int ((f' : Int) + 1 + far)] (cell ns 5 % 4) = some (.int fl) ∧ (fl < 0 ∨ (f' : Int) < fl) := by
    rw [em5]
    have : m5 = 0 ∨ m5 = 1 ∨ m5 = 2 ∨ m5 = 3 := by omega
    rcases this with rfl | rfl | rfl | rfl
    · exact ⟨_, rfl, by omega⟩
    · exact ⟨_, rfl, by omega⟩
    · exact ⟨_, rfl, by omega⟩
    · exact ⟨_, rfl, by omega⟩
  refine GS.seq (GS.asg (d := .int fl) (GE.ixL (GE.lst (GA.cons (GE.un GE.int) (GA.cons (GE.op (GE.var rfl) GE.int rd_int) (GA.cons (GE.op (GE.un GE.int) (GE.var rfl) rd_int) (GA.cons (GE.op (GE.op (GE.var rfl) GE.int rd_int) (GE.var rfl) rd_int) GA.nil)))) (by simp)) (.new _) (GE.op (GE.call (GA.cons (GE.var rfl) (GA.cons GE.int GA.nil)) ⟨ns, 5, rfl, rfl⟩) GE.int (rd_intC (by decide))) efl) ?_)
  obtain ⟨o, ho, eo⟩ := mod_nat (cell ns 6) (m := 10) (by decide)
  refine GS.seq (GS.asg (d := .int ((f' + 1 + o : Nat) : Int)) (GE.to (GE.op (GE.op (GE.var rfl) GE.int rd_int) (GE.op (GE.call (GA.cons (GE.var rfl) (GA.cons GE.int GA.nil)) ⟨ns, 6, rfl, rfl⟩) GE.int (rd_intC (by decide))) rd_int) (by rw [eo]; exact congrArg (fun z => Rs.ok (.int z)) (by omega))) ?_)
  have sh : ∀ i, SeqAt.shaped (.list (wd_ i)) = true := fun i => sh_bools [decide (i = 0), decide (i = 1), decide (i = 2), decide (i = 3), true]
  have eqs : ∀ i, Rs.ok (.bool (PyData.eqv (.list (wd_ i)) (.list (wd_ i)))) = .ok (.bool true) := fun i => by rw [eqv_self (sh i)]
  have fin5 : ∀ {ρ : Rho} (i : Nat), GE K E (tLst (tCons (tC (.bl (decide (i = 0)))) (tCons (tC (.bl (decide (i = 1)))) (tCons (tC (.bl (decide (i = 2)))) (tCons (tC (.bl (decide (i = 3)))) (tCons (tC (.bl true)) tNil)))))) ρ (.new (wd_ i)) := fun i => GE.lst (GA.cons GE.bool (GA.cons GE.bool (GA.cons GE.bool (GA.cons GE.bool (GA.cons GE.bool GA.nil))))) (show 5 ≤ 1000 by omega)
  have tw : ∀ (w1 f1 k1 : Int) (i : Nat), Bad w1 f1 k1 t fl i → R_told13 wd_ [.int w1, .int f1, .int k1, t.d, .int fl] (.new (wd_ i)) := fun w1 f1 k1 i hb => ⟨w1, f1, k1, fl, t, i, rfl, by omega, hb, rfl⟩
  obtain ⟨f2, hf2, ef2⟩ := mod_nat far (m := 2) (by decide)
  refine GS.seq (GS.ifs (b := decide ((kind : Int) < 2)) (GT.test (GE.op (GE.var rfl) GE.int rd_bl)) (fun hb => ?_) fun hb2 => GS.next ?_)
  · have hb := of_decide_eq_true hb
    obtain ⟨g, eg, hg⟩ : ∃ g : Int, atI [if (kind : Int) = 0 then PyData.int (-1) else .int (mostW way + 1), if (kind : Int) = 0 then PyData.int (-1 - far) else .int (mostW way + 1 + far)] (far % 2) = some (.int g) ∧ (g < 0 ∨ mostW way < g) := by
      rw [picks _ _ (by omega) (by omega)]
      by_cases a : (kind : Int) = 0
      · rw [if_pos a, if_pos a]
        split
        · exact ⟨_, rfl, by omega⟩
        · exact ⟨_, rfl, by omega⟩
      · rw [if_neg a, if_neg a]
        split
        · exact ⟨_, rfl, by omega⟩
        · exact ⟨_, rfl, by omega⟩
    have e1 : atI [PyData.list [.int (-1), .int (-1 - far)], .list [.int (mostW way + 1), .int (mostW way + 1 + far)]] (kind : Int) = some (.list [if (kind : Int) = 0 then PyData.int (-1) else .int (mostW way + 1), if (kind : Int) = 0 then PyData.int (-1 - far) else .int (mostW way + 1 + far)]) := by
      rw [picks _ _ (by omega) (by omega)]
      split <;> rfl
    refine GS.seq (GS.asg (d := .int g) (GE.ixL (GE.ixL (GE.lst (GA.cons (GE.frz (GE.lst (GA.cons (GE.un GE.int) (GA.cons (GE.op (GE.un GE.int) (GE.var rfl) rd_int) GA.nil)) (by simp))) (GA.cons (GE.frz (GE.lst (GA.cons (GE.op (GE.var rfl) GE.int rd_int) (GA.cons (GE.op (GE.op (GE.var rfl) GE.int rd_int) (GE.var rfl) rd_int) GA.nil)) (by simp))) GA.nil)) (by simp)) (.new _) (GE.var rfl) e1) (.ok _) (GE.op (GE.var rfl) GE.int (rd_intC (by decide))) eg) ?_)
    exact GS.retD (GE.to (GE.opH (GE.call (GA.cons (GE.var rfl) (GA.cons (GE.var rfl) (GA.cons (GE.var rfl) (GA.cons (GE.var rfl) (GA.cons (GE.var rfl) GA.nil))))) (tw way g k 0 (.inl ⟨rfl, badC_f (by omega) (by omega) hg⟩))) (.new _) (fin5 0) (.new _) (rh_eq (sh 0) (sh 0))) (eqs 0))
  refine GS.seq (GS.ifs (b := decide ((kind : Int) = 2)) (GT.test (GE.op (GE.var rfl) GE.int rd_eqI)) (fun hb => ?_) fun hb3 => GS.next ?_)
  · obtain ⟨m, hm4, em⟩ := mod_nat (cell ns 5 / 4) (m := 4) (by decide)
    obtain ⟨g, eg, hg⟩ : ∃ g : Int, atI [PyData.int (-1), .int 13, .int (-1 - far), .int (13 + far)] (cell ns 5 / 4 % 4) = some (.int g) ∧ (g < 0 ∨ 12 < g) := by
      rw [em]
      have : m = 0 ∨ m = 1 ∨ m = 2 ∨ m = 3 := by omega
      rcases this with rfl | rfl | rfl | rfl
      · exact ⟨_, rfl, by omega⟩
      · exact ⟨_, rfl, by omega⟩
      · exact ⟨_, rfl, by omega⟩
      · exact ⟨_, rfl, by omega⟩
    refine GS.seq (GS.asg (d := .int g) (GE.ixL (GE.lst (GA.cons (GE.un GE.int) (GA.cons GE.int (GA.cons (GE.op (GE.un GE.int) (GE.var rfl) rd_int) (GA.cons (GE.op GE.int (GE.var rfl) rd_int) GA.nil)))) (by simp)) (.new _) (GE.op (GE.op (GE.call (GA.cons (GE.var rfl) (GA.cons GE.int GA.nil)) ⟨ns, 5, rfl, rfl⟩) GE.int (rd_intC ⟨by decide, by decide⟩)) GE.int (rd_intC (by decide))) eg) ?_)
    exact GS.retD (GE.to (GE.opH (GE.call (GA.cons (GE.var rfl) (GA.cons (GE.var rfl) (GA.cons (GE.var rfl) (GA.cons (GE.var rfl) (GA.cons (GE.var rfl) GA.nil))))) (tw way f' g 0 (.inl ⟨rfl, badC_k (by omega) (by omega) hg⟩))) (.new _) (fin5 0) (.new _) (rh_eq (sh 0) (sh 0))) (eqs 0))
  refine GS.seq (GS.ifs (b := decide ((kind : Int) = 3)) (GT.test (GE.op (GE.var rfl) GE.int rd_eqI)) (fun hb => ?_) fun hb4 => GS.next ?_)
  · obtain ⟨m, hm9, em⟩ := mod_nat (way : Int) (m := 9) (by decide)
    exact GS.retD (GE.to (GE.opH (GE.call (GA.cons (GE.op (GE.var rfl) GE.int (rd_intC (by decide))) (GA.cons (GE.var rfl) (GA.cons GE.int (GA.cons (GE.var rfl) (GA.cons (GE.var rfl) GA.nil))))) (tw ((way : Int) % 9) f' 0 0 (.inl ⟨rfl, badC_0 (by omega) (by omega) (by omega)⟩))) (.new _) (fin5 0) (.new _) (rh_eq (sh 0) (sh 0))) (eqs 0))
  refine GS.seq (GS.ifs (b := decide ((kind : Int) = 4)) (GT.test (GE.op (GE.var rfl) GE.int rd_eqI)) (fun hb => ?_) fun hb5 => GS.next ?_)
  · obtain ⟨m, hm3, em⟩ := mod_nat (way : Int) (m := 3) (by decide)
    obtain ⟨g, eg, hg⟩ : ∃ g : Int, atI [PyData.int 4, .int 5, .int 8] ((way : Int) % 3) = some (.int g) ∧ (g = 4 ∨ g = 5 ∨ g = 8) := by
      rw [em]
      have : m = 0 ∨ m = 1 ∨ m = 2 := by omega
      rcases this with rfl | rfl | rfl
      · exact ⟨_, rfl, by omega⟩
      · exact ⟨_, rfl, by omega⟩
      · exact ⟨_, rfl, by omega⟩
    have hno : wv t 0 ((f' + 1 + o : Nat) : Int) k = none := by
      cases e : wv t 0 ((f' + 1 + o : Nat) : Int) k with
      | none => rfl
      | some v' =>
        have := wv_one t _ _ _ _ _ _ _ hwv e
        omega
    exact GS.retD (GE.to (GE.opH (GE.call (GA.cons (GE.ixL (GE.lst (GA.cons GE.int (GA.cons GE.int (GA.cons GE.int GA.nil))) (by simp)) (.new _) (GE.op (GE.var rfl) GE.int (rd_intC (by decide))) eg) (GA.cons (GE.var rfl) (GA.cons (GE.var rfl) (GA.cons (GE.var rfl) (GA.cons (GE.var rfl) GA.nil))))) (tw g ((f' + 1 + o : Nat) : Int) k 1 (.inr (.inl ⟨rfl, hg, badT_fine (by omega) (by omega) (.inr hk1), hno⟩)))) (.new _) (fin5 1) (.new _) (rh_eq (sh 1) (sh 1))) (eqs 1))
  exact GS.retD (GE.to (GE.opH (GE.call (GA.cons GE.int (GA.cons (GE.var rfl) (GA.cons (GE.var rfl) (GA.cons (GE.var rfl) (GA.cons (GE.var rfl) GA.nil))))) (tw 5 f' k 2 (.inr (.inr ⟨rfl, rfl, badT_fine (by omega) (by omega) (.inr hk1), hfl, v, hwv⟩)))) (.new _) (fin5 2) (.new _) (rh_eq (sh 2) (sh 2))) (eqs 2))
end
theorem all_mk {P : Program} {w : World} {K : PySem.W.Frag} {h : Heap} {mg : Str → Option Value} {fa f0 f1 f2 f3 f4 f5 f6 f7 f8 f9 f10 f11 f12 f13 f14 f15 f16 f17 f18 f19 f20 f21 f22 f23 f24 f25 f26 f27 f28 f29 f30 f31 f32 C_FloorError C_NoCase C_NoPlan C_NoFloor C_BadLine C_Search : Addr} (X : K.In h) (G : h.Ns mainGlobals mg) (hfa : mg "law" = some (.ref fa))
    {od0 an0 od1 an1 od2 an2 od3 an3 od4 an4 od5 an5 od6 an6 od7 an7 od8 an8 od9 an9 od10 an10 od11 an11 od12 an12 od13 an13 od14 an14 od15 an15 od16 an16 od17 an17 od18 an18 od19 an19 od20 an20 od21 an21 od22 an22 od23 an23 od24 an24 od25 an25 od26 an26 od27 an27 od28 an28 od29 an29 od30 an30 od31 an31 od32 an32 : Option Addr} {sl0 sl1 sl2 sl3 sl4 sl5 sl6 sl7 sl8 sl9 sl10 sl11 sl12 sl13 sl14 sl15 sl16 sl17 sl18 sl19 sl20 sl21 sl22 sl23 sl24 sl25 sl26 sl27 sl28 sl29 sl30 sl31 sl32 : Array (Option Value)} {oc0 kV0 dc0 pm0 cd0 ct0 oc1 kV1 dc1 pm1 cd1 ct1 oc2 kV2 dc2 pm2 cd2 ct2 oc3 kV3 dc3 pm3 cd3 ct3 oc4 kV4 dc4 pm4 cd4 ct4 oc5 kV5 dc5 pm5 cd5 ct5 oc6 kV6 dc6 pm6 cd6 ct6 oc7 kV7 dc7 pm7 cd7 ct7 oc8 kV8 dc8 pm8 cd8 ct8 oc9 kV9 dc9 pm9 cd9 ct9 oc10 kV10 dc10 pm10 cd10 ct10 oc11 kV11 dc11 pm11 cd11 ct11 oc12 kV12 dc12 pm12 cd12 ct12 oc13 kV13 dc13 pm13 cd13 ct13 oc14 kV14 dc14 pm14 cd14 ct14 oc15 kV15 dc15 pm15 cd15 ct15 oc16 kV16 dc16 pm16 cd16 ct16 oc17 kV17 dc17 pm17 cd17 ct17 oc18 kV18 dc18 pm18 cd18 ct18 oc19 kV19 dc19 pm19 cd19 ct19 oc20 kV20 dc20 pm20 cd20 ct20 oc21 kV21 dc21 pm21 cd21 ct21 oc22 kV22 dc22 pm22 cd22 ct22 oc23 kV23 dc23 pm23 cd23 ct23 oc24 kV24 dc24 pm24 cd24 ct24 oc25 kV25 dc25 pm25 cd25 ct25 oc26 kV26 dc26 pm26 cd26 ct26 oc27 kV27 dc27 pm27 cd27 ct27 oc28 kV28 dc28 pm28 cd28 ct28 oc29 kV29 dc29 pm29 cd29 ct29 oc30 kV30 dc30 pm30 cd30 ct30 oc31 kV31 dc31 pm31 cd31 ct31 oc32 kV32 dc32 pm32 cd32 ct32 : Value} {t_MOST_DROPS t_MOST_FLOORS t_MOST_THINGS t_MOST_TREE : Tok}
    (a0 : PySem.W.nsIn K mainGlobals "_wall" = some (some (.ref f0))) (l0 : K.lookup f0 = some ⟨oc0, od0, .func (PySem.W.fnOf "_wall" "_wall" (defArgs s_wall) (defBody s_wall) (defScope s_wall) .none kV0 dc0 pm0 an0 cd0 ct0), sl0⟩) (c0 : PySem.W.codeIn K cd0 "_wall" = true) (k0 : PySem.W.keepIn K (.ref f0) = true)
    (a1 : PySem.W.nsIn K mainGlobals "ask" = some (some (.ref f1))) (l1 : K.lookup f1 = some ⟨oc1, od1, .func (PySem.W.fnOf "ask" "ask" (defArgs s_ask) (defBody s_ask) (defScope s_ask) .none kV1 dc1 pm1 an1 cd1 ct1), sl1⟩) (c1 : PySem.W.codeIn K cd1 "ask" = true) (k1 : PySem.W.keepIn K (.ref f1) = true)
    (a2 : PySem.W.nsIn K mainGlobals "rows" = some (some (.ref f2))) (l2 : K.lookup f2 = some ⟨oc2, od2, .func (PySem.W.fnOf "rows" "rows" (defArgs s_rows) (defBody s_rows) (defScope s_rows) .none kV2 dc2 pm2 an2 cd2 ct2), sl2⟩) (c2 : PySem.W.codeIn K cd2 "rows" = true) (k2 : PySem.W.keepIn K (.ref f2) = true)
    (a3 : PySem.W.nsIn K mainGlobals "reach" = some (some (.ref f3))) (l3 : K.lookup f3 = some ⟨oc3, od3, .func (PySem.W.fnOf "reach" "reach" (defArgs s_reach) (defBody s_reach) (defScope s_reach) .none kV3 dc3 pm3 an3 cd3 ct3), sl3⟩) (c3 : PySem.W.codeIn K cd3 "reach" = true) (k3 : PySem.W.keepIn K (.ref f3) = true)
    (a4 : PySem.W.nsIn K mainGlobals "needed" = some (some (.ref f4))) (l4 : K.lookup f4 = some ⟨oc4, od4, .func (PySem.W.fnOf "needed" "needed" (defArgs s_needed) (defBody s_needed) (defScope s_needed) .none kV4 dc4 pm4 an4 cd4 ct4), sl4⟩) (c4 : PySem.W.codeIn K cd4 "needed" = true) (k4 : PySem.W.keepIn K (.ref f4) = true)
    (a5 : PySem.W.nsIn K mainGlobals "fewest" = some (some (.ref f5))) (l5 : K.lookup f5 = some ⟨oc5, od5, .func (PySem.W.fnOf "fewest" "fewest" (defArgs s_fewest) (defBody s_fewest) (defScope s_fewest) .none kV5 dc5 pm5 an5 cd5 ct5), sl5⟩) (c5 : PySem.W.codeIn K cd5 "fewest" = true) (k5 : PySem.W.keepIn K (.ref f5) = true)
    (a6 : PySem.W.nsIn K mainGlobals "first_drops" = some (some (.ref f6))) (l6 : K.lookup f6 = some ⟨oc6, od6, .func (PySem.W.fnOf "first_drops" "first_drops" (defArgs s_first_drops) (defBody s_first_drops) (defScope s_first_drops) .none kV6 dc6 pm6 an6 cd6 ct6), sl6⟩) (c6 : PySem.W.codeIn K cd6 "first_drops" = true) (k6 : PySem.W.keepIn K (.ref f6) = true)
    (a7 : PySem.W.nsIn K mainGlobals "choices" = some (some (.ref f7))) (l7 : K.lookup f7 = some ⟨oc7, od7, .func (PySem.W.fnOf "choices" "choices" (defArgs s_choices) (defBody s_choices) (defScope s_choices) .none kV7 dc7 pm7 an7 cd7 ct7), sl7⟩) (c7 : PySem.W.codeIn K cd7 "choices" = true) (k7 : PySem.W.keepIn K (.ref f7) = true)
    (a8 : PySem.W.nsIn K mainGlobals "ask_tree" = some (some (.ref f8))) (l8 : K.lookup f8 = some ⟨oc8, od8, .func (PySem.W.fnOf "ask_tree" "ask_tree" (defArgs s_ask_tree) (defBody s_ask_tree) (defScope s_ask_tree) .none kV8 dc8 pm8 an8 cd8 ct8), sl8⟩) (c8 : PySem.W.codeIn K cd8 "ask_tree" = true) (k8 : PySem.W.keepIn K (.ref f8) = true)
    (a9 : PySem.W.nsIn K mainGlobals "grown_plans" = some (some (.ref f9))) (l9 : K.lookup f9 = some ⟨oc9, od9, .func (PySem.W.fnOf "grown" "grown" (defArgs s_grown) (defBody s_grown) (defScope s_grown) .none kV9 dc9 pm9 an9 cd9 ct9), sl9⟩) (c9 : PySem.W.codeIn K cd9 "grown" = true) (k9 : PySem.W.keepIn K (.ref f9) = true)
    (a10 : PySem.W.nsIn K mainGlobals "plan" = some (some (.ref f10))) (l10 : K.lookup f10 = some ⟨oc10, od10, .func (PySem.W.fnOf "plan" "plan" (defArgs s_plan) (defBody s_plan) (defScope s_plan) .none kV10 dc10 pm10 an10 cd10 ct10), sl10⟩) (c10 : PySem.W.codeIn K cd10 "plan" = true) (k10 : PySem.W.keepIn K (.ref f10) = true)
    (a11 : PySem.W.nsIn K mainGlobals "worst" = some (some (.ref f11))) (l11 : K.lookup f11 = some ⟨oc11, od11, .func (PySem.W.fnOf "worst" "worst" (defArgs s_worst) (defBody s_worst) (defScope s_worst) .none kV11 dc11 pm11 an11 cd11 ct11), sl11⟩) (c11 : PySem.W.codeIn K cd11 "worst" = true) (k11 : PySem.W.keepIn K (.ref f11) = true)
    (a12 : PySem.W.nsIn K mainGlobals "looked" = some (some (.ref f12))) (l12 : K.lookup f12 = some ⟨oc12, od12, .func (PySem.W.fnOf "looked" "looked" (defArgs s_looked) (defBody s_looked) (defScope s_looked) .none kV12 dc12 pm12 an12 cd12 ct12), sl12⟩) (c12 : PySem.W.codeIn K cd12 "looked" = true) (k12 : PySem.W.keepIn K (.ref f12) = true)
    (a13 : PySem.W.nsIn K mainGlobals "walk" = some (some (.ref f13))) (l13 : K.lookup f13 = some ⟨oc13, od13, .func (PySem.W.fnOf "walk" "walk" (defArgs s_walk) (defBody s_walk) (defScope s_walk) .none kV13 dc13 pm13 an13 cd13 ct13), sl13⟩) (c13 : PySem.W.codeIn K cd13 "walk" = true) (k13 : PySem.W.keepIn K (.ref f13) = true)
    (a14 : PySem.W.nsIn K mainGlobals "walked" = some (some (.ref f14))) (l14 : K.lookup f14 = some ⟨oc14, od14, .func (PySem.W.fnOf "walked" "walked" (defArgs s_walked) (defBody s_walked) (defScope s_walked) .none kV14 dc14 pm14 an14 cd14 ct14), sl14⟩) (c14 : PySem.W.codeIn K cd14 "walked" = true) (k14 : PySem.W.keepIn K (.ref f14) = true)
    (a15 : PySem.W.findIn K (.ref C_Search) "__init__" = some (some (.ref f15))) (i15 : PySem.W.isFn K (.ref f15) = true) (l15 : K.lookup f15 = some ⟨oc15, od15, .func (PySem.W.fnOf "__init__" "Search.__init__" (defArgs s_S_init) (defBody s_S_init) (defScope s_S_init) .none kV15 dc15 pm15 an15 cd15 ct15), sl15⟩) (c15 : PySem.W.codeIn K cd15 "Search.__init__" = true) (k15 : PySem.W.keepIn K (.ref f15) = true)
    (a16 : PySem.W.findIn K (.ref C_Search) "dropped" = some (some (.ref f16))) (i16 : PySem.W.isFn K (.ref f16) = true) (l16 : K.lookup f16 = some ⟨oc16, od16, .func (PySem.W.fnOf "dropped" "Search.dropped" (defArgs s_S_dropped) (defBody s_S_dropped) (defScope s_S_dropped) .none kV16 dc16 pm16 an16 cd16 ct16), sl16⟩) (c16 : PySem.W.codeIn K cd16 "Search.dropped" = true) (k16 : PySem.W.keepIn K (.ref f16) = true)
    (a17 : PySem.W.findIn K (.ref C_Search) "span" = some (some (.ref f17))) (i17 : PySem.W.isFn K (.ref f17) = true) (l17 : K.lookup f17 = some ⟨oc17, od17, .func (PySem.W.fnOf "span" "Search.span" (defArgs s_S_span) (defBody s_S_span) (defScope s_S_span) .none kV17 dc17 pm17 an17 cd17 ct17), sl17⟩) (c17 : PySem.W.codeIn K cd17 "Search.span" = true) (k17 : PySem.W.keepIn K (.ref f17) = true)
    (a18 : PySem.W.findIn K (.ref C_Search) "left" = some (some (.ref f18))) (i18 : PySem.W.isFn K (.ref f18) = true) (l18 : K.lookup f18 = some ⟨oc18, od18, .func (PySem.W.fnOf "left" "Search.left" (defArgs s_S_left) (defBody s_S_left) (defScope s_S_left) .none kV18 dc18 pm18 an18 cd18 ct18), sl18⟩) (c18 : PySem.W.codeIn K cd18 "Search.left" = true) (k18 : PySem.W.keepIn K (.ref f18) = true)
    (a19 : PySem.W.findIn K (.ref C_Search) "drops" = some (some (.ref f19))) (i19 : PySem.W.isFn K (.ref f19) = true) (l19 : K.lookup f19 = some ⟨oc19, od19, .func (PySem.W.fnOf "drops" "Search.drops" (defArgs s_S_drops) (defBody s_S_drops) (defScope s_S_drops) .none kV19 dc19 pm19 an19 cd19 ct19), sl19⟩) (c19 : PySem.W.codeIn K cd19 "Search.drops" = true) (k19 : PySem.W.keepIn K (.ref f19) = true)
    (a20 : PySem.W.findIn K (.ref C_Search) "need" = some (some (.ref f20))) (i20 : PySem.W.isFn K (.ref f20) = true) (l20 : K.lookup f20 = some ⟨oc20, od20, .func (PySem.W.fnOf "need" "Search.need" (defArgs s_S_need) (defBody s_S_need) (defScope s_S_need) .none kV20 dc20 pm20 an20 cd20 ct20), sl20⟩) (c20 : PySem.W.codeIn K cd20 "Search.need" = true) (k20 : PySem.W.keepIn K (.ref f20) = true)
    (a21 : PySem.W.findIn K (.ref C_Search) "advice" = some (some (.ref f21))) (i21 : PySem.W.isFn K (.ref f21) = true) (l21 : K.lookup f21 = some ⟨oc21, od21, .func (PySem.W.fnOf "advice" "Search.advice" (defArgs s_S_advice) (defBody s_S_advice) (defScope s_S_advice) .none kV21 dc21 pm21 an21 cd21 ct21), sl21⟩) (c21 : PySem.W.codeIn K cd21 "Search.advice" = true) (k21 : PySem.W.keepIn K (.ref f21) = true)
    (a22 : PySem.W.nsIn K mainGlobals "tables" = some (some (.ref f22))) (l22 : K.lookup f22 = some ⟨oc22, od22, .func (PySem.W.fnOf "tables" "tables" (defArgs s_tables) (defBody s_tables) (defScope s_tables) .none kV22 dc22 pm22 an22 cd22 ct22), sl22⟩) (c22 : PySem.W.codeIn K cd22 "tables" = true) (k22 : PySem.W.keepIn K (.ref f22) = true)
    (a23 : PySem.W.nsIn K mainGlobals "least_sum" = some (some (.ref f23))) (l23 : K.lookup f23 = some ⟨oc23, od23, .func (PySem.W.fnOf "least_sum" "least_sum" (defArgs s_least_sum) (defBody s_least_sum) (defScope s_least_sum) .none kV23 dc23 pm23 an23 cd23 ct23), sl23⟩) (c23 : PySem.W.codeIn K cd23 "least_sum" = true) (k23 : PySem.W.keepIn K (.ref f23) = true)
    (a24 : PySem.W.nsIn K mainGlobals "grown_sums" = some (some (.ref f24))) (l24 : K.lookup f24 = some ⟨oc24, od24, .func (PySem.W.fnOf "grown" "grown" (defArgs s_grown2) (defBody s_grown2) (defScope s_grown2) .none kV24 dc24 pm24 an24 cd24 ct24), sl24⟩) (c24 : PySem.W.codeIn K cd24 "grown" = true) (k24 : PySem.W.keepIn K (.ref f24) = true)
    (a25 : PySem.W.nsIn K mainGlobals "sum_plan" = some (some (.ref f25))) (l25 : K.lookup f25 = some ⟨oc25, od25, .func (PySem.W.fnOf "sum_plan" "sum_plan" (defArgs s_sum_plan) (defBody s_sum_plan) (defScope s_sum_plan) .none kV25 dc25 pm25 an25 cd25 ct25), sl25⟩) (c25 : PySem.W.codeIn K cd25 "sum_plan" = true) (k25 : PySem.W.keepIn K (.ref f25) = true)
    (a26 : PySem.W.nsIn K mainGlobals "sum_of" = some (some (.ref f26))) (l26 : K.lookup f26 = some ⟨oc26, od26, .func (PySem.W.fnOf "sum_of" "sum_of" (defArgs s_sum_of) (defBody s_sum_of) (defScope s_sum_of) .none kV26 dc26 pm26 an26 cd26 ct26), sl26⟩) (c26 : PySem.W.codeIn K cd26 "sum_of" = true) (k26 : PySem.W.keepIn K (.ref f26) = true)
    (a27 : PySem.W.nsIn K mainGlobals "_law_cell_at" = some (some (.ref f27))) (l27 : K.lookup f27 = some ⟨oc27, od27, .func (PySem.W.fnOf "_law_cell_at" "_law_cell_at" (defArgs s_law_cell_at) (defBody s_law_cell_at) (defScope s_law_cell_at) .none kV27 dc27 pm27 an27 cd27 ct27), sl27⟩) (c27 : PySem.W.codeIn K cd27 "_law_cell_at" = true) (k27 : PySem.W.keepIn K (.ref f27) = true)
    (a28 : PySem.W.nsIn K mainGlobals "_law_tree" = some (some (.ref f28))) (l28 : K.lookup f28 = some ⟨oc28, od28, .func (PySem.W.fnOf "_law_tree" "_law_tree" (defArgs s_law_tree) (defBody s_law_tree) (defScope s_law_tree) .none kV28 dc28 pm28 an28 cd28 ct28), sl28⟩) (c28 : PySem.W.codeIn K cd28 "_law_tree" = true) (k28 : PySem.W.keepIn K (.ref f28) = true)
    (a29 : PySem.W.nsIn K mainGlobals "_law_which" = some (some (.ref f29))) (l29 : K.lookup f29 = some ⟨oc29, od29, .func (PySem.W.fnOf "_law_which" "_law_which" (defArgs s_law_which) (defBody s_law_which) (defScope s_law_which) .none kV29 dc29 pm29 an29 cd29 ct29), sl29⟩) (c29 : PySem.W.codeIn K cd29 "_law_which" = true) (k29 : PySem.W.keepIn K (.ref f29) = true)
    (a30 : PySem.W.nsIn K mainGlobals "_law_asked" = some (some (.ref f30))) (l30 : K.lookup f30 = some ⟨oc30, od30, .func (PySem.W.fnOf "_law_asked" "_law_asked" (defArgs s_law_asked) (defBody s_law_asked) (defScope s_law_asked) .none kV30 dc30 pm30 an30 cd30 ct30), sl30⟩) (c30 : PySem.W.codeIn K cd30 "_law_asked" = true) (k30 : PySem.W.keepIn K (.ref f30) = true)
    (a31 : PySem.W.nsIn K mainGlobals "_law_told" = some (some (.ref f31))) (l31 : K.lookup f31 = some ⟨oc31, od31, .func (PySem.W.fnOf "_law_told" "_law_told" (defArgs s_law_told) (defBody s_law_told) (defScope s_law_told) .none kV31 dc31 pm31 an31 cd31 ct31), sl31⟩) (c31 : PySem.W.codeIn K cd31 "_law_told" = true) (k31 : PySem.W.keepIn K (.ref f31) = true)
    (a32 : PySem.W.nsIn K mainGlobals "law" = some (some (.ref f32))) (l32 : K.lookup f32 = some ⟨oc32, od32, .func (PySem.W.fnOf "law" "law" (defArgs s_law) (defBody s_law) (defScope s_law) .none kV32 dc32 pm32 an32 cd32 ct32), sl32⟩) (c32 : PySem.W.codeIn K cd32 "law" = true) (k32 : PySem.W.keepIn K (.ref f32) = true)
    (z_ValueError : PySem.W.nsIn K mainGlobals "ValueError" = some none)
    (z_isinstance : PySem.W.nsIn K mainGlobals "isinstance" = some none)
    (z_len : PySem.W.nsIn K mainGlobals "len" = some none)
    (z_list : PySem.W.nsIn K mainGlobals "list" = some none)
    (z_max : PySem.W.nsIn K mainGlobals "max" = some none)
    (z_min : PySem.W.nsIn K mainGlobals "min" = some none)
    (z_range : PySem.W.nsIn K mainGlobals "range" = some none)
    (z_sum : PySem.W.nsIn K mainGlobals "sum" = some none)
    (m_MOST_DROPS : PySem.W.nsIn K mainGlobals "MOST_DROPS" = some (some (.int 200 t_MOST_DROPS)))
    (m_MOST_FLOORS : PySem.W.nsIn K mainGlobals "MOST_FLOORS" = some (some (.int 1000 t_MOST_FLOORS)))
    (m_MOST_THINGS : PySem.W.nsIn K mainGlobals "MOST_THINGS" = some (some (.int 12 t_MOST_THINGS)))
    (m_MOST_TREE : PySem.W.nsIn K mainGlobals "MOST_TREE" = some (some (.int 60 t_MOST_TREE)))
    (g_FloorError : PySem.W.nsIn K mainGlobals "FloorError" = some (some (.ref C_FloorError))) (x_FloorError : PySem.W.excIn K C_FloorError [.type "ValueError", .type "Exception", .type "BaseException", .type "object"] "ValueError.__new__" = true) (kk_FloorError : PySem.W.keepIn K (.ref C_FloorError) = true) (b_FloorError : PySem.W.subIn K (.ref C_FloorError) (.type "BaseException") = some true) (t_FloorError : PySem.W.typeIn K (.ref C_FloorError) = some (.type "type"))
    (g_NoCase : PySem.W.nsIn K mainGlobals "NoCase" = some (some (.ref C_NoCase))) (x_NoCase : PySem.W.excIn K C_NoCase [.type "ValueError", .type "Exception", .type "BaseException", .type "object"] "ValueError.__new__" = true) (kk_NoCase : PySem.W.keepIn K (.ref C_NoCase) = true) (b_NoCase : PySem.W.subIn K (.ref C_NoCase) (.type "BaseException") = some true) (t_NoCase : PySem.W.typeIn K (.ref C_NoCase) = some (.type "type"))
    (g_NoPlan : PySem.W.nsIn K mainGlobals "NoPlan" = some (some (.ref C_NoPlan))) (x_NoPlan : PySem.W.excIn K C_NoPlan [.type "ValueError", .type "Exception", .type "BaseException", .type "object"] "ValueError.__new__" = true) (kk_NoPlan : PySem.W.keepIn K (.ref C_NoPlan) = true) (b_NoPlan : PySem.W.subIn K (.ref C_NoPlan) (.type "BaseException") = some true) (t_NoPlan : PySem.W.typeIn K (.ref C_NoPlan) = some (.type "type"))
    (g_NoFloor : PySem.W.nsIn K mainGlobals "NoFloor" = some (some (.ref C_NoFloor))) (x_NoFloor : PySem.W.excIn K C_NoFloor [.type "ValueError", .type "Exception", .type "BaseException", .type "object"] "ValueError.__new__" = true) (kk_NoFloor : PySem.W.keepIn K (.ref C_NoFloor) = true) (b_NoFloor : PySem.W.subIn K (.ref C_NoFloor) (.type "BaseException") = some true) (t_NoFloor : PySem.W.typeIn K (.ref C_NoFloor) = some (.type "type"))
    (g_BadLine : PySem.W.nsIn K mainGlobals "BadLine" = some (some (.ref C_BadLine))) (x_BadLine : PySem.W.excIn K C_BadLine [.type "ValueError", .type "Exception", .type "BaseException", .type "object"] "ValueError.__new__" = true) (kk_BadLine : PySem.W.keepIn K (.ref C_BadLine) = true) (b_BadLine : PySem.W.subIn K (.ref C_BadLine) (.type "BaseException") = some true) (t_BadLine : PySem.W.typeIn K (.ref C_BadLine) = some (.type "type"))
    (g_Search : PySem.W.nsIn K mainGlobals "Search" = some (some (.ref C_Search))) (pg_Search : PySem.W.plainGet K C_Search Str.empty = true) (hd_Search : PySem.W.hasDictIn K C_Search = true) (po_Search : PySem.W.plainOver K C_Search = true) (sa_Search : PySem.W.findIn K (.ref C_Search) "__setattr__" = some (some (.builtin "object.__setattr__"))) (mk_Search : PySem.W.makesIn K C_Search = true) (kk_Search : PySem.W.keepIn K (.ref C_Search) = true)
    (na_low : PySem.W.findIn K (.ref C_Search) "low" = some none)
    (na_high : PySem.W.findIn K (.ref C_Search) "high" = some none)
    (na_things : PySem.W.findIn K (.ref C_Search) "things" = some none)
    (na_done : PySem.W.findIn K (.ref C_Search) "done" = some none)
    (sp_ : PySem.W.specialIn K (.builtin "object.__class__") "__get__" = some (some (.builtin "getset_descriptor.__get__"))) (tk_ : PySem.W.takesIn K (.builtin "object.__class__") = some true)
    (hd_FloorError : PySem.W.hasDictIn K C_FloorError = true)
    (hd_NoCase : PySem.W.hasDictIn K C_NoCase = true)
    (hd_NoPlan : PySem.W.hasDictIn K C_NoPlan = true)
    (hd_NoFloor : PySem.W.hasDictIn K C_NoFloor = true)
    (hd_BadLine : PySem.W.hasDictIn K C_BadLine = true)
    (h1_NoCase : PySem.W.findIn K (.ref C_NoCase) "__getattribute__" = some (some (.builtin "BaseException.__getattribute__"))) (h2_NoCase : PySem.W.findIn K (.ref C_NoCase) "__getattr__" = some none) (h3_NoCase : PySem.W.findIn K (.ref C_NoCase) "__class__" = some (some (.builtin "object.__class__"))) (h4_NoCase : PySem.W.mroIn K C_NoCase (.type "object") = some true)
    (s_NoCase_FloorError : PySem.W.subIn K (.ref C_NoCase) (.ref C_FloorError) = some true) (s_NoCase_ValueError : PySem.W.subIn K (.ref C_NoCase) (.type "ValueError") = some true)
    (s_NoCase_NoCase : PySem.W.subIn K (.ref C_NoCase) (.ref C_NoCase) = some true)
    (s_NoCase_NoPlan : PySem.W.subIn K (.ref C_NoCase) (.ref C_NoPlan) = some false)
    (n_NoCase_NoPlan : (Value.ref C_NoCase == Value.ref C_NoPlan) = false)
    (s_NoCase_NoFloor : PySem.W.subIn K (.ref C_NoCase) (.ref C_NoFloor) = some false)
    (n_NoCase_NoFloor : (Value.ref C_NoCase == Value.ref C_NoFloor) = false)
    (s_NoCase_BadLine : PySem.W.subIn K (.ref C_NoCase) (.ref C_BadLine) = some false)
    (n_NoCase_BadLine : (Value.ref C_NoCase == Value.ref C_BadLine) = false)
    (h1_NoPlan : PySem.W.findIn K (.ref C_NoPlan) "__getattribute__" = some (some (.builtin "BaseException.__getattribute__"))) (h2_NoPlan : PySem.W.findIn K (.ref C_NoPlan) "__getattr__" = some none) (h3_NoPlan : PySem.W.findIn K (.ref C_NoPlan) "__class__" = some (some (.builtin "object.__class__"))) (h4_NoPlan : PySem.W.mroIn K C_NoPlan (.type "object") = some true)
    (s_NoPlan_FloorError : PySem.W.subIn K (.ref C_NoPlan) (.ref C_FloorError) = some true) (s_NoPlan_ValueError : PySem.W.subIn K (.ref C_NoPlan) (.type "ValueError") = some true)
    (s_NoPlan_NoCase : PySem.W.subIn K (.ref C_NoPlan) (.ref C_NoCase) = some false)
    (n_NoPlan_NoCase : (Value.ref C_NoPlan == Value.ref C_NoCase) = false)
    (s_NoPlan_NoPlan : PySem.W.subIn K (.ref C_NoPlan) (.ref C_NoPlan) = some true)
    (s_NoPlan_NoFloor : PySem.W.subIn K (.ref C_NoPlan) (.ref C_NoFloor) = some false)
    (n_NoPlan_NoFloor : (Value.ref C_NoPlan == Value.ref C_NoFloor) = false)
    (s_NoPlan_BadLine : PySem.W.subIn K (.ref C_NoPlan) (.ref C_BadLine) = some false)
    (n_NoPlan_BadLine : (Value.ref C_NoPlan == Value.ref C_BadLine) = false)
    (h1_NoFloor : PySem.W.findIn K (.ref C_NoFloor) "__getattribute__" = some (some (.builtin "BaseException.__getattribute__"))) (h2_NoFloor : PySem.W.findIn K (.ref C_NoFloor) "__getattr__" = some none) (h3_NoFloor : PySem.W.findIn K (.ref C_NoFloor) "__class__" = some (some (.builtin "object.__class__"))) (h4_NoFloor : PySem.W.mroIn K C_NoFloor (.type "object") = some true)
    (s_NoFloor_FloorError : PySem.W.subIn K (.ref C_NoFloor) (.ref C_FloorError) = some true) (s_NoFloor_ValueError : PySem.W.subIn K (.ref C_NoFloor) (.type "ValueError") = some true)
    (s_NoFloor_NoCase : PySem.W.subIn K (.ref C_NoFloor) (.ref C_NoCase) = some false)
    (n_NoFloor_NoCase : (Value.ref C_NoFloor == Value.ref C_NoCase) = false)
    (s_NoFloor_NoPlan : PySem.W.subIn K (.ref C_NoFloor) (.ref C_NoPlan) = some false)
    (n_NoFloor_NoPlan : (Value.ref C_NoFloor == Value.ref C_NoPlan) = false)
    (s_NoFloor_NoFloor : PySem.W.subIn K (.ref C_NoFloor) (.ref C_NoFloor) = some true)
    (s_NoFloor_BadLine : PySem.W.subIn K (.ref C_NoFloor) (.ref C_BadLine) = some false)
    (n_NoFloor_BadLine : (Value.ref C_NoFloor == Value.ref C_BadLine) = false)
    (h1_BadLine : PySem.W.findIn K (.ref C_BadLine) "__getattribute__" = some (some (.builtin "BaseException.__getattribute__"))) (h2_BadLine : PySem.W.findIn K (.ref C_BadLine) "__getattr__" = some none) (h3_BadLine : PySem.W.findIn K (.ref C_BadLine) "__class__" = some (some (.builtin "object.__class__"))) (h4_BadLine : PySem.W.mroIn K C_BadLine (.type "object") = some true)
    (s_BadLine_FloorError : PySem.W.subIn K (.ref C_BadLine) (.ref C_FloorError) = some true) (s_BadLine_ValueError : PySem.W.subIn K (.ref C_BadLine) (.type "ValueError") = some true)
    (s_BadLine_NoCase : PySem.W.subIn K (.ref C_BadLine) (.ref C_NoCase) = some false)
    (n_BadLine_NoCase : (Value.ref C_BadLine == Value.ref C_NoCase) = false)
    (s_BadLine_NoPlan : PySem.W.subIn K (.ref C_BadLine) (.ref C_NoPlan) = some false)
    (n_BadLine_NoPlan : (Value.ref C_BadLine == Value.ref C_NoPlan) = false)
    (s_BadLine_NoFloor : PySem.W.subIn K (.ref C_BadLine) (.ref C_NoFloor) = some false)
    (n_BadLine_NoFloor : (Value.ref C_BadLine == Value.ref C_NoFloor) = false)
    (s_BadLine_BadLine : PySem.W.subIn K (.ref C_BadLine) (.ref C_BadLine) = some true)
    : ∃ fd : FuncData, (∀ (s : Shared) (v : Value), BindsTo s fd ⟨[v], []⟩ [("script", v)]) ∧ ∀ base : Heap, K.In base → base.Ns mainGlobals mg → FnOk P w K mg base (L2.CX P w) 105 fa fd ["script"] (spR K RLaw) := by
  have e := hfa.symm.trans (PySem.W.mg_of X G a32)
  cases e
  have T : Tx K mg C_FloorError C_NoCase C_NoPlan C_NoFloor C_BadLine C_Search := ⟨PySem.W.mg_none_of X G z_ValueError, PySem.W.mg_none_of X G z_isinstance, PySem.W.mg_none_of X G z_len, PySem.W.mg_none_of X G z_list, PySem.W.mg_none_of X G z_max, PySem.W.mg_none_of X G z_min, PySem.W.mg_none_of X G z_range, PySem.W.mg_none_of X G z_sum, ⟨_, PySem.W.mg_of X G m_MOST_DROPS, ⟨_, rfl⟩⟩, ⟨_, PySem.W.mg_of X G m_MOST_FLOORS, ⟨_, rfl⟩⟩, ⟨_, PySem.W.mg_of X G m_MOST_THINGS, ⟨_, rfl⟩⟩, ⟨_, PySem.W.mg_of X G m_MOST_TREE, ⟨_, rfl⟩⟩, ⟨PySem.W.mg_of X G g_FloorError, x_FloorError, kk_FloorError, b_FloorError, t_FloorError⟩, ⟨PySem.W.mg_of X G g_NoCase, x_NoCase, kk_NoCase, b_NoCase, t_NoCase⟩, ⟨PySem.W.mg_of X G g_NoPlan, x_NoPlan, kk_NoPlan, b_NoPlan, t_NoPlan⟩, ⟨PySem.W.mg_of X G g_NoFloor, x_NoFloor, kk_NoFloor, b_NoFloor, t_NoFloor⟩, ⟨PySem.W.mg_of X G g_BadLine, x_BadLine, kk_BadLine, b_BadLine, t_BadLine⟩, PySem.W.mg_of X G g_Search, ⟨pg_Search, hd_Search, po_Search, sa_Search⟩, na_low, na_high, na_things, na_done, ⟨h1_NoCase, h2_NoCase, b_NoCase, hd_NoCase, h3_NoCase, sp_, tk_, h4_NoCase⟩, PySem.W.exm_ref b_FloorError hd_FloorError t_FloorError s_NoCase_FloorError, kit_own hd_NoCase t_NoCase s_NoCase_NoCase (fun h => nomatch h), kit_own hd_NoPlan t_NoPlan s_NoCase_NoPlan (fun _ => n_NoCase_NoPlan), kit_own hd_NoFloor t_NoFloor s_NoCase_NoFloor (fun _ => n_NoCase_NoFloor), kit_own hd_BadLine t_BadLine s_NoCase_BadLine (fun _ => n_NoCase_BadLine), kit_val (by decide +kernel) s_NoCase_ValueError rfl, ⟨h1_NoPlan, h2_NoPlan, b_NoPlan, hd_NoPlan, h3_NoPlan, sp_, tk_, h4_NoPlan⟩, PySem.W.exm_ref b_FloorError hd_FloorError t_FloorError s_NoPlan_FloorError, kit_own hd_NoCase t_NoCase s_NoPlan_NoCase (fun _ => n_NoPlan_NoCase), kit_own hd_NoPlan t_NoPlan s_NoPlan_NoPlan (fun h => nomatch h), kit_own hd_NoFloor t_NoFloor s_NoPlan_NoFloor (fun _ => n_NoPlan_NoFloor), kit_own hd_BadLine t_BadLine s_NoPlan_BadLine (fun _ => n_NoPlan_BadLine), kit_val (by decide +kernel) s_NoPlan_ValueError rfl, ⟨h1_NoFloor, h2_NoFloor, b_NoFloor, hd_NoFloor, h3_NoFloor, sp_, tk_, h4_NoFloor⟩, PySem.W.exm_ref b_FloorError hd_FloorError t_FloorError s_NoFloor_FloorError, kit_own hd_NoCase t_NoCase s_NoFloor_NoCase (fun _ => n_NoFloor_NoCase), kit_own hd_NoPlan t_NoPlan s_NoFloor_NoPlan (fun _ => n_NoFloor_NoPlan), kit_own hd_NoFloor t_NoFloor s_NoFloor_NoFloor (fun h => nomatch h), kit_own hd_BadLine t_BadLine s_NoFloor_BadLine (fun _ => n_NoFloor_BadLine), kit_val (by decide +kernel) s_NoFloor_ValueError rfl, ⟨h1_BadLine, h2_BadLine, b_BadLine, hd_BadLine, h3_BadLine, sp_, tk_, h4_BadLine⟩, PySem.W.exm_ref b_FloorError hd_FloorError t_FloorError s_BadLine_FloorError, kit_own hd_NoCase t_NoCase s_BadLine_NoCase (fun _ => n_BadLine_NoCase), kit_own hd_NoPlan t_NoPlan s_BadLine_NoPlan (fun _ => n_BadLine_NoPlan), kit_own hd_NoFloor t_NoFloor s_BadLine_NoFloor (fun _ => n_BadLine_NoFloor), kit_own hd_BadLine t_BadLine s_BadLine_BadLine (fun h => nomatch h), kit_val (by decide +kernel) s_BadLine_ValueError rfl⟩
  refine ⟨PySem.W.fnOf "law" "law" (defArgs s_law) (defBody s_law) (defScope s_law) .none kV32 dc32 pm32 an32 cd32 ct32, fun s v => .of_eq rfl, fun base _ _ => ?_⟩
  have F_wall := fun_mk (st := s_wall) l0 c0 k0
  have M_wall := PySem.W.mg_of X G a0
  have b_wall := F_wall.binds (ps := ["k"]) fun _ _ _ _ _ _ us hl => match us, hl with | [_], _ => rfl
  have F_ask := fun_mk (st := s_ask) l1 c1 k1
  have M_ask := PySem.W.mg_of X G a1
  have b_ask := F_ask.binds (ps := ["floors", "things"]) fun _ _ _ _ _ _ us hl => match us, hl with | [_, _], _ => rfl
  have C_ask := ok_ask (P := P) (w := w) (base := base) T  F_ask M_ask b_ask
  have F_rows := fun_mk (st := s_rows) l2 c2 k2
  have M_rows := PySem.W.mg_of X G a2
  have b_rows := F_rows.binds (ps := ["things", "drops"]) fun _ _ _ _ _ _ us hl => match us, hl with | [_, _], _ => rfl
  have C_rows := ok_rows (P := P) (w := w) (base := base) T  F_rows M_rows b_rows
  have F_reach := fun_mk (st := s_reach) l3 c3 k3
  have M_reach := PySem.W.mg_of X G a3
  have b_reach := F_reach.binds (ps := ["things", "drops"]) fun _ _ _ _ _ _ us hl => match us, hl with | [_, _], _ => rfl
  have C_reach := ok_reach (P := P) (w := w) (base := base) T C_rows F_reach M_reach b_reach
  have F_needed := fun_mk (st := s_needed) l4 c4 k4
  have M_needed := PySem.W.mg_of X G a4
  have b_needed := F_needed.binds (ps := ["floors", "things"]) fun _ _ _ _ _ _ us hl => match us, hl with | [_, _], _ => rfl
  have C_needed := ok_needed (P := P) (w := w) (base := base) T  F_needed M_needed b_needed
  have F_fewest := fun_mk (st := s_fewest) l5 c5 k5
  have M_fewest := PySem.W.mg_of X G a5
  have b_fewest := F_fewest.binds (ps := ["floors", "things"]) fun _ _ _ _ _ _ us hl => match us, hl with | [_, _], _ => rfl
  have C_fewest := ok_fewest (P := P) (w := w) (base := base) T C_ask C_needed F_fewest M_fewest b_fewest
  have F_first_drops := fun_mk (st := s_first_drops) l6 c6 k6
  have M_first_drops := PySem.W.mg_of X G a6
  have b_first_drops := F_first_drops.binds (ps := ["floors", "things"]) fun _ _ _ _ _ _ us hl => match us, hl with | [_, _], _ => rfl
  have C_first_drops := ok_first_drops (P := P) (w := w) (base := base) T C_needed C_rows F_first_drops M_first_drops b_first_drops
  have F_choices := fun_mk (st := s_choices) l7 c7 k7
  have M_choices := PySem.W.mg_of X G a7
  have b_choices := F_choices.binds (ps := ["floors", "things"]) fun _ _ _ _ _ _ us hl => match us, hl with | [_, _], _ => rfl
  have C_choices := ok_choices (P := P) (w := w) (base := base) T C_ask C_first_drops F_choices M_choices b_choices
  have F_ask_tree := fun_mk (st := s_ask_tree) l8 c8 k8
  have M_ask_tree := PySem.W.mg_of X G a8
  have b_ask_tree := F_ask_tree.binds (ps := ["floors", "things"]) fun _ _ _ _ _ _ us hl => match us, hl with | [_, _], _ => rfl
  have C_ask_tree := ok_ask_tree (P := P) (w := w) (base := base) T C_ask F_ask_tree M_ask_tree b_ask_tree
  have F_grown := fun_mk (st := s_grown) l9 c9 k9
  have M_grown := PySem.W.mg_of X G a9
  have b_grown := F_grown.binds (ps := ["low", "high", "things"]) fun _ _ _ _ _ _ us hl => match us, hl with | [_, _, _], _ => rfl
  have C_grown := ok_grown (P := P) (w := w) (base := base) T  F_grown M_grown b_grown
  have F_plan := fun_mk (st := s_plan) l10 c10 k10
  have M_plan := PySem.W.mg_of X G a10
  have b_plan := F_plan.binds (ps := ["floors", "things"]) fun _ _ _ _ _ _ us hl => match us, hl with | [_, _], _ => rfl
  have C_plan := ok_plan (P := P) (w := w) (base := base) T C_ask_tree C_grown F_plan M_plan b_plan
  have F_worst := fun_mk (st := s_worst) l11 c11 k11
  have M_worst := PySem.W.mg_of X G a11
  have b_worst := F_worst.binds (ps := ["tree", "low", "high", "things"]) fun _ _ _ _ _ _ us hl => match us, hl with | [_, _, _, _], _ => rfl
  have C_worst := ok_worst (P := P) (w := w) (base := base) T  F_worst M_worst b_worst
  have F_looked := fun_mk (st := s_looked) l12 c12 k12
  have M_looked := PySem.W.mg_of X G a12
  have b_looked := F_looked.binds (ps := ["tree", "floors", "things"]) fun _ _ _ _ _ _ us hl => match us, hl with | [_, _, _], _ => rfl
  have C_looked := ok_looked (P := P) (w := w) (base := base) T C_ask_tree C_worst F_looked M_looked b_looked
  have F_walk := fun_mk (st := s_walk) l13 c13 k13
  have M_walk := PySem.W.mg_of X G a13
  have b_walk := F_walk.binds (ps := ["tree", "floor"]) fun _ _ _ _ _ _ us hl => match us, hl with | [_, _], _ => rfl
  have C_walk := ok_walk (P := P) (w := w) (base := base) T  F_walk M_walk b_walk
  have F_walked := fun_mk (st := s_walked) l14 c14 k14
  have M_walked := PySem.W.mg_of X G a14
  have b_walked := F_walked.binds (ps := ["tree", "floors", "things", "floor"]) fun _ _ _ _ _ _ us hl => match us, hl with | [_, _, _, _], _ => rfl
  have C_walked := ok_walked (P := P) (w := w) (base := base) T C_looked C_walk F_walked M_walked b_walked
  have F_S_init := fun_mk (st := s_S_init) l15 c15 k15
  have M_S_init : Mk K C_Search f15 := ⟨mk_Search, a15, i15, kk_Search⟩
  have b_S_init := F_S_init.binds (ps := ["self", "floors", "things"]) fun _ _ _ _ _ _ us hl => match us, hl with | [_, _, _], _ => rfl
  have C_S_init := ok_S_init (P := P) (w := w) (base := base) T C_ask F_S_init M_S_init b_S_init
  have F_S_dropped := fun_mk (st := s_S_dropped) l16 c16 k16
  have M_S_dropped : Meth K C_Search "dropped" f16 := ⟨a16, i16, k16⟩
  have b_S_dropped := F_S_dropped.binds (ps := ["self", "floor", "broken"]) fun _ _ _ _ _ _ us hl => match us, hl with | [_, _, _], _ => rfl
  have F_S_span := fun_mk (st := s_S_span) l17 c17 k17
  have M_S_span : Meth K C_Search "span" f17 := ⟨a17, i17, k17⟩
  have b_S_span := F_S_span.binds (ps := ["self"]) fun _ _ _ _ _ _ us hl => match us, hl with | [_], _ => rfl
  have F_S_left := fun_mk (st := s_S_left) l18 c18 k18
  have M_S_left : Meth K C_Search "left" f18 := ⟨a18, i18, k18⟩
  have b_S_left := F_S_left.binds (ps := ["self"]) fun _ _ _ _ _ _ us hl => match us, hl with | [_], _ => rfl
  have F_S_drops := fun_mk (st := s_S_drops) l19 c19 k19
  have M_S_drops : Meth K C_Search "drops" f19 := ⟨a19, i19, k19⟩
  have b_S_drops := F_S_drops.binds (ps := ["self"]) fun _ _ _ _ _ _ us hl => match us, hl with | [_], _ => rfl
  have F_S_need := fun_mk (st := s_S_need) l20 c20 k20
  have M_S_need : Meth K C_Search "need" f20 := ⟨a20, i20, k20⟩
  have b_S_need := F_S_need.binds (ps := ["self"]) fun _ _ _ _ _ _ us hl => match us, hl with | [_], _ => rfl
  have F_S_advice := fun_mk (st := s_S_advice) l21 c21 k21
  have M_S_advice : Meth K C_Search "advice" f21 := ⟨a21, i21, k21⟩
  have b_S_advice := F_S_advice.binds (ps := ["self"]) fun _ _ _ _ _ _ us hl => match us, hl with | [_], _ => rfl
  have F_tables := fun_mk (st := s_tables) l22 c22 k22
  have M_tables := PySem.W.mg_of X G a22
  have b_tables := F_tables.binds (ps := ["floors", "things"]) fun _ _ _ _ _ _ us hl => match us, hl with | [_, _], _ => rfl
  have C_tables := ok_tables (P := P) (w := w) (base := base) T  F_tables M_tables b_tables
  have F_least_sum := fun_mk (st := s_least_sum) l23 c23 k23
  have M_least_sum := PySem.W.mg_of X G a23
  have b_least_sum := F_least_sum.binds (ps := ["floors", "things"]) fun _ _ _ _ _ _ us hl => match us, hl with | [_, _], _ => rfl
  have C_least_sum := ok_least_sum (P := P) (w := w) (base := base) T C_ask_tree C_tables F_least_sum M_least_sum b_least_sum
  have F_grown2 := fun_mk (st := s_grown2) l24 c24 k24
  have M_grown2 := PySem.W.mg_of X G a24
  have b_grown2 := F_grown2.binds (ps := ["low", "high", "things", "firsts"]) fun _ _ _ _ _ _ us hl => match us, hl with | [_, _, _, _], _ => rfl
  have C_grown2 := ok_grown2 (P := P) (w := w) (base := base) T  F_grown2 M_grown2 b_grown2
  have F_sum_plan := fun_mk (st := s_sum_plan) l25 c25 k25
  have M_sum_plan := PySem.W.mg_of X G a25
  have b_sum_plan := F_sum_plan.binds (ps := ["floors", "things"]) fun _ _ _ _ _ _ us hl => match us, hl with | [_, _], _ => rfl
  have C_sum_plan := ok_sum_plan (P := P) (w := w) (base := base) T C_ask_tree C_grown2 C_tables F_sum_plan M_sum_plan b_sum_plan
  have F_sum_of := fun_mk (st := s_sum_of) l26 c26 k26
  have M_sum_of := PySem.W.mg_of X G a26
  have b_sum_of := F_sum_of.binds (ps := ["tree", "floors", "things"]) fun _ _ _ _ _ _ us hl => match us, hl with | [_, _, _], _ => rfl
  have C_sum_of := ok_sum_of (P := P) (w := w) (base := base) T C_looked C_walk F_sum_of M_sum_of b_sum_of
  have F_law_cell_at := fun_mk (st := s_law_cell_at) l27 c27 k27
  have M_law_cell_at := PySem.W.mg_of X G a27
  have b_law_cell_at := F_law_cell_at.binds (ps := ["script", "k"]) fun _ _ _ _ _ _ us hl => match us, hl with | [_, _], _ => rfl
  have C_law_cell_at := ok_law_cell_at (P := P) (w := w) (base := base) T  F_law_cell_at M_law_cell_at b_law_cell_at
  have F_law_tree := fun_mk (st := s_law_tree) l28 c28 k28
  have M_law_tree := PySem.W.mg_of X G a28
  have b_law_tree := F_law_tree.binds (ps := ["script", "at", "low", "high", "things"]) fun _ _ _ _ _ _ us hl => match us, hl with | [_, _, _, _, _], _ => rfl
  have C_law_tree := ok_law_tree (P := P) (w := w) (base := base) T C_law_cell_at F_law_tree M_law_tree b_law_tree
  have F_law_which := fun_mk (st := s_law_which) l29 c29 k29
  have M_law_which := PySem.W.mg_of X G a29
  have b_law_which := F_law_which.binds (ps := ["e"]) fun _ _ _ _ _ _ us hl => match us, hl with | [_], _ => rfl
  have C_law_which := ok_law_which (P := P) (w := w) (base := base) T  F_law_which M_law_which b_law_which
  have F_law_asked := fun_mk (st := s_law_asked) l30 c30 k30
  have M_law_asked := PySem.W.mg_of X G a30
  have b_law_asked := F_law_asked.binds (ps := ["way", "floors", "things", "tree", "floor"]) fun _ _ _ _ _ _ us hl => match us, hl with | [_, _, _, _, _], _ => rfl
  have C_law_asked := ok_law_asked (P := P) (w := w) (base := base) T C_S_init C_fewest C_choices C_plan C_looked C_walked C_least_sum C_sum_plan C_sum_of C_reach F_law_asked M_law_asked b_law_asked
  have F_law_told := fun_mk (st := s_law_told) l31 c31 k31
  have M_law_told := PySem.W.mg_of X G a31
  have b_law_told := F_law_told.binds (ps := ["way", "floors", "things", "tree", "floor"]) fun _ _ _ _ _ _ us hl => match us, hl with | [_, _, _, _, _], _ => rfl
  have C_law_told := ok_law_told (P := P) (w := w) (base := base) T C_law_which C_law_asked F_law_told M_law_told b_law_told
  have F_law := fun_mk (st := s_law) l32 c32 k32
  exact ok_law (P := P) (w := w) (base := base) T C_law_cell_at C_law_tree C_law_told F_law
end Eg
open PySem PySem.W PyProof.Rows
set_option maxHeartbeats 0 in
theorem PySem.Challenge.cw_eggfloors_k13_each_refusal_its_own_holds : PySem.Challenge.rw_eggfloors_k13_each_refusal_its_own.Holds := by
  w_on; o_law; k_head; (case hw => w_witness2)
  k_fill
  refine Eg.walkE (l := PySem.Challenge.rw_eggfloors_k13_each_refusal_its_own) (k := 105) rfl rfl ⟨rfl, by decide, by decide⟩ (fun w h Y => PySem.W.kIn_of Y) ?F
  case F =>
    intro w mg fa h KX G hmg
    refine' Eg.all_mk KX G hmg ?a0 ?l0 ?c0 ?k0 ?a1 ?l1 ?c1 ?k1 ?a2 ?l2 ?c2 ?k2 ?a3 ?l3 ?c3 ?k3 ?a4 ?l4 ?c4 ?k4 ?a5 ?l5 ?c5 ?k5 ?a6 ?l6 ?c6 ?k6 ?a7 ?l7 ?c7 ?k7 ?a8 ?l8 ?c8 ?k8 ?a9 ?l9 ?c9 ?k9 ?a10 ?l10 ?c10 ?k10 ?a11 ?l11 ?c11 ?k11 ?a12 ?l12 ?c12 ?k12 ?a13 ?l13 ?c13 ?k13 ?a14 ?l14 ?c14 ?k14 ?a15 ?i15 ?l15 ?c15 ?k15 ?a16 ?i16 ?l16 ?c16 ?k16 ?a17 ?i17 ?l17 ?c17 ?k17 ?a18 ?i18 ?l18 ?c18 ?k18 ?a19 ?i19 ?l19 ?c19 ?k19 ?a20 ?i20 ?l20 ?c20 ?k20 ?a21 ?i21 ?l21 ?c21 ?k21 ?a22 ?l22 ?c22 ?k22 ?a23 ?l23 ?c23 ?k23 ?a24 ?l24 ?c24 ?k24 ?a25 ?l25 ?c25 ?k25 ?a26 ?l26 ?c26 ?k26 ?a27 ?l27 ?c27 ?k27 ?a28 ?l28 ?c28 ?k28 ?a29 ?l29 ?c29 ?k29 ?a30 ?l30 ?c30 ?k30 ?a31 ?l31 ?c31 ?k31 ?a32 ?l32 ?c32 ?k32 ?z_ValueError ?z_isinstance ?z_len ?z_list ?z_max ?z_min ?z_range ?z_sum ?m_MOST_DROPS ?m_MOST_FLOORS ?m_MOST_THINGS ?m_MOST_TREE ?g_FloorError ?x_FloorError ?kk_FloorError ?b_FloorError ?t_FloorError ?g_NoCase ?x_NoCase ?kk_NoCase ?b_NoCase ?t_NoCase ?g_NoPlan ?x_NoPlan ?kk_NoPlan ?b_NoPlan ?t_NoPlan ?g_NoFloor ?x_NoFloor ?kk_NoFloor ?b_NoFloor ?t_NoFloor ?g_BadLine ?x_BadLine ?kk_BadLine ?b_BadLine ?t_BadLine ?g_Search ?pg_Search ?hd_Search ?po_Search ?sa_Search ?mk_Search ?kk_Search ?na_low ?na_high ?na_things ?na_done ?sp_ ?tk_ ?hd_FloorError ?hd_NoCase ?hd_NoPlan ?hd_NoFloor ?hd_BadLine ?h1_NoCase ?h2_NoCase ?h3_NoCase ?h4_NoCase ?s_NoCase_FloorError ?s_NoCase_ValueError ?s_NoCase_NoCase ?s_NoCase_NoPlan ?n_NoCase_NoPlan ?s_NoCase_NoFloor ?n_NoCase_NoFloor ?s_NoCase_BadLine ?n_NoCase_BadLine ?h1_NoPlan ?h2_NoPlan ?h3_NoPlan ?h4_NoPlan ?s_NoPlan_FloorError ?s_NoPlan_ValueError ?s_NoPlan_NoCase ?n_NoPlan_NoCase ?s_NoPlan_NoPlan ?s_NoPlan_NoFloor ?n_NoPlan_NoFloor ?s_NoPlan_BadLine ?n_NoPlan_BadLine ?h1_NoFloor ?h2_NoFloor ?h3_NoFloor ?h4_NoFloor ?s_NoFloor_FloorError ?s_NoFloor_ValueError ?s_NoFloor_NoCase ?n_NoFloor_NoCase ?s_NoFloor_NoPlan ?n_NoFloor_NoPlan ?s_NoFloor_NoFloor ?s_NoFloor_BadLine ?n_NoFloor_BadLine ?h1_BadLine ?h2_BadLine ?h3_BadLine ?h4_BadLine ?s_BadLine_FloorError ?s_BadLine_ValueError ?s_BadLine_NoCase ?n_BadLine_NoCase ?s_BadLine_NoPlan ?n_BadLine_NoPlan ?s_BadLine_NoFloor ?n_BadLine_NoFloor ?s_BadLine_BadLine
    (case g_FloorError => k_is)
    (case g_NoCase => k_is)
    (case g_NoPlan => k_is)
    (case g_NoFloor => k_is)
    (case g_BadLine => k_is)
    (case g_Search => k_is)
    (case a0 => k_is)
    (case l0 => k_is)
    (case c0 => k_is)
    (case k0 => k_is)
    (case a1 => k_is)
    (case l1 => k_is)
    (case c1 => k_is)
    (case k1 => k_is)
    (case a2 => k_is)
    (case l2 => k_is)
    (case c2 => k_is)
    (case k2 => k_is)
    (case a3 => k_is)
    (case l3 => k_is)
    (case c3 => k_is)
    (case k3 => k_is)
    (case a4 => k_is)
    (case l4 => k_is)
    (case c4 => k_is)
    (case k4 => k_is)
    (case a5 => k_is)
    (case l5 => k_is)
    (case c5 => k_is)
    (case k5 => k_is)
    (case a6 => k_is)
    (case l6 => k_is)
    (case c6 => k_is)
    (case k6 => k_is)
    (case a7 => k_is)
    (case l7 => k_is)
    (case c7 => k_is)
    (case k7 => k_is)
    (case a8 => k_is)
    (case l8 => k_is)
    (case c8 => k_is)
    (case k8 => k_is)
    (case a9 => k_is)
    (case l9 => k_is)
    (case c9 => k_is)
    (case k9 => k_is)
    (case a10 => k_is)
    (case l10 => k_is)
    (case c10 => k_is)
    (case k10 => k_is)
    (case a11 => k_is)
    (case l11 => k_is)
    (case c11 => k_is)
    (case k11 => k_is)
    (case a12 => k_is)
    (case l12 => k_is)
    (case c12 => k_is)
    (case k12 => k_is)
    (case a13 => k_is)
    (case l13 => k_is)
    (case c13 => k_is)
    (case k13 => k_is)
    (case a14 => k_is)
    (case l14 => k_is)
    (case c14 => k_is)
    (case k14 => k_is)
    (case a15 => k_is)
    (case i15 => k_is)
    (case l15 => k_is)
    (case c15 => k_is)
    (case k15 => k_is)
    (case a16 => k_is)
    (case i16 => k_is)
    (case l16 => k_is)
    (case c16 => k_is)
    (case k16 => k_is)
    (case a17 => k_is)
    (case i17 => k_is)
    (case l17 => k_is)
    (case c17 => k_is)
    (case k17 => k_is)
    (case a18 => k_is)
    (case i18 => k_is)
    (case l18 => k_is)
    (case c18 => k_is)
    (case k18 => k_is)
    (case a19 => k_is)
    (case i19 => k_is)
    (case l19 => k_is)
    (case c19 => k_is)
    (case k19 => k_is)
    (case a20 => k_is)
    (case i20 => k_is)
    (case l20 => k_is)
    (case c20 => k_is)
    (case k20 => k_is)
    (case a21 => k_is)
    (case i21 => k_is)
    (case l21 => k_is)
    (case c21 => k_is)
    (case k21 => k_is)
    (case a22 => k_is)
    (case l22 => k_is)
    (case c22 => k_is)
    (case k22 => k_is)
    (case a23 => k_is)
    (case l23 => k_is)
    (case c23 => k_is)
    (case k23 => k_is)
    (case a24 => k_is)
    (case l24 => k_is)
    (case c24 => k_is)
    (case k24 => k_is)
    (case a25 => k_is)
    (case l25 => k_is)
    (case c25 => k_is)
    (case k25 => k_is)
    (case a26 => k_is)
    (case l26 => k_is)
    (case c26 => k_is)
    (case k26 => k_is)
    (case a27 => k_is)
    (case l27 => k_is)
    (case c27 => k_is)
    (case k27 => k_is)
    (case a28 => k_is)
    (case l28 => k_is)
    (case c28 => k_is)
    (case k28 => k_is)
    (case a29 => k_is)
    (case l29 => k_is)
    (case c29 => k_is)
    (case k29 => k_is)
    (case a30 => k_is)
    (case l30 => k_is)
    (case c30 => k_is)
    (case k30 => k_is)
    (case a31 => k_is)
    (case l31 => k_is)
    (case c31 => k_is)
    (case k31 => k_is)
    (case a32 => k_is)
    (case l32 => k_is)
    (case c32 => k_is)
    (case k32 => k_is)
    (case z_ValueError => k_is)
    (case z_isinstance => k_is)
    (case z_len => k_is)
    (case z_list => k_is)
    (case z_max => k_is)
    (case z_min => k_is)
    (case z_range => k_is)
    (case z_sum => k_is)
    (case m_MOST_DROPS => k_is)
    (case m_MOST_FLOORS => k_is)
    (case m_MOST_THINGS => k_is)
    (case m_MOST_TREE => k_is)
    (case x_FloorError => k_exc)
    (case kk_FloorError => k_is)
    (case b_FloorError => k_is)
    (case t_FloorError => k_is)
    (case x_NoCase => k_exc)
    (case kk_NoCase => k_is)
    (case b_NoCase => k_is)
    (case t_NoCase => k_is)
    (case x_NoPlan => k_exc)
    (case kk_NoPlan => k_is)
    (case b_NoPlan => k_is)
    (case t_NoPlan => k_is)
    (case x_NoFloor => k_exc)
    (case kk_NoFloor => k_is)
    (case b_NoFloor => k_is)
    (case t_NoFloor => k_is)
    (case x_BadLine => k_exc)
    (case kk_BadLine => k_is)
    (case b_BadLine => k_is)
    (case t_BadLine => k_is)
    (case pg_Search => k_is)
    (case hd_Search => k_is)
    (case po_Search => k_is)
    (case sa_Search => k_is)
    (case mk_Search => k_is)
    (case kk_Search => k_is)
    (case na_low => k_is)
    (case na_high => k_is)
    (case na_things => k_is)
    (case na_done => k_is)
    (case sp_ => k_is)
    (case tk_ => k_is)
    (case hd_FloorError => k_is)
    (case hd_NoCase => k_is)
    (case hd_NoPlan => k_is)
    (case hd_NoFloor => k_is)
    (case hd_BadLine => k_is)
    (case h1_NoCase => k_is)
    (case h2_NoCase => k_is)
    (case h3_NoCase => k_is)
    (case h4_NoCase => k_is)
    (case s_NoCase_FloorError => k_is)
    (case s_NoCase_ValueError => k_is)
    (case s_NoCase_NoCase => k_is)
    (case s_NoCase_NoPlan => k_is)
    (case n_NoCase_NoPlan => rfl)
    (case s_NoCase_NoFloor => k_is)
    (case n_NoCase_NoFloor => rfl)
    (case s_NoCase_BadLine => k_is)
    (case n_NoCase_BadLine => rfl)
    (case h1_NoPlan => k_is)
    (case h2_NoPlan => k_is)
    (case h3_NoPlan => k_is)
    (case h4_NoPlan => k_is)
    (case s_NoPlan_FloorError => k_is)
    (case s_NoPlan_ValueError => k_is)
    (case s_NoPlan_NoCase => k_is)
    (case n_NoPlan_NoCase => rfl)
    (case s_NoPlan_NoPlan => k_is)
    (case s_NoPlan_NoFloor => k_is)
    (case n_NoPlan_NoFloor => rfl)
    (case s_NoPlan_BadLine => k_is)
    (case n_NoPlan_BadLine => rfl)
    (case h1_NoFloor => k_is)
    (case h2_NoFloor => k_is)
    (case h3_NoFloor => k_is)
    (case h4_NoFloor => k_is)
    (case s_NoFloor_FloorError => k_is)
    (case s_NoFloor_ValueError => k_is)
    (case s_NoFloor_NoCase => k_is)
    (case n_NoFloor_NoCase => rfl)
    (case s_NoFloor_NoPlan => k_is)
    (case n_NoFloor_NoPlan => rfl)
    (case s_NoFloor_NoFloor => k_is)
    (case s_NoFloor_BadLine => k_is)
    (case n_NoFloor_BadLine => rfl)
    (case h1_BadLine => k_is)
    (case h2_BadLine => k_is)
    (case h3_BadLine => k_is)
    (case h4_BadLine => k_is)
    (case s_BadLine_FloorError => k_is)
    (case s_BadLine_ValueError => k_is)
    (case s_BadLine_NoCase => k_is)
    (case n_BadLine_NoCase => rfl)
    (case s_BadLine_NoPlan => k_is)
    (case n_BadLine_NoPlan => rfl)
    (case s_BadLine_NoFloor => k_is)
    (case n_BadLine_NoFloor => rfl)
    (case s_BadLine_BadLine => k_is)
