import PyProof.Rows.All
import HandS.Base
import HandS.Call
import HandS.List
import HandS.Words
import HandS.Exc
import HandS.Wide
import HandS.TupAny
import HandS.TupMul
import HandS.IsInst
import HandS.Comp
import HandS.Ends
import HandS.Iter
import HandS.Zip
import HandS.More
import HandS.TupLe
import HandS.Deep
import HandS.Defaults
import HandS.Style
import HandS.Conv
import HandS.Dict
import KE.DataMinMax
import KE.DatumOrd
import KE.SortData
import HandS.EndBits
import KE.GoesMore
import PySem.Challenge.RW_wornways_k36_steady_worlds
set_option Elab.async false
set_option linter.all false
set_option maxRecDepth 100000
set_option autoImplicit false
/-! M1: data, what stands for data in a heap, environments of data, and how they are kept. -/
namespace M
open PySem PySem.Spec PyProof.Rows L2

abbrev D := PyData
def keyD : Key → D
  | .inl i => .int i
  | .inr x => .str x
def keysD (ks : List Key) : D := .tuple (ks.map keyD)
mutual
inductive Rep (K : PySem.W.Frag) (F : Hp) : V → D → Prop
  | non : Rep K F .non .none
  | bl (b : Bool) : Rep K F (.bl b) (.bool b)
  | int (i : Int) : Rep K F (.int i) (.int i)
  | str (x : Str) : Rep K F (.str x) (.str x)
  | lst {a : Addr} {xs : List V} {ds : List D} : SqL K F a xs → Reps K F xs ds → Rep K F (.ref a) (.list ds)
  | tup {a : Addr} {xs : List V} {ds : List D} : SqT K F a xs → Reps K F xs ds → Rep K F (.ref a) (.tuple ds)
  | dK {a : Addr} {kvs : List (Key × V)} {ds : List (D × D)} : Rd F a (.dK kvs) → RepK K F kvs ds → Rep K F (.ref a) (.dict ds)
  | dT {a : Addr} {kvs : List (List Key × V)} {ds : List (D × D)} : Rd F a (.dT kvs) → RepT K F kvs ds → Rep K F (.ref a) (.dict ds)
inductive Reps (K : PySem.W.Frag) (F : Hp) : List V → List D → Prop
  | nil : Reps K F [] []
  | cons {v : V} {vs : List V} {d : D} {ds : List D} : Rep K F v d → Reps K F vs ds → Reps K F (v :: vs) (d :: ds)
inductive RepK (K : PySem.W.Frag) (F : Hp) : List (Key × V) → List (D × D) → Prop
  | nil : RepK K F [] []
  | cons {k : Key} {v : V} {kvs : List (Key × V)} {d : D} {ds : List (D × D)} : Rep K F v d → RepK K F kvs ds → RepK K F ((k, v) :: kvs) ((keyD k, d) :: ds)
inductive RepT (K : PySem.W.Frag) (F : Hp) : List (List Key × V) → List (D × D) → Prop
  | nil : RepT K F [] []
  | cons {k : List Key} {v : V} {kvs : List (List Key × V)} {d : D} {ds : List (D × D)} : Rep K F v d → RepT K F kvs ds → RepT K F ((k, v) :: kvs) ((keysD k, d) :: ds)
end
section
variable {K : PySem.W.Frag} {F F' H H' : Hp}
theorem Rd.mono {a : Addr} {u : HO} (s : Same F F') (h : Rd F a u) : Rd F' a u := by
  rcases h with h | ⟨o, h⟩
  · exact .inl (s _ _ h)
  · exact .inr ⟨o, s _ _ h⟩
theorem SqT.mono {a : Addr} {xs : List V} (s : Same F F') (h : SqT K F a xs) : SqT K F' a xs := by
  rcases h with h | h
  · exact .inl (Rd.mono s h)
  · exact .inr h
mutual
theorem Rep.mono (s : Same F F') : ∀ {v : V} {d : D}, Rep K F v d → Rep K F' v d
  | _, _, .non => .non
  | _, _, .bl b => .bl b
  | _, _, .int i => .int i
  | _, _, .str x => .str x
  | _, _, .lst h r => .lst (s.seq h) (Reps.mono s r)
  | _, _, .tup h r => .tup (SqT.mono s h) (Reps.mono s r)
  | _, _, .dK h r => .dK (Rd.mono s h) (RepK.mono s r)
  | _, _, .dT h r => .dT (Rd.mono s h) (RepT.mono s r)
theorem Reps.mono (s : Same F F') : ∀ {v : List V} {d : List D}, Reps K F v d → Reps K F' v d
  | _, _, .nil => .nil
  | _, _, .cons h r => .cons (Rep.mono s h) (Reps.mono s r)
theorem RepK.mono (s : Same F F') : ∀ {v : List (Key × V)} {d : List (D × D)}, RepK K F v d → RepK K F' v d
  | _, _, .nil => .nil
  | _, _, .cons h r => .cons (Rep.mono s h) (RepK.mono s r)
theorem RepT.mono (s : Same F F') : ∀ {v : List (List Key × V)} {d : List (D × D)}, RepT K F v d → RepT K F' v d
  | _, _, .nil => .nil
  | _, _, .cons h r => .cons (Rep.mono s h) (RepT.mono s r)
end
theorem Reps.length : ∀ {vs : List V} {ds : List D}, Reps K F vs ds → vs.length = ds.length
  | _, _, .nil => rfl
  | _, _, .cons _ r => congrArg (· + 1) (Reps.length r)
theorem Reps.get : ∀ {vs : List V} {ds : List D} {i : Nat} {d : D}, Reps K F vs ds → ds[i]? = some d → ∃ v, vs[i]? = some v ∧ Rep K F v d
  | _, _, _, _, .nil, e => by simp at e
  | _, _, 0, _, .cons h r, e => by simp at e; subst e; exact ⟨_, rfl, h⟩
  | _, _, i + 1, d, .cons h r, e => by
    obtain ⟨v, h1, h2⟩ := Reps.get (i := i) (d := d) r (by simpa using e)
    exact ⟨v, by simpa using h1, h2⟩
theorem Reps.append : ∀ {vs ws : List V} {ds es : List D}, Reps K F vs ds → Reps K F ws es → Reps K F (vs ++ ws) (ds ++ es)
  | _, _, _, _, .nil, s => s
  | _, _, _, _, .cons h r, s => .cons h (Reps.append r s)
theorem Reps.set {v : V} {d : D} (h : Rep K F v d) : ∀ {vs : List V} {ds : List D} (i : Nat), Reps K F vs ds → Reps K F (vs.set i v) (ds.set i d)
  | _, _, _, .nil => .nil
  | _, _, 0, .cons _ r => .cons h r
  | _, _, i + 1, .cons q r => .cons q (Reps.set h i r)
theorem Reps.take : ∀ {vs : List V} {ds : List D} (n : Nat), Reps K F vs ds → Reps K F (vs.take n) (ds.take n)
  | _, _, 0, _ => .nil
  | _, _, _ + 1, .nil => .nil
  | _, _, n + 1, .cons q r => .cons q (Reps.take n r)
theorem Reps.drop : ∀ {vs : List V} {ds : List D} (n : Nat), Reps K F vs ds → Reps K F (vs.drop n) (ds.drop n)
  | _, _, 0, r => r
  | _, _, _ + 1, .nil => .nil
  | _, _, n + 1, .cons _ r => Reps.drop n r
theorem Reps.reverse : ∀ {vs : List V} {ds : List D}, Reps K F vs ds → Reps K F vs.reverse ds.reverse
  | _, _, .nil => .nil
  | _, _, .cons q r => by
    rw [List.reverse_cons, List.reverse_cons]
    exact (Reps.reverse r).append (.cons q .nil)
theorem Reps.ints : ∀ {vs : List V} {ns : List Int}, Reps K F vs (ns.map .int) → vs = ns.map V.int
  | _, [], .nil => rfl
  | _, n :: ns, .cons h r => by
    cases h
    rw [Reps.ints r]
    rfl

/-- what grows: new frozen things alone -/
structure Grow (F H F' H' : Hp) : Prop where
  f : Same F F'
  h : Same H H'
  fh : Same F' H'
  nw : ∀ a o, F' a = some o → F a = some o ∨ H a = none
theorem Grow.refl (s : Same F H) : Grow F H F H := ⟨.refl _, .refl _, s, fun _ _ e => .inl e⟩
theorem Grow.trans {F2 H2 : Hp} (g : Grow F H F' H') (k : Grow F' H' F2 H2) : Grow F H F2 H2 :=
  ⟨g.f.trans k.f, g.h.trans k.h, k.fh, fun a o e => by
    rcases k.nw a o e with e | e
    · exact g.nw a o e
    · exact .inr (g.h.free e)⟩
theorem Grow.alloc {p : Addr} {o : HO} (s : Same F H) (n : H p = none) : Grow F H (upd F p o) (upd H p o) :=
  ⟨fun a u e => by rw [upd_ne (ne_of_none (s _ _ e) n)]; exact e, fun a u e => by rw [upd_ne (ne_of_none e n)]; exact e,
   fun a u e => by
    by_cases h : a = p
    · rw [h, upd_same] at e ⊢; exact e
    · rw [upd_ne h] at e ⊢; exact s _ _ e,
   fun a u e => by
    by_cases h : a = p
    · rw [h]; exact .inr n
    · rw [upd_ne h] at e; exact .inl e⟩
end

/-- a place of an environment: nothing is known; data that nobody changes; data of one's own (lists, dicts) that may be changed -/
inductive Sl where
  | un
  | sh (d : D)
  | ow (b : Bool) (d : D)
abbrev En := List Sl
/-- a thing of one's own at p -/
def Own (K : PySem.W.Frag) (F H : Hp) (p : Addr) : D → Prop
  | .list ds => ∃ vs, H p = some (.lst vs) ∧ Reps K F vs ds
  | .dict ds => (∃ kvs, H p = some (.dK kvs) ∧ RepK K F kvs ds) ∨ ∃ kvs, H p = some (.dT kvs) ∧ RepT K F kvs ds
  | _ => False
def SlOk (K : PySem.W.Frag) (F H : Hp) : Sl → Option V → Prop
  | .un, _ => True
  | .sh d, o => ∃ v, o = some v ∧ Rep K F v d
  | .ow _ d, o => ∃ p, o = some (.ref p) ∧ F p = none ∧ Own K F H p d
/-- a call's frame: the heap at entry, what is frozen of it, the arguments that are one's own -/
structure Gd where
  H0 : Hp
  F0 : Hp
  As : List Addr
  S0 : L2.St
structure Rel (K : PySem.W.Frag) (G : Gd) (en : En) (F H : Hp) (σ : L2.St) : Prop where
  len : en.length = σ.length
  sl : ∀ (i : Nat) (s : Sl), en[i]? = some s → SlOk K F H s (σ[i]?.join)
  dj : ∀ (i j : Nat) (b c : Bool) (d e : D) (p : Addr), en[i]? = some (.ow b d) → en[j]? = some (.ow c e) → σ[i]? = some (some (.ref p)) → σ[j]? = some (some (.ref p)) → i = j
  mn : ∀ (i : Nat) (b : Bool) (d : D) (p : Addr), en[i]? = some (.ow b d) → σ[i]? = some (some (.ref p)) → if b = true then p ∈ G.As else G.H0 p = none
  fh : Same F H
  f0 : Same G.F0 F
  nw : ∀ a o, F a = some o → G.F0 a = some o ∨ G.H0 a = none
  bs : ∀ a o, G.H0 a = some o → a ∉ G.As → H a = some o
  as : ∀ a ∈ G.As, ∃ o, H a = some o
  ar : ∀ (i : Nat) (d : D), en[i]? = some (.ow true d) → σ[i]? = G.S0[i]?
section
variable {K : PySem.W.Frag} {G : Gd} {en : En} {F F' H H' : Hp} {σ : L2.St} {i : Nat}
theorem Own.some {p : Addr} {d : D} (h : Own K F H p d) : ∃ o, H p = some o := by
  cases d with
  | list ds => obtain ⟨vs, e, _⟩ := h; exact ⟨_, e⟩
  | dict ds => rcases h with ⟨_, e, _⟩ | ⟨_, e, _⟩ <;> exact ⟨_, e⟩
  | _ => exact h.elim
theorem Own.mut {p : Addr} {d : D} (h : Own K F H p d) : Mut (H p) := by
  cases d with
  | list ds => obtain ⟨vs, e, _⟩ := h; rw [e]; trivial
  | dict ds => rcases h with ⟨_, e, _⟩ | ⟨_, e, _⟩ <;> (rw [e]; trivial)
  | _ => exact h.elim
theorem Own.mono {p : Addr} {d : D} (h : Own K F H p d) (s : Same F F') (k : H' p = H p) : Own K F' H' p d := by
  cases d with
  | list ds => obtain ⟨vs, e, r⟩ := h; exact ⟨vs, k.trans e, r.mono s⟩
  | dict ds =>
    rcases h with ⟨kvs, e, r⟩ | ⟨kvs, e, r⟩
    · exact .inl ⟨kvs, k.trans e, r.mono s⟩
    · exact .inr ⟨kvs, k.trans e, r.mono s⟩
  | _ => exact h.elim
theorem Own.rep {p : Addr} {d : D} (h : Own K F H p d) (s : Same F F') (k : F' p = H p) : Rep K F' (.ref p) d := by
  cases d with
  | list ds => obtain ⟨vs, e, r⟩ := h; exact .lst (.inl (.inl (k.trans e))) (r.mono s)
  | dict ds =>
    rcases h with ⟨kvs, e, r⟩ | ⟨kvs, e, r⟩
    · exact .dK (.inl (k.trans e)) (r.mono s)
    · exact .dT (.inl (k.trans e)) (r.mono s)
  | _ => exact h.elim
theorem join_some {o : Option (Option V)} {v : V} (h : o.join = some v) : o = some (some v) := by
  cases o with
  | none => cases h
  | some x => exact congrArg some h
theorem Rel.shV {d : D} (R : Rel K G en F H σ) (e : en[i]? = some (.sh d)) : ∃ v, σ[i]? = some (some v) ∧ Rep K F v d := by
  obtain ⟨v, h, r⟩ := R.sl i _ e
  exact ⟨v, join_some h, r⟩
theorem Rel.owV {b : Bool} {d : D} (R : Rel K G en F H σ) (e : en[i]? = some (.ow b d)) : ∃ p, σ[i]? = some (some (.ref p)) ∧ F p = none ∧ Own K F H p d := by
  obtain ⟨p, h, r⟩ := R.sl i _ e
  exact ⟨p, join_some h, r⟩
/-- an address that is free now was free at the entry -/
theorem Rel.free0 (R : Rel K G en F H σ) {a : Addr} (n : H a = none) : G.H0 a = none := by
  cases e : G.H0 a with
  | none => rfl
  | some o =>
    by_cases h : a ∈ G.As
    · obtain ⟨u, q⟩ := R.as a h
      rw [n] at q; cases q
    · have q := R.bs a o e h
      rw [n] at q; cases q
theorem Rel.grow (R : Rel K G en F H σ) (g : Grow F H F' H') : Rel K G en F' H' σ where
  len := R.len
  sl := fun j s e => by
    have h := R.sl j s e
    cases s with
    | un => trivial
    | sh d => obtain ⟨v, h1, h2⟩ := h; exact ⟨v, h1, h2.mono g.f⟩
    | ow b d =>
      obtain ⟨p, h1, h2, h3⟩ := h
      obtain ⟨o, ho⟩ := h3.some
      refine ⟨p, h1, ?_, h3.mono g.f ((g.h _ _ ho).trans ho.symm)⟩
      cases q : F' p with
      | none => rfl
      | some u =>
        rcases g.nw p u q with z | z
        · rw [h2] at z; cases z
        · rw [ho] at z; cases z
  dj := R.dj
  mn := R.mn
  fh := g.fh
  f0 := R.f0.trans g.f
  nw := fun a o e => by
    rcases g.nw a o e with z | z
    · exact R.nw a o z
    · exact .inr (R.free0 z)
  bs := fun a o e h => g.h _ _ (R.bs a o e h)
  as := fun a h => let ⟨o, q⟩ := R.as a h; ⟨o, g.h _ _ q⟩
  ar := R.ar
/-- a new thing that is not frozen -/
theorem Rel.newO {p : Addr} {o : HO} (R : Rel K G en F H σ) (n : H p = none) : Rel K G en F (upd H p o) σ where
  len := R.len
  sl := fun j s e => by
    have h := R.sl j s e
    cases s with
    | un => trivial
    | sh d => exact h
    | ow b d =>
      obtain ⟨q, h1, h2, h3⟩ := h
      obtain ⟨u, hu⟩ := h3.some
      exact ⟨q, h1, h2, h3.mono (.refl _) (by rw [upd_ne (ne_of_none hu n)])⟩
  dj := R.dj
  mn := R.mn
  fh := fun a u e => by rw [upd_ne (ne_of_none (R.fh _ _ e) n)]; exact R.fh _ _ e
  f0 := R.f0
  nw := R.nw
  bs := fun a u e h => by rw [upd_ne (ne_of_none (R.bs a u e h) n)]; exact R.bs a u e h
  as := fun a h => let ⟨u, q⟩ := R.as a h; ⟨u, by rw [upd_ne (ne_of_none q n)]; exact q⟩
  ar := R.ar
/-- a place is forgotten, or told what it may be told -/
theorem Rel.put {s : Sl} {v : V} (R : Rel K G en F H σ) (hs : SlOk K F H s (some v)) (hb : ∀ d, s ≠ .ow true d)
    (ho : ∀ b d p, s = .ow b d → v = .ref p → b = false ∧ G.H0 p = none ∧ ∀ (j : Nat) (c : Bool) (e : D), j ≠ i → en[j]? = some (.ow c e) → σ[j]? ≠ some (some (.ref p))) :
    Rel K G (en.set i s) F H (σ.set i (some v)) where
  len := by rw [List.length_set, List.length_set, R.len]
  sl := fun j t e => by
    by_cases h : i = j
    · subst h
      by_cases hi : i < en.length
      · rw [List.getElem?_set_self hi] at e
        cases e
        rw [List.getElem?_set_self (by rw [← R.len]; exact hi)]
        exact hs
      · rw [List.getElem?_eq_none (by rw [List.length_set]; omega)] at e; cases e
    · rw [List.getElem?_set_ne h] at e ⊢
      exact R.sl j t e
  dj := fun j k b c d e p h1 h2 h3 h4 => by
    have key : ∀ (j k : Nat) (b c : Bool) (d e : D), i = j → i ≠ k → (en.set i s)[j]? = some (.ow b d) → (en.set i s)[k]? = some (.ow c e) → (σ.set i (some v))[j]? = some (some (.ref p)) → (σ.set i (some v))[k]? = some (some (.ref p)) → False := by
      intro j k b c d e hj hk g1 g2 g3 g4
      subst hj
      rw [List.getElem?_set_ne hk] at g2 g4
      by_cases hi : i < en.length
      · rw [List.getElem?_set_self hi] at g1
        rw [List.getElem?_set_self (by rw [← R.len]; exact hi)] at g3
        have g1' : s = .ow b d := Option.some.inj g1
        have g3' : v = .ref p := Option.some.inj (Option.some.inj g3)
        exact (ho b d p g1' g3').2.2 k c e (Ne.symm hk) g2 g4
      · rw [List.getElem?_eq_none (by rw [List.length_set]; omega)] at g1; cases g1
    by_cases hj : i = j
    · by_cases hk : i = k
      · rw [← hj, ← hk]
      · exact (key j k b c d e hj hk h1 h2 h3 h4).elim
    · by_cases hk : i = k
      · exact (key k j c b e d hk hj h2 h1 h4 h3).elim
      · rw [List.getElem?_set_ne hj] at h1 h3
        rw [List.getElem?_set_ne hk] at h2 h4
        exact R.dj j k b c d e p h1 h2 h3 h4
  mn := fun j b d p h1 h3 => by
    by_cases hj : i = j
    · subst hj
      by_cases hi : i < en.length
      · rw [List.getElem?_set_self hi] at h1
        rw [List.getElem?_set_self (by rw [← R.len]; exact hi)] at h3
        obtain ⟨rfl, z, _⟩ := ho b d p (Option.some.inj h1) (Option.some.inj (Option.some.inj h3))
        simpa using z
      · rw [List.getElem?_eq_none (by rw [List.length_set]; omega)] at h1; cases h1
    · rw [List.getElem?_set_ne hj] at h1 h3
      exact R.mn j b d p h1 h3
  fh := R.fh
  f0 := R.f0
  nw := R.nw
  bs := R.bs
  as := R.as
  ar := fun j d h1 => by
    by_cases hj : i = j
    · subst hj
      by_cases hi : i < en.length
      · rw [List.getElem?_set_self hi] at h1
        exact (hb d (Option.some.inj h1)).elim
      · rw [List.getElem?_eq_none (by rw [List.length_set]; omega)] at h1; cases h1
    · rw [List.getElem?_set_ne hj] at h1 ⊢
      exact R.ar j d h1
theorem Rel.putSh {v : V} {d : D} (R : Rel K G en F H σ) (r : Rep K F v d) : Rel K G (en.set i (.sh d)) F H (σ.set i (some v)) :=
  R.put ⟨v, rfl, r⟩ (fun _ e => nomatch e) fun _ _ _ e => nomatch e
theorem Rel.putOw {p : Addr} {d : D} (R : Rel K G en F H σ) (n : F p = none) (o : Own K F H p d) (h0 : G.H0 p = none) (nd : ∀ (j : Nat) (b : Bool) (e : D), en[j]? = some (.ow b e) → σ[j]? ≠ some (some (.ref p))) :
    Rel K G (en.set i (.ow false d)) F H (σ.set i (some (.ref p))) :=
  R.put ⟨p, rfl, n, o⟩ (fun _ e => by cases e) fun b d' q e e' => by
    cases e
    cases e'
    exact ⟨rfl, h0, fun j c e _ => nd j c e⟩
/-- weaken a place, the state as it is -/
theorem Rel.re {s t : Sl} (R : Rel K G en F H σ) (h0 : en[i]? = some s) (hs : SlOk K F H t (σ[i]?.join)) (ho : ∀ b d, t = .ow b d → ∃ d', s = .ow b d') : Rel K G (en.set i t) F H σ where
  len := by rw [List.length_set, R.len]
  sl := fun j u e => by
    by_cases h : i = j
    · subst h
      by_cases hi : i < en.length
      · rw [List.getElem?_set_self hi] at e
        cases e
        exact hs
      · rw [List.getElem?_eq_none (by rw [List.length_set]; omega)] at e; cases e
    · rw [List.getElem?_set_ne h] at e
      exact R.sl j u e
  dj := fun j k b c d e p h1 h2 h3 h4 => by
    have key : ∀ (j : Nat) (b : Bool) (d : D), (en.set i t)[j]? = some (.ow b d) → ∃ d', en[j]? = some (.ow b d') := fun j b d g => by
      by_cases h : i = j
      · subst h
        by_cases hi : i < en.length
        · rw [List.getElem?_set_self hi] at g
          obtain ⟨d', e⟩ := ho b d (Option.some.inj g)
          exact ⟨d', by rw [h0, e]⟩
        · rw [List.getElem?_eq_none (by rw [List.length_set]; omega)] at g; cases g
      · rw [List.getElem?_set_ne h] at g
        exact ⟨d, g⟩
    obtain ⟨d1, g1⟩ := key j b d h1
    obtain ⟨d2, g2⟩ := key k c e h2
    exact R.dj j k b c d1 d2 p g1 g2 h3 h4
  mn := fun j b d p h1 h3 => by
    by_cases h : i = j
    · subst h
      by_cases hi : i < en.length
      · rw [List.getElem?_set_self hi] at h1
        obtain ⟨d', e⟩ := ho b d (Option.some.inj h1)
        exact R.mn i b d' p (by rw [h0, e]) h3
      · rw [List.getElem?_eq_none (by rw [List.length_set]; omega)] at h1; cases h1
    · rw [List.getElem?_set_ne h] at h1
      exact R.mn j b d p h1 h3
  fh := R.fh
  f0 := R.f0
  nw := R.nw
  bs := R.bs
  as := R.as
  ar := fun j d h1 => by
    by_cases h : i = j
    · subst h
      by_cases hi : i < en.length
      · rw [List.getElem?_set_self hi] at h1
        obtain ⟨d', e⟩ := ho true d (Option.some.inj h1)
        exact R.ar i d' (by rw [h0, e])
      · rw [List.getElem?_eq_none (by rw [List.length_set]; omega)] at h1; cases h1
    · rw [List.getElem?_set_ne h] at h1
      exact R.ar j d h1
theorem Rel.forget (R : Rel K G en F H σ) : Rel K G (en.set i .un) F H σ := by
  cases e : en[i]? with
  | none =>
    have h : en.set i .un = en := by
      apply List.set_eq_of_length_le
      exact List.getElem?_eq_none_iff.mp e
    rw [h]
    exact R
  | some s => exact R.re e (t := .un) (show True from trivial) fun _ _ q => nomatch q
/-- a thing of one's own is frozen -/
theorem Rel.freeze {d : D} (R : Rel K G en F H σ) (e : en[i]? = some (.ow false d)) : ∃ F' v, Rel K G (en.set i (.sh d)) F' H σ ∧ Same F F' ∧ σ[i]? = some (some v) ∧ Rep K F' v d := by
  obtain ⟨p, h1, h2, h3⟩ := R.owV e
  obtain ⟨o, ho⟩ := h3.some
  have sF : Same F (upd F p o) := fun a u q => by
    have ne : a ≠ p := fun z => by rw [z, h2] at q; cases q
    rw [upd_ne ne]; exact q
  have rp : Rep K (upd F p o) (.ref p) d := h3.rep sF (by rw [upd_same, ho])
  have h0 : G.H0 p = none := by
    have := R.mn i false d p e h1
    simpa using this
  have R1 : Rel K G (en.set i .un) F H σ := R.forget
  have hlen : i < en.length := (List.getElem?_eq_some_iff.mp e).1
  have R2 : Rel K G (en.set i .un) (upd F p o) H σ := {
    len := R1.len
    sl := fun j s q => by
      have h := R1.sl j s q
      cases s with
      | un => trivial
      | sh d => obtain ⟨v, g1, g2⟩ := h; exact ⟨v, g1, g2.mono sF⟩
      | ow b d' =>
        obtain ⟨p', g1, g2, g3⟩ := h
        have ne : p' ≠ p := by
          rintro rfl
          have hj : i ≠ j := fun z => by
            subst z
            rw [List.getElem?_set_self hlen] at q; cases q
          rw [List.getElem?_set_ne hj] at q
          exact hj (R.dj i j false b d d' p' e q h1 (join_some g1))
        refine ⟨p', g1, by rw [upd_ne ne]; exact g2, g3.mono sF rfl⟩
    dj := R1.dj
    mn := R1.mn
    fh := fun a u q => by
      by_cases h : a = p
      · rw [h, upd_same] at q; cases q; rw [h]; exact ho
      · rw [upd_ne h] at q; exact R.fh _ _ q
    f0 := R.f0.trans sF
    nw := fun a u q => by
      by_cases h : a = p
      · rw [h]; exact .inr h0
      · rw [upd_ne h] at q; exact R.nw a u q
    bs := R.bs
    as := R.as
    ar := R1.ar }
  have e2 : (en.set i .un)[i]? = some .un := List.getElem?_set_self hlen
  have R3 := R2.re (i := i) (t := .sh d) e2 ⟨.ref p, by rw [h1]; rfl, rp⟩ (fun _ _ q => nomatch q)
  rw [List.set_set] at R3
  exact ⟨upd F p o, .ref p, R3, sF, h1, rp⟩
/-- a thing of one's own is changed -/
theorem Rel.mut {b : Bool} {d d' : D} {p : Addr} {o : HO} (R : Rel K G en F H σ) (e : en[i]? = some (.ow b d)) (hp : σ[i]? = some (some (.ref p))) (hn : Own K F (upd H p o) p d') : Rel K G (en.set i (.ow b d')) F (upd H p o) σ := by
  obtain ⟨p', h1, h2, h3⟩ := R.owV e
  have ep : p' = p := by rw [hp] at h1; cases h1; rfl
  subst ep
  have hlen : i < en.length := (List.getElem?_eq_some_iff.mp e).1
  have R2 : Rel K G (en.set i .un) F (upd H p' o) σ := {
    len := by rw [List.length_set, R.len]
    sl := fun j s q => by
      have h := (R.forget (i := i)).sl j s q
      cases s with
      | un => trivial
      | sh d => exact h
      | ow c d2 =>
        obtain ⟨p2, g1, g2, g3⟩ := h
        have ne : p2 ≠ p' := by
          rintro rfl
          have hj : i ≠ j := fun z => by
            subst z
            rw [List.getElem?_set_self hlen] at q; cases q
          rw [List.getElem?_set_ne hj] at q
          exact hj (R.dj i j b c d d2 p2 e q h1 (join_some g1))
        exact ⟨p2, g1, g2, g3.mono (.refl _) (by rw [upd_ne ne])⟩
    dj := (R.forget (i := i)).dj
    mn := (R.forget (i := i)).mn
    fh := fun a u q => by
      have ne : a ≠ p' := fun z => by rw [z, h2] at q; cases q
      rw [upd_ne ne]; exact R.fh _ _ q
    f0 := R.f0
    nw := R.nw
    bs := fun a u q hA => by
      have ne : a ≠ p' := by
        rintro rfl
        have m := R.mn i b d a e h1
        cases b with
        | true => exact hA (by simpa using m)
        | false => rw [show G.H0 a = none by simpa using m] at q; cases q
      rw [upd_ne ne]; exact R.bs a u q hA
    as := fun a hA => by
      by_cases h : a = p'
      · exact ⟨o, by rw [h, upd_same]⟩
      · obtain ⟨u, q⟩ := R.as a hA; exact ⟨u, by rw [upd_ne h]; exact q⟩
    ar := (R.forget (i := i)).ar }
  have m := R.mn i b d p' e h1
  refine {
    len := by rw [List.length_set, R.len]
    sl := fun j s q => ?_
    dj := fun j k c1 c2 d1 d2 p2 g1 g2 g3 g4 => ?_
    mn := fun j c d2 p2 g1 g3 => ?_
    fh := R2.fh, f0 := R2.f0, nw := R2.nw, bs := R2.bs, as := R2.as
    ar := fun j d1 g1 => ?_ }
  · by_cases h : i = j
    · subst h
      rw [List.getElem?_set_self hlen] at q
      cases q
      exact ⟨p', by rw [h1]; rfl, h2, hn⟩
    · rw [List.getElem?_set_ne h] at q
      exact R2.sl j s (by rw [List.getElem?_set_ne h]; exact q)
  · have key : ∀ (j : Nat) (c : Bool) (d1 : D), (en.set i (.ow b d'))[j]? = some (.ow c d1) → ∃ d3, en[j]? = some (.ow c d3) := fun j c d1 g => by
      by_cases h : i = j
      · subst h
        rw [List.getElem?_set_self hlen] at g
        cases g
        exact ⟨d, e⟩
      · rw [List.getElem?_set_ne h] at g; exact ⟨d1, g⟩
    obtain ⟨x1, y1⟩ := key j c1 d1 g1
    obtain ⟨x2, y2⟩ := key k c2 d2 g2
    exact R.dj j k c1 c2 x1 x2 p2 y1 y2 g3 g4
  · by_cases h : i = j
    · subst h
      rw [List.getElem?_set_self hlen] at g1
      cases g1
      exact R.mn i b d p2 e g3
    · rw [List.getElem?_set_ne h] at g1
      exact R.mn j c d2 p2 g1 g3
  · by_cases h : i = j
    · subst h
      rw [List.getElem?_set_self hlen] at g1
      cases g1
      exact R.ar i d e
    · rw [List.getElem?_set_ne h] at g1
      exact R.ar j d1 g1
end
end M
set_option Elab.async false
set_option linter.all false
set_option maxRecDepth 100000
set_option autoImplicit false
/-! M2: results, judgements, operators. -/
namespace M
noncomputable section
open PySem PySem.Spec PyProof.Rows L2

/-- an exception by its class's name and its fields -/
structure Xn where
  cls : Str
  fs : List (Str × D)
inductive R (α : Type) where
  | bad
  | ok (a : α) (e : En)
  | ex (x : Xn) (e : En)
def R.bind {α β : Type} (r : R α) (g : α → En → R β) : R β := match r with
  | .bad => .bad
  | .ok a e => g a e
  | .ex x e => .ex x e
abbrev Ev (α : Type) := En → R α
/-- an operand: data, or what stands at a place -/
inductive A where
  | sh (d : D)
  | bor (i : Nat)
def AOk (K : PySem.W.Frag) (F : Hp) (σ : L2.St) : A → V → Prop
  | .sh d, v => Rep K F v d
  | .bor i, v => σ[i]? = some (some v)
def AsOk (K : PySem.W.Frag) (F : Hp) (σ : L2.St) : List A → List V → Prop
  | [], vs => vs = []
  | a :: as, vs => ∃ v ws, vs = v :: ws ∧ AOk K F σ a v ∧ AsOk K F σ as ws
def XOk (X : Cx) (F : Hp) (x : Xn) (cls : Value) (dd : Option Addr) : Prop :=
  ∃ C, X.mg x.cls = some (.ref C) ∧ cls = .ref C ∧ (x.fs = [] → dd = none) ∧ (x.fs ≠ [] → ∃ d fvs, dd = some d ∧ F d = some (.xd fvs) ∧ fvs.map (·.1) = x.fs.map (·.1) ∧ Reps X.K F (fvs.map (·.2)) (x.fs.map (·.2)))
section
variable {K : PySem.W.Frag} {F F' : Hp} {σ : L2.St}
theorem AOk.mono {a : A} {v : V} (s : Same F F') (h : AOk K F σ a v) : AOk K F' σ a v := by
  cases a with
  | sh d => exact Rep.mono s h
  | bor i => exact h
theorem AsOk.mono (s : Same F F') : ∀ {as : List A} {vs : List V}, AsOk K F σ as vs → AsOk K F' σ as vs
  | [], _, h => h
  | _ :: _, _, ⟨v, ws, e, h, t⟩ => ⟨v, ws, e, h.mono s, AsOk.mono s t⟩
theorem AsOk.len : ∀ {as : List A} {vs : List V}, AsOk K F σ as vs → vs.length = as.length
  | [], _, h => by rw [h] <;> rfl
  | _ :: as, _, ⟨v, ws, e, h, t⟩ => by rw [e, List.length_cons, AsOk.len t, List.length_cons]
end
/-- data frozen, or one's own as it stands -/
def PRep (K : PySem.W.Frag) (F H : Hp) (v : V) (d : D) : Prop := Rep K F v d ∨ ∃ p, v = .ref p ∧ Own K F H p d
def PReps (K : PySem.W.Frag) (F H : Hp) : List V → List D → Prop
  | vs, [] => vs = []
  | vs, d :: ds => ∃ v ws, vs = v :: ws ∧ PRep K F H v d ∧ PReps K F H ws ds
def res (e : En) : A → Option D
  | .sh d => some d
  | .bor i => match e[i]? with
    | some (.sh d) => some d
    | some (.ow _ d) => some d
    | _ => none
def ress (e : En) : List A → Option (List D)
  | [] => some []
  | a :: as => (res e a).bind fun d => (ress e as).bind fun ds => some (d :: ds)
section
variable {K : PySem.W.Frag} {G : Gd} {F F0 H : Hp} {σ : L2.St} {en : En}
theorem res_ok {a : A} {v : V} {d : D} (r : Rel K G en F H σ) (h : AOk K F σ a v) (e : res en a = some d) : PRep K F H v d := by
  cases a with
  | sh d' => cases e; exact .inl h
  | bor i =>
    unfold res at e
    simp only at e
    split at e
    · rename_i d' h1
      cases e
      obtain ⟨v', h2, h3⟩ := r.shV h1
      have : σ[i]? = some (some v) := h
      rw [this] at h2
      cases h2
      exact .inl h3
    · rename_i b d' h1
      cases e
      obtain ⟨p, h2, _, h3⟩ := r.owV h1
      have : σ[i]? = some (some v) := h
      rw [this] at h2
      cases h2
      exact .inr ⟨p, rfl, h3⟩
    · cases e
theorem ress_ok (r : Rel K G en F H σ) : ∀ {as : List A} {vs : List V} {ds : List D}, AsOk K F σ as vs → ress en as = some ds → PReps K F H vs ds
  | [], _, _, h, e => by cases e; exact h
  | a :: as, _, ds, ⟨v, ws, e1, h, t⟩, e => by
    unfold ress at e
    obtain ⟨d, e2, e⟩ := Option.bind_eq_some_iff.mp e
    obtain ⟨ds', e3, e⟩ := Option.bind_eq_some_iff.mp e
    cases e
    exact ⟨v, ws, e1, res_ok r h e2, ress_ok r t e3⟩
theorem PRep.list {v : V} {ds : List D} (s : Same F H) (h : PRep K F H v (.list ds)) : ∃ a vs, v = .ref a ∧ SqL K H a vs ∧ Reps K F vs ds := by
  rcases h with h | ⟨p, rfl, vs, h, r⟩
  · cases h with
    | lst h r => exact ⟨_, _, rfl, s.seq h, r⟩
  · exact ⟨p, vs, rfl, .inl (.inl h), r⟩
theorem PRep.tup {v : V} {ds : List D} (s : Same F H) (h : PRep K F H v (.tuple ds)) : ∃ a vs, v = .ref a ∧ SqT K H a vs ∧ Reps K F vs ds := by
  rcases h with h | ⟨p, rfl, h⟩
  · cases h with
    | tup h r => exact ⟨_, _, rfl, SqT.mono s h, r⟩
  · exact h.elim
theorem PRep.rep {v : V} {d : D} (s : Same F H) (h : PRep K F H v d) : Rep K H v d := by
  rcases h with h | ⟨p, rfl, h⟩
  · exact h.mono s
  · exact h.rep s rfl
theorem PRep.int {v : V} {i : Int} (h : PRep K F H v (.int i)) : v = .int i := by
  rcases h with h | ⟨p, rfl, h⟩
  · cases h; rfl
  · exact h.elim
theorem PRep.bool {v : V} {i : Bool} (h : PRep K F H v (.bool i)) : v = .bl i := by
  rcases h with h | ⟨p, rfl, h⟩
  · cases h; rfl
  · exact h.elim
theorem PRep.str {v : V} {i : Str} (h : PRep K F H v (.str i)) : v = .str i := by
  rcases h with h | ⟨p, rfl, h⟩
  · cases h; rfl
  · exact h.elim
theorem PRep.non {v : V} (h : PRep K F H v .none) : v = .non := by
  rcases h with h | ⟨p, rfl, h⟩
  · cases h; rfl
  · exact h.elim
end

/-- what is wanted of an expression's result -/
def PostE (X : Cx) (W : WX) (G : Gd) (F : Hp) (σ : L2.St) {α β : Type} (ok : Hp → α → β → Prop) : R α → (β → Hp → Prop) → Prop
  | .bad, _ => False
  | .ok a e, Q => ∀ v F' H', Rel X.K G e F' H' σ → Same F F' → ok F' a v → Q v H'
  | .ex x e, _ => ∀ cls dd F' H', Rel X.K G e F' H' σ → Same F F' → XOk X F' x cls dd → W cls dd σ H'
theorem PostE.bind {X : Cx} {W : WX} {G : Gd} {F : Hp} {σ : L2.St} {α β γ δ : Type} {ok : Hp → α → β → Prop} {ok' : Hp → γ → δ → Prop} {r : R α} {g : α → En → R γ} {Q : δ → Hp → Prop} {Q' : β → Hp → Prop}
    (h : PostE X W G F σ ok' (r.bind g) Q) (k : ∀ a e v F' H', Rel X.K G e F' H' σ → Same F F' → ok F' a v → PostE X W G F' σ ok' (g a e) Q → Q' v H') : PostE X W G F σ ok r Q' := by
  cases r with
  | bad => exact h
  | ok a e =>
    intro v F' H' R s o
    refine k a e v F' H' R s o ?_
    have h' : PostE X W G F σ ok' (g a e) Q := h
    cases q : g a e with
    | bad => rw [q] at h'; exact h'
    | ok b e2 => rw [q] at h'; exact fun w F2 H2 R2 s2 o2 => h' w F2 H2 R2 (s.trans s2) o2
    | ex x e2 => rw [q] at h'; exact fun w dd F2 H2 R2 s2 o2 => h' w dd F2 H2 R2 (s.trans s2) o2
  | ex x e => exact h
abbrev PE1 (X : Cx) (W : WX) (G : Gd) (F : Hp) (σ : L2.St) (r : R A) (Q : VK) : Prop := PostE X W G F σ (fun F' a v => AOk X.K F' σ a v) r Q
/-- an expression, its meaning -/
structure DX (X : Cx) (W : WX) (e : Expr) (f : Ev A) : Prop where
  ex : ∃ t : TE, PE X e t ∧ ∀ (G : Gd) (en : En) (F H : Hp) (σ : L2.St) (Q : VK), Rel X.K G en F H σ → PE1 X W G F σ (f en) Q → t σ H Q
abbrev PA1 (X : Cx) (W : WX) (G : Gd) (F : Hp) (σ : L2.St) (r : R (List A)) (Q : List V → Hp → Prop) : Prop := PostE X W G F σ (fun F' a v => AsOk X.K F' σ a v) r Q
structure DA (X : Cx) (W : WX) (es : List Expr) (f : Ev (List A)) : Prop where
  ex : ∃ t : TA, PA X es t ∧ ∀ (G : Gd) (en : En) (F H : Hp) (σ : L2.St) (Q : List V → Hp → Prop), Rel X.K G en F H σ → PA1 X W G F σ (f en) Q → t σ H Q
abbrev PT1 (X : Cx) (W : WX) (G : Gd) (F : Hp) (σ : L2.St) (r : R Bool) (Q : Bool → Hp → Prop) : Prop := PostE X W G F σ (fun _ a v => a = v) r Q
structure DT (X : Cx) (W : WX) (e : Expr) (f : Ev Bool) : Prop where
  ex : ∃ t : TT, PT X e t ∧ ∀ (G : Gd) (en : En) (F H : Hp) (σ : L2.St) (Q : Bool → Hp → Prop), Rel X.K G en F H σ → PT1 X W G F σ (f en) Q → t σ H Q
structure DW (X : Cx) (W : WX) (e : Expr) (f : Ev Bool) : Prop where
  ex : ∃ t : TT, PW X e t ∧ ∀ (G : Gd) (en : En) (F H : Hp) (σ : L2.St) (Q : Bool → Hp → Prop), Rel X.K G en F H σ → PT1 X W G F σ (f en) Q → t σ H Q
/-- an expression that makes a new thing of one's own -/
def NewAt (G : Gd) (en : En) (K : PySem.W.Frag) (F H : Hp) (σ : L2.St) (d : D) (v : V) : Prop :=
  ∃ p, v = .ref p ∧ F p = none ∧ Own K F H p d ∧ G.H0 p = none ∧ ∀ (j : Nat) (b : Bool) (e : D), en[j]? = some (.ow b e) → σ[j]? ≠ some (some (.ref p))
def PostO (X : Cx) (W : WX) (G : Gd) (F : Hp) (σ : L2.St) : R D → VK → Prop
  | .bad, _ => False
  | .ok d e, Q => ∀ v F' H', Rel X.K G e F' H' σ → Same F F' → NewAt G e X.K F' H' σ d v → Q v H'
  | .ex x e, _ => ∀ cls dd F' H', Rel X.K G e F' H' σ → Same F F' → XOk X F' x cls dd → W cls dd σ H'
structure DO (X : Cx) (W : WX) (e : Expr) (f : Ev D) : Prop where
  ex : ∃ t : TE, PE X e t ∧ ∀ (G : Gd) (en : En) (F H : Hp) (σ : L2.St) (Q : VK), Rel X.K G en F H σ → PostO X W G F σ (f en) Q → t σ H Q

/-! ### meanings -/
def fin (o : Option D) (e : En) : R A := match o with
  | some d => .ok (.sh d) e
  | none => .bad
def eVar (i : Nat) : Ev A := fun e => match e[i]? with
  | some (.sh d) => .ok (.sh d) e
  | some (.ow _ _) => .ok (.bor i) e
  | _ => .bad
def eC (d : D) : Ev A := fun e => .ok (.sh d) e
def eUn (g : D → Option D) (fa : Ev A) : Ev A := fun e => (fa e).bind fun a e1 => fin ((res e1 a).bind g) e1
def eBin (g : D → D → Option D) (fa fb : Ev A) : Ev A := fun e => (fa e).bind fun a e1 => (fb e1).bind fun b e2 => fin ((res e2 a).bind fun x => (res e2 b).bind fun y => g x y) e2
def eNil : Ev (List A) := fun e => .ok [] e
def eCons (fa : Ev A) (fs : Ev (List A)) : Ev (List A) := fun e => (fa e).bind fun a e1 => (fs e1).bind fun as e2 => .ok (a :: as) e2
def eFn (g : List D → Option D) (fs : Ev (List A)) : Ev A := fun e => (fs e).bind fun as e1 => fin ((ress e1 as).bind g) e1
def eOwn (f : Ev D) : Ev A := fun e => (f e).bind fun d e1 => .ok (.sh d) e1
/-- frozen from now on -/
def hold1 (e : En) : A → Option (D × En)
  | .sh d => some (d, e)
  | .bor i => match e[i]? with
    | some (.sh d) => some (d, e)
    | some (.ow false d) => some (d, e.set i (.sh d))
    | _ => none
def holds : List A → En → Option (List D × En)
  | [], e => some ([], e)
  | a :: as, e => (hold1 e a).bind fun p => (holds as p.2).bind fun q => some (p.1 :: q.1, q.2)
def eHold (f : Ev A) : Ev D := fun e => (f e).bind fun a e1 => match hold1 e1 a with
  | some (d, e2) => .ok d e2
  | none => .bad
def eHolds (f : Ev (List A)) : Ev (List D) := fun e => (f e).bind fun a e1 => match holds a e1 with
  | some (d, e2) => .ok d e2
  | none => .bad
/-- sealed, that the kernel does not reckon here -/
def smallS : {f : Nat → Bool // ∀ n, f n = decide (n ≤ 1000000)} := Classical.choice ⟨⟨fun n => decide (n ≤ 1000000), fun _ => rfl⟩⟩
def small (n : Nat) : Bool := smallS.1 n
theorem small_d (n : Nat) : small n = decide (n ≤ 1000000) := smallS.2 n
theorem small_of {n : Nat} (h : small n = true) : n ≤ 1000000 := of_decide_eq_true ((small_d n).symm.trans h)
def in63S : {f : Int → Bool // ∀ i, f i = decide (-(2 ^ 63) ≤ i ∧ i < 2 ^ 63)} := Classical.choice ⟨⟨fun i => decide (-(2 ^ 63) ≤ i ∧ i < 2 ^ 63), fun _ => rfl⟩⟩
def in63 (i : Int) : Bool := in63S.1 i
theorem in63_d (i : Int) : in63 i = decide (-(2 ^ 63) ≤ i ∧ i < 2 ^ 63) := in63S.2 i
def up63S : {f : Int → Bool // ∀ i, f i = decide (0 ≤ i ∧ i < 2 ^ 63)} := Classical.choice ⟨⟨fun i => decide (0 ≤ i ∧ i < 2 ^ 63), fun _ => rfl⟩⟩
def up63 (i : Int) : Bool := up63S.1 i
theorem up63_d (i : Int) : up63 i = decide (0 ≤ i ∧ i < 2 ^ 63) := up63S.2 i
def eTup (f : Ev (List A)) : Ev A := fun e => (eHolds f e).bind fun ds e1 => if small ds.length then .ok (.sh (.tuple ds)) e1 else .bad
def oLst (f : Ev (List A)) : Ev D := fun e => (eHolds f e).bind fun ds e1 => if small ds.length then .ok (.list ds) e1 else .bad
def eIf (c : Ev Bool) (fa fb : Ev A) : Ev A := fun e => (c e).bind fun b e1 => if b = true then fa e1 else fb e1
def bOf : D → Option Bool
  | .bool b => some b
  | _ => none
def tOf (f : Ev A) : Ev Bool := fun e => (f e).bind fun a e1 => match (res e1 a).bind bOf with
  | some b => .ok b e1
  | none => .bad
def tAnd2 (fa fb : Ev Bool) : Ev Bool := fun e => (fa e).bind fun b e1 => if b = true then fb e1 else .ok false e1
def tOr2 (fa fb : Ev Bool) : Ev Bool := fun e => (fa e).bind fun b e1 => if b = true then .ok true e1 else fb e1
def tNo (fa : Ev Bool) : Ev Bool := fun e => (fa e).bind fun b e1 => .ok (!b) e1
def eAnd (fa fb : Ev A) : Ev A := fun e => (fa e).bind fun a e1 => match (res e1 a).bind bOf with
  | some true => fb e1
  | some false => .ok (.sh (.bool false)) e1
  | none => .bad
def eOr (fa fb : Ev A) : Ev A := fun e => (fa e).bind fun a e1 => match (res e1 a).bind bOf with
  | some true => .ok (.sh (.bool true)) e1
  | some false => fb e1
  | none => .bad
def eNot (fa : Ev A) : Ev A := fun e => (fa e).bind fun a e1 => match (res e1 a).bind bOf with
  | some b => .ok (.sh (.bool (!b))) e1
  | none => .bad

/-! ### operators by values -/
def OpD (K : PySem.W.Frag) (r : R2) (g : D → D → Option D) : Prop := ∀ (F H : Hp) (x y : V) (d e q : D) (Q : VK), Same F H → PRep K F H x d → PRep K F H y e → g d e = some q → (∀ v F' H', Grow F H F' H' → Rep K F' v q → Q v H') → r x y H Q
def UnD (K : PySem.W.Frag) (r : V → Hp → VK → Prop) (g : D → Option D) : Prop := ∀ (F H : Hp) (x : V) (d q : D) (Q : VK), Same F H → PRep K F H x d → g d = some q → (∀ v F' H', Grow F H F' H' → Rep K F' v q → Q v H') → r x H Q
def FnD (K : PySem.W.Frag) (r : List V → Hp → VK → Prop) (g : List D → Option D) : Prop := ∀ (F H : Hp) (xs : List V) (ds : List D) (q : D) (Q : VK), Same F H → PReps K F H xs ds → g ds = some q → (∀ v F' H', Grow F H F' H' → Rep K F' v q → Q v H') → r xs H Q
section
variable {X : Cx} {W : WX} {a b c : Expr} {pos : Pos} {fa fb : Ev A}
theorem fin_ok {G : Gd} {F F' H H' : Hp} {σ : L2.St} {en : En} {o : Option D} {d : D} {v : V} {Q : VK} (R : Rel X.K G en F H σ) (h : PE1 X W G F σ (fin o en) Q) (e : o = some d) (g : Grow F H F' H') (r : Rep X.K F' v d) : Q v H' := by
  subst e
  exact h v F' H' (R.grow g) g.f r
theorem fin_some {G : Gd} {F : Hp} {σ : L2.St} {en : En} {o : Option D} {Q : VK} (h : PE1 X W G F σ (fin o en) Q) : ∃ d, o = some d := by
  cases o with
  | none => exact h.elim
  | some d => exact ⟨d, rfl⟩
theorem dx_c {d : D} {v : V} (h : PE X a (tC v)) (r : ∀ F, Rep X.K F v d) : DX X W a (eC d) :=
  ⟨_, h, fun G en F H σ Q R q => q v F H R (.refl _) (r F)⟩
theorem dx_int {i : Int} {j : Nat} : DX X W (.Constant (.int i) j pos) (eC (.int i)) := dx_c pe_int fun _ => .int i
theorem dx_bl {i : Bool} {j : Nat} : DX X W (.Constant (.bool i) j pos) (eC (.bool i)) := dx_c pe_bl fun _ => .bl i
theorem dx_non {j : Nat} : DX X W (.Constant .none j pos) (eC .none) := dx_c pe_non fun _ => .non
theorem dx_str {i : Str} {j : Nat} : DX X W (.Constant (.str i) j pos) (eC (.str i)) := dx_c pe_str fun _ => .str i
theorem dx_var (i : Nat) {x : Str} (hN : X.N[i]? = some x := by rfl) (hv : Vis X.env.scope x := by first | exact Or.inl rfl | exact Or.inr (Or.inl rfl) | exact Or.inr (Or.inr rfl)) (hd : (x == ("__debug__" : Str)) = false := by decide)
    (hcd : (x == ("__classdict__" : Str)) = false := by decide) : DX X W (.Name x pos) (eVar i) := by
  refine ⟨_, pe_var hN hv hd hcd, fun G en F H σ Q R q => ?_⟩
  unfold eVar at q
  cases e : en[i]? with
  | none => rw [e] at q; exact q.elim
  | some s =>
    rw [e] at q
    cases s with
    | un => exact q.elim
    | sh d =>
      obtain ⟨v, h1, h2⟩ := R.shV e
      exact ⟨v, h1, q v F H R (.refl _) h2⟩
    | ow bb d =>
      obtain ⟨p, h1, _, _⟩ := R.owV e
      exact ⟨.ref p, h1, q (.ref p) F H R (.refl _) h1⟩
theorem dx_op {op : Operator} {r : R2} {g : D → D → Option D} (ho : OpR X (binaryOp op) r) (hg : OpD X.K r g) (ha : DX X W a fa) (hb : DX X W b fb) : DX X W (.BinOp a op b pos) (eBin g fa fb) := by
  obtain ⟨ta, pa, qa⟩ := ha.ex
  obtain ⟨tb, pb, qb⟩ := hb.ex
  refine ⟨_, pe_op ho pa pb, fun G en F H σ Q R q => qa G en F H σ _ R (q.bind fun x e1 v F1 H1 R1 s1 o1 q1 => qb G e1 F1 H1 σ _ R1 (q1.bind fun y e2 w F2 H2 R2 s2 o2 q2 => ?_))⟩
  obtain ⟨d, ed⟩ := fin_some q2
  obtain ⟨d1, e1', ed'⟩ := Option.bind_eq_some_iff.mp ed
  obtain ⟨d2, e2', ed''⟩ := Option.bind_eq_some_iff.mp ed'
  exact hg F2 H2 v w d1 d2 d Q R2.fh (res_ok R2 (o1.mono s2) e1') (res_ok R2 o2 e2') ed'' fun v F' H' g r => fin_ok R2 q2 ed g r
theorem dx_cmp {op : CmpOp} {r : R2} {g : D → D → Option D} (ho : OpR X (compareOp op) r) (hg : OpD X.K r g) (ha : DX X W a fa) (hb : DX X W b fb) (hm : behindInMarks op b = false) : DX X W (.Compare a [op] [b] pos) (eBin g fa fb) := by
  obtain ⟨ta, pa, qa⟩ := ha.ex
  obtain ⟨tb, pb, qb⟩ := hb.ex
  refine ⟨_, pe_cmpR ho pa pb hm, fun G en F H σ Q R q => qa G en F H σ _ R (q.bind fun x e1 v F1 H1 R1 s1 o1 q1 => qb G e1 F1 H1 σ _ R1 (q1.bind fun y e2 w F2 H2 R2 s2 o2 q2 => ?_))⟩
  obtain ⟨d, ed⟩ := fin_some q2
  obtain ⟨d1, e1', ed'⟩ := Option.bind_eq_some_iff.mp ed
  obtain ⟨d2, e2', ed''⟩ := Option.bind_eq_some_iff.mp ed'
  exact hg F2 H2 v w d1 d2 d Q R2.fh (res_ok R2 (o1.mono s2) e1') (res_ok R2 o2 e2') ed'' fun v F' H' g r => fin_ok R2 q2 ed g r
theorem dx_ix {r : R2} {g : D → D → Option D} (ho : IxR X r) (hg : OpD X.K r g) (ha : DX X W a fa) (hb : DX X W b fb) (hs : PlainIx b) : DX X W (.Subscript a b pos) (eBin g fa fb) := by
  obtain ⟨ta, pa, qa⟩ := ha.ex
  obtain ⟨tb, pb, qb⟩ := hb.ex
  refine ⟨_, pe_ix ho pa pb hs, fun G en F H σ Q R q => qa G en F H σ _ R (q.bind fun x e1 v F1 H1 R1 s1 o1 q1 => qb G e1 F1 H1 σ _ R1 (q1.bind fun y e2 w F2 H2 R2 s2 o2 q2 => ?_))⟩
  obtain ⟨d, ed⟩ := fin_some q2
  obtain ⟨d1, e1', ed'⟩ := Option.bind_eq_some_iff.mp ed
  obtain ⟨d2, e2', ed''⟩ := Option.bind_eq_some_iff.mp ed'
  exact hg F2 H2 v w d1 d2 d Q R2.fh (res_ok R2 (o1.mono s2) e1') (res_ok R2 o2 e2') ed'' fun v F' H' g r => fin_ok R2 q2 ed g r
theorem dx_un {op : UnaryOp} {r : V → Hp → VK → Prop} {g : D → Option D} (ho : UnR X (unaryOp op) r) (hg : UnD X.K r g) (ha : DX X W a fa) : DX X W (.UnaryOp op a pos) (eUn g fa) := by
  obtain ⟨ta, pa, qa⟩ := ha.ex
  refine ⟨_, pe_un ho pa, fun G en F H σ Q R q => qa G en F H σ _ R (q.bind fun x e1 v F1 H1 R1 s1 o1 q1 => ?_)⟩
  obtain ⟨d, ed⟩ := fin_some q1
  obtain ⟨d1, e1', ed'⟩ := Option.bind_eq_some_iff.mp ed
  exact hg F1 H1 v d1 d Q R1.fh (res_ok R1 o1 e1') ed' fun v F' H' g r => fin_ok R1 q1 ed g r
theorem da_nil : DA X W [] eNil := ⟨_, pa_nil, fun G en F H σ Q R q => q [] F H R (.refl _) rfl⟩
theorem da_cons {es : List Expr} {fs : Ev (List A)} (ha : DX X W a fa) (hr : DA X W es fs) (hs : starEach (a :: es) X.env = (false, eval a X.env) :: starEach es X.env := by rfl) : DA X W (a :: es) (eCons fa fs) := by
  obtain ⟨ta, pa, qa⟩ := ha.ex
  obtain ⟨tb, pb, qb⟩ := hr.ex
  refine ⟨_, pa_cons pa pb hs, fun G en F H σ Q R q => qa G en F H σ _ R (q.bind fun x e1 v F1 H1 R1 s1 o1 q1 => qb G e1 F1 H1 σ _ R1 (q1.bind fun y e2 w F2 H2 R2 s2 o2 q2 => ?_))⟩
  exact q2 (v :: w) F2 H2 R2 (.refl _) ⟨v, w, rfl, o1.mono s2, o2⟩
theorem dx_fnB {x : Str} {id : String} {r : List V → Hp → VK → Prop} {g : List D → Option D} {es : List Expr} {fs : Ev (List A)} {p : Pos} (hc : CallR X (.builtin id) r) (hg' : FnD X.K r g) (hg : Gl X x) (hm : X.mg x = none) (hv : bootBuiltins x = some (.builtin id)) (ha : DA X W (a :: es) fs) (hn : x ≠ "__name__" := by decide) (hdb : (x == ("__debug__" : Str)) = false := by decide)
    (he : starEach (a :: es) X.env = (false, eval a X.env) :: starEach es X.env := by rfl) (hpl : (backTo pos (starEach es X.env)).any (·.1) = false := by rfl) : DX X W (.Call (.Name x p) (a :: es) [] pos) (eFn g fs) := by
  obtain ⟨ta, pa, qa⟩ := ha.ex
  refine ⟨_, pe_callB hc hg hm hv pa hn hdb he hpl, fun G en F H σ Q R q => qa G en F H σ _ R (q.bind fun x e1 v F1 H1 R1 s1 o1 q1 => ?_)⟩
  obtain ⟨d, ed⟩ := fin_some q1
  obtain ⟨d1, e1', ed'⟩ := Option.bind_eq_some_iff.mp ed
  exact hg' F1 H1 v d1 d Q R1.fh (ress_ok R1 o1 e1') ed' fun v F' H' g r => fin_ok R1 q1 ed g r
theorem dx_fnT {x : Str} {T : String} {r : List V → Hp → VK → Prop} {g : List D → Option D} {es : List Expr} {fs : Ev (List A)} {p : Pos} (hc : CallR X (.type T) r) (hg' : FnD X.K r g) (hg : Gl X x) (hm : X.mg x = none) (hv : bootBuiltins x = some (.type T)) (ha : DA X W (a :: es) fs) (hn : x ≠ "__name__" := by decide) (hdb : (x == ("__debug__" : Str)) = false := by decide)
    (he : starEach (a :: es) X.env = (false, eval a X.env) :: starEach es X.env := by rfl) (hpl : (backTo pos (starEach es X.env)).any (·.1) = false := by rfl) : DX X W (.Call (.Name x p) (a :: es) [] pos) (eFn g fs) := by
  obtain ⟨ta, pa, qa⟩ := ha.ex
  refine ⟨_, pe_callTy hc hg hm hv pa hn hdb he hpl, fun G en F H σ Q R q => qa G en F H σ _ R (q.bind fun x e1 v F1 H1 R1 s1 o1 q1 => ?_)⟩
  obtain ⟨d, ed⟩ := fin_some q1
  obtain ⟨d1, e1', ed'⟩ := Option.bind_eq_some_iff.mp ed
  exact hg' F1 H1 v d1 d Q R1.fh (ress_ok R1 o1 e1') ed' fun v F' H' g r => fin_ok R1 q1 ed g r

/-! ### freezing, displays -/
theorem hold1_ok {G : Gd} {F H : Hp} {σ : L2.St} {en e' : En} {o : A} {v : V} {d : D} (R : Rel X.K G en F H σ) (h : AOk X.K F σ o v) (e : hold1 en o = some (d, e')) : ∃ F', Rel X.K G e' F' H σ ∧ Same F F' ∧ Rep X.K F' v d := by
  cases o with
  | sh d' => cases e; exact ⟨F, R, .refl _, h⟩
  | bor i =>
    unfold hold1 at e
    simp only at e
    have hv : σ[i]? = some (some v) := h
    split at e
    · rename_i d' h1
      cases e
      obtain ⟨v', h2, h3⟩ := R.shV h1
      rw [hv] at h2
      cases h2
      exact ⟨F, R, .refl _, h3⟩
    · rename_i d' h1
      cases e
      obtain ⟨F', v', R', s', h2, h3⟩ := R.freeze h1
      rw [hv] at h2
      cases h2
      exact ⟨F', R', s', h3⟩
    · cases e
theorem holds_ok {G : Gd} {H : Hp} {σ : L2.St} : ∀ {os : List A} {F : Hp} {en e' : En} {vs : List V} {ds : List D}, Rel X.K G en F H σ → AsOk X.K F σ os vs → holds os en = some (ds, e') → ∃ F', Rel X.K G e' F' H σ ∧ Same F F' ∧ Reps X.K F' vs ds
  | [], F, en, e', vs, ds, R, h, e => by
    cases e
    cases (show vs = [] from h)
    exact ⟨F, R, .refl _, .nil⟩
  | o :: os, F, en, e', vs, ds, R, ⟨v, ws, ev, h, t⟩, e => by
    unfold holds at e
    obtain ⟨⟨d, e1⟩, h1, e⟩ := Option.bind_eq_some_iff.mp e
    obtain ⟨⟨ds', e2⟩, h2, e⟩ := Option.bind_eq_some_iff.mp e
    cases e
    obtain ⟨F1, R1, s1, r1⟩ := hold1_ok R h h1
    obtain ⟨F2, R2, s2, r2⟩ := holds_ok R1 (t.mono s1) h2
    exact ⟨F2, R2, s1.trans s2, by rw [ev]; exact .cons (r1.mono s2) r2⟩
theorem postE_hold {G : Gd} {F H : Hp} {σ : L2.St} {en : En} {o : A} {v : V} {Q' : Prop} (R : Rel X.K G en F H σ) (h : AOk X.K F σ o v)
    (k : ∀ d e2 F', hold1 en o = some (d, e2) → Rel X.K G e2 F' H σ → Same F F' → Rep X.K F' v d → Q') (n : hold1 en o ≠ none) : Q' := by
  cases e : hold1 en o with
  | none => exact (n e).elim
  | some p =>
    obtain ⟨d, e2⟩ := p
    obtain ⟨F', R', s', r'⟩ := hold1_ok R h e
    exact k d e2 F' e R' s' r'
theorem DO.dx {f : Ev D} (h : DO X W a f) : DX X W a (eOwn f) := by
  obtain ⟨t, p, q⟩ := h.ex
  refine ⟨t, p, fun G en F H σ Q R k => q G en F H σ Q R ?_⟩
  unfold eOwn at k
  cases e : f en with
  | bad => rw [e] at k; exact k
  | ex x e2 => rw [e] at k; exact k
  | ok d e1 =>
    rw [e] at k
    rintro v F' H' R' s' ⟨p, rfl, n, o, h0, nd⟩
    obtain ⟨ob, ho⟩ := o.some
    -- the place that nobody has: freeze by the same road as a place's own
    have sF : Same F' (upd F' p ob) := fun b u z => by
      have ne : b ≠ p := fun y => by rw [y, n] at z; cases z
      rw [upd_ne ne]; exact z
    have rp : Rep X.K (upd F' p ob) (.ref p) d := o.rep sF (by rw [upd_same, ho])
    refine k (.ref p) (upd F' p ob) H' ?_ (s'.trans sF) rp
    exact {
      len := R'.len
      sl := fun j s z => by
        have y := R'.sl j s z
        cases s with
        | un => trivial
        | sh d => obtain ⟨v, g1, g2⟩ := y; exact ⟨v, g1, g2.mono sF⟩
        | ow bb d' =>
          obtain ⟨p', g1, g2, g3⟩ := y
          have ne : p' ≠ p := fun w => nd j bb d' z (by rw [← w]; exact join_some g1)
          exact ⟨p', g1, by rw [upd_ne ne]; exact g2, g3.mono sF rfl⟩
      dj := R'.dj
      mn := R'.mn
      fh := fun b u z => by
        by_cases y : b = p
        · rw [y, upd_same] at z; cases z; rw [y]; exact ho
        · rw [upd_ne y] at z; exact R'.fh _ _ z
      f0 := R'.f0.trans sF
      nw := fun b u z => by
        by_cases y : b = p
        · rw [y]; exact .inr h0
        · rw [upd_ne y] at z; exact R'.nw b u z
      bs := R'.bs
      as := R'.as
      ar := R'.ar }
theorem line_small {n : Nat} (h : small n = true) : n ≤ sizeLine := Nat.le_trans (small_of h) (by rw [sizeLine_eq]; decide)
theorem line_smallLt {n : Nat} (h : small n = true) : n < sizeLine := Nat.lt_of_le_of_lt (small_of h) (by rw [sizeLine_eq]; decide)
/-- a new thing that is not frozen -/
theorem newAt_of {G : Gd} {F H : Hp} {σ : L2.St} {en : En} {d : D} {p : Addr} {o : HO} (R : Rel X.K G en F H σ) (n : H p = none) (ow : Own X.K F (upd H p o) p d) : Rel X.K G en F (upd H p o) σ ∧ NewAt G en X.K F (upd H p o) σ d (.ref p) := by
  refine ⟨R.newO n, p, rfl, R.fh.free n, ow, R.free0 n, fun j b e z y => ?_⟩
  obtain ⟨p', h1, _, h3⟩ := R.owV z
  rw [y] at h1
  cases h1
  obtain ⟨u, hu⟩ := h3.some
  rw [n] at hu; cases hu
theorem dx_tup {es : List Expr} {fs : Ev (List A)} {k : Nat} (h : DA X W es fs) : DX X W (.Tuple es k pos) (eTup fs) := by
  obtain ⟨t, p, q⟩ := h.ex
  refine ⟨_, pe_tup p, fun G en F H σ Q R k => q G en F H σ _ R ?_⟩
  unfold eTup eHolds at k
  have k' : PE1 X W G F σ ((fs en).bind fun a e1 => (match holds a e1 with | some (d, e2) => (.ok d e2 : M.R (List D)) | none => .bad).bind fun ds e1 => if small ds.length then .ok (.sh (.tuple ds)) e1 else .bad) Q := by
    cases z : fs en with
    | bad => rw [z] at k; exact k
    | ok a e1 => rw [z] at k; exact k
    | ex x e1 => rw [z] at k; exact k
  refine k'.bind fun as e1 vs F1 H1 R1 s1 o1 q1 => ?_
  cases z : holds as e1 with
  | none => rw [z] at q1; exact q1.elim
  | some pr =>
    obtain ⟨ds, e2⟩ := pr
    rw [z] at q1
    simp only [M.R.bind] at q1
    obtain ⟨F2, R2, s2, r2⟩ := holds_ok R1 o1 z
    by_cases hz : small ds.length = true
    · rw [if_pos hz] at q1
      refine ⟨by rw [r2.length]; exact line_small hz, fun p np => ?_⟩
      have g := Grow.alloc (o := .tup vs) R2.fh np
      exact q1 (.ref p) _ _ (R2.grow g) (s2.trans g.f) (.tup (.inl (.inl upd_same)) (r2.mono g.f))
    · rw [if_neg hz] at q1; exact q1.elim
theorem do_lst {es : List Expr} {fs : Ev (List A)} (h : DA X W es fs) : DO X W (.List es pos) (oLst fs) := by
  obtain ⟨t, p, q⟩ := h.ex
  refine ⟨_, pe_lst p, fun G en F H σ Q R k => q G en F H σ _ R ?_⟩
  unfold oLst eHolds at k
  have k' : PostO X W G F σ ((fs en).bind fun a e1 => (match holds a e1 with | some (d, e2) => (.ok d e2 : M.R (List D)) | none => .bad).bind fun ds e1 => if small ds.length then .ok (.list ds) e1 else .bad) Q := by
    cases z : fs en with
    | bad => rw [z] at k; exact k
    | ok a e1 => rw [z] at k; exact k
    | ex x e1 => rw [z] at k; exact k
  cases y : fs en with
  | bad => rw [y] at k'; exact k'
  | ex x e1 => rw [y] at k'; exact k'
  | ok as e1 =>
    rw [y] at k'
    intro vs F1 H1 R1 s1 o1
    simp only [M.R.bind] at k'
    cases z : holds as e1 with
    | none => rw [z] at k'; exact k'.elim
    | some pr =>
      obtain ⟨ds, e2⟩ := pr
      rw [z] at k'
      simp only at k'
      obtain ⟨F2, R2, s2, r2⟩ := holds_ok R1 o1 z
      by_cases hz : small ds.length = true
      · rw [if_pos hz] at k'
        refine ⟨by rw [r2.length]; exact line_small hz, fun p np => ?_⟩
        obtain ⟨R3, n3⟩ := newAt_of (d := .list ds) (o := .lst vs) R2 np ⟨vs, upd_same, r2⟩
        exact k' (.ref p) F2 _ R3 (s1.trans s2) n3
      · rw [if_neg hz] at k'; exact k'.elim

/-! ### tests -/
theorem res_bool {G : Gd} {F H : Hp} {σ : L2.St} {en : En} {o : A} {v : V} {k : Bool} (R : Rel X.K G en F H σ) (h : AOk X.K F σ o v) (e : (res en o).bind bOf = some k) : v = .bl k := by
  obtain ⟨d, e1, e2⟩ := Option.bind_eq_some_iff.mp e
  cases d with
  | bool b =>
    cases e2
    exact (res_ok R h e1).bool
  | _ => cases e2
theorem dt_val {f : Ev A} (h : DX X W a f) (he : ∀ whole, isTrue a X.env whole = (do let v ← whole; standAt a.pos; holding [v] (truthy v)) := by intro _; rfl) : DT X W a (tOf f) := by
  obtain ⟨t, p, q⟩ := h.ex
  refine ⟨_, pt_val p he, fun G en F H σ Q R k => q G en F H σ _ R (k.bind fun o e1 v F1 H1 R1 s1 o1 q1 => ?_)⟩
  cases z : (res e1 o).bind bOf with
  | none => rw [z] at q1; exact q1.elim
  | some b => rw [z] at q1; exact ⟨b, res_bool R1 o1 z, q1 b F1 H1 R1 (.refl _) rfl⟩
theorem dt_cmp {op : CmpOp} {r : R2} {g : D → D → Option D} (ho : OpR X (compareOp op) r) (hg : OpD X.K r g) (ha : DX X W a fa) (hb : DX X W b fb) (hm : behindInMarks op b = false) (hB : ∀ x y q, g x y = some q → ∃ k, q = .bool k) : DT X W (.Compare a [op] [b] pos) (tOf (eBin g fa fb)) := by
  obtain ⟨ta, pa, qa⟩ := ha.ex
  obtain ⟨tb, pb, qb⟩ := hb.ex
  refine ⟨_, pt_cmpR ho pa pb hm, fun G en F H σ Q R q => ?_⟩
  have q' : PT1 X W G F σ ((fa en).bind fun x e1 => (fb e1).bind fun y e2 => (fin ((res e2 x).bind fun x => (res e2 y).bind fun y => g x y) e2).bind fun a e1 => match (res e1 a).bind bOf with | some b => .ok b e1 | none => .bad) Q := by
    unfold tOf eBin at q
    cases z : fa en with
    | bad => rw [z] at q; exact q
    | ex x e1 => rw [z] at q; exact q
    | ok x e1 =>
      rw [z] at q
      simp only [M.R.bind] at q ⊢
      cases z2 : fb e1 with
      | bad => rw [z2] at q; exact q
      | ex x e1 => rw [z2] at q; exact q
      | ok x e1 => rw [z2] at q; exact q
  refine qa G en F H σ _ R (q'.bind fun x e1 v F1 H1 R1 s1 o1 q1 => qb G e1 F1 H1 σ _ R1 (q1.bind fun y e2 w F2 H2 R2 s2 o2 q2 => ?_))
  cases ed : ((res e2 x).bind fun x => (res e2 y).bind fun y => g x y) with
  | none => rw [ed] at q2; exact q2.elim
  | some d =>
    rw [ed] at q2
    obtain ⟨d1, e1', ed'⟩ := Option.bind_eq_some_iff.mp ed
    obtain ⟨d2, e2', ed''⟩ := Option.bind_eq_some_iff.mp ed'
    obtain ⟨k, rfl⟩ := hB _ _ _ ed''
    refine hg F2 H2 v w d1 d2 _ _ R2.fh (res_ok R2 (o1.mono s2) e1') (res_ok R2 o2 e2') ed'' fun v F' H' g r => ?_
    cases r
    exact ⟨k, rfl, q2 k F' H' (R2.grow g) g.f rfl⟩
theorem DW.dt {f : Ev Bool} (h : DW X W a f) : DT X W a f := by
  obtain ⟨t, p, q⟩ := h.ex
  exact ⟨t, p.pt, q⟩
theorem dw_and1 {f : Ev Bool} (h : DT X W a f) : DW X W (.BoolOp .And [a] pos) f := by
  obtain ⟨t, p, q⟩ := h.ex
  exact ⟨t, pw_and1 p, q⟩
theorem dw_or1 {f : Ev Bool} (h : DT X W a f) : DW X W (.BoolOp .Or [a] pos) f := by
  obtain ⟨t, p, q⟩ := h.ex
  exact ⟨t, pw_or1 p, q⟩
theorem dw_and {rest : List Expr} {f g : Ev Bool} (ha : DT X W a f) (hb : DW X W (.BoolOp .And (b :: rest) pos) g) : DW X W (.BoolOp .And (a :: b :: rest) pos) (tAnd2 f g) := by
  obtain ⟨ta, pa, qa⟩ := ha.ex
  obtain ⟨tb, pb, qb⟩ := hb.ex
  refine ⟨_, pw_and pa pb, fun G en F H σ Q R k => qa G en F H σ _ R (k.bind fun x e1 v F1 H1 R1 s1 o1 q1 => ?_)⟩
  subst o1
  by_cases z : x = true
  · rw [if_pos z] at q1 ⊢; exact qb G e1 F1 H1 σ _ R1 q1
  · rw [if_neg z] at q1 ⊢; exact q1 false F1 H1 R1 (.refl _) rfl
theorem dw_or {rest : List Expr} {f g : Ev Bool} (ha : DT X W a f) (hb : DW X W (.BoolOp .Or (b :: rest) pos) g) : DW X W (.BoolOp .Or (a :: b :: rest) pos) (tOr2 f g) := by
  obtain ⟨ta, pa, qa⟩ := ha.ex
  obtain ⟨tb, pb, qb⟩ := hb.ex
  refine ⟨_, pw_or pa pb, fun G en F H σ Q R k => qa G en F H σ _ R (k.bind fun x e1 v F1 H1 R1 s1 o1 q1 => ?_)⟩
  subst o1
  by_cases z : x = true
  · rw [if_pos z] at q1 ⊢; exact q1 true F1 H1 R1 (.refl _) rfl
  · rw [if_neg z] at q1 ⊢; exact qb G e1 F1 H1 σ _ R1 q1
theorem dt_not {f : Ev Bool} (h : DT X W a f) : DT X W (.UnaryOp .Not a pos) (tNo f) := by
  obtain ⟨t, p, q⟩ := h.ex
  refine ⟨_, pt_not p, fun G en F H σ Q R k => q G en F H σ _ R (k.bind fun x e1 v F1 H1 R1 s1 o1 q1 => ?_)⟩
  subst o1
  exact q1 _ F1 H1 R1 (.refl _) rfl
theorem dx_ifExp {fc : Ev Bool} (hc : DT X W c fc) (ha : DX X W a fa) (hb : DX X W b fb) : DX X W (.IfExp c a b pos) (eIf fc fa fb) := by
  obtain ⟨tc, pc, qc⟩ := hc.ex
  obtain ⟨ta, pa, qa⟩ := ha.ex
  obtain ⟨tb, pb, qb⟩ := hb.ex
  refine ⟨_, pe_ifExp pc pa pb, fun G en F H σ Q R k => qc G en F H σ _ R (k.bind fun x e1 v F1 H1 R1 s1 o1 q1 => ?_)⟩
  subst o1
  by_cases z : x = true
  · rw [if_pos z] at q1 ⊢; exact qa G e1 F1 H1 σ _ R1 q1
  · rw [if_neg z] at q1 ⊢; exact qb G e1 F1 H1 σ _ R1 q1
theorem dx_one {op : BoolOp} (h : DX X W a fa) : DX X W (.BoolOp op [a] pos) fa := by
  obtain ⟨t, p, q⟩ := h.ex
  exact ⟨t, pe_one p, q⟩
theorem dx_and {rest : List Expr} (ha : DX X W a fa) (hb : DX X W (.BoolOp .And (b :: rest) pos) fb) : DX X W (.BoolOp .And (a :: b :: rest) pos) (eAnd fa fb) := by
  obtain ⟨ta, pa, qa⟩ := ha.ex
  obtain ⟨tb, pb, qb⟩ := hb.ex
  refine ⟨_, pe_and pa pb, fun G en F H σ Q R k => qa G en F H σ _ R (k.bind fun x e1 v F1 H1 R1 s1 o1 q1 => ?_)⟩
  cases z : (res e1 x).bind bOf with
  | none => rw [z] at q1; exact q1.elim
  | some b =>
    rw [z] at q1
    refine ⟨b, res_bool R1 o1 z, ?_⟩
    cases b with
    | true => rw [if_pos rfl]; exact qb G e1 F1 H1 σ _ R1 q1
    | false => rw [if_neg Bool.false_ne_true]; exact q1 _ F1 H1 R1 (.refl _) (.bl false)
theorem dx_or {rest : List Expr} (ha : DX X W a fa) (hb : DX X W (.BoolOp .Or (b :: rest) pos) fb) : DX X W (.BoolOp .Or (a :: b :: rest) pos) (eOr fa fb) := by
  obtain ⟨ta, pa, qa⟩ := ha.ex
  obtain ⟨tb, pb, qb⟩ := hb.ex
  refine ⟨_, pe_or pa pb, fun G en F H σ Q R k => qa G en F H σ _ R (k.bind fun x e1 v F1 H1 R1 s1 o1 q1 => ?_)⟩
  cases z : (res e1 x).bind bOf with
  | none => rw [z] at q1; exact q1.elim
  | some b =>
    rw [z] at q1
    refine ⟨b, res_bool R1 o1 z, ?_⟩
    cases b with
    | true => rw [if_pos rfl]; exact q1 _ F1 H1 R1 (.refl _) (.bl true)
    | false => rw [if_neg Bool.false_ne_true]; exact qb G e1 F1 H1 σ _ R1 q1
theorem dx_not (h : DX X W a fa) : DX X W (.UnaryOp .Not a pos) (eNot fa) := by
  obtain ⟨t, p, q⟩ := h.ex
  refine ⟨_, pe_not p, fun G en F H σ Q R k => q G en F H σ _ R (k.bind fun x e1 v F1 H1 R1 s1 o1 q1 => ?_)⟩
  cases z : (res e1 x).bind bOf with
  | none => rw [z] at q1; exact q1.elim
  | some b =>
    rw [z] at q1
    exact ⟨b, res_bool R1 o1 z, q1 _ F1 H1 R1 (.refl _) (.bl _)⟩
end
end
end M
set_option Elab.async false
set_option linter.all false
set_option maxRecDepth 100000
set_option autoImplicit false
/-! M3: statements, loops, calls. -/
namespace M
noncomputable section
open PySem PySem.Spec PyProof.Rows L2

inductive SR where
  | bad
  | nx (e : En)
  | bk (e : En)
  | ct (e : En)
  | rt (o : Bool) (d : D) (e : En)
  | ex (x : Xn) (e : En)
def SR.bind (r : SR) (g : En → SR) : SR := match r with
  | .nx e => g e
  | r => r
/-- behind an expression -/
def R.st {α : Type} (r : R α) (g : α → En → SR) : SR := match r with
  | .bad => .bad
  | .ok a e => g a e
  | .ex x e => .ex x e
def RtOk (K : PySem.W.Frag) (G : Gd) (e : En) (F H : Hp) (σ : L2.St) (o : Bool) (d : D) (v : V) : Prop := if o = true then NewAt G e K F H σ d v else Rep K F v d
def PostS (X : Cx) (W : WX) (G : Gd) (F : Hp) (r : SR) (D : Ends) : Prop := match r with
  | .bad => False
  | .nx e => ∀ F' H' σ', Rel X.K G e F' H' σ' → Same F F' → D.nx σ' H'
  | .bk e => ∀ F' H' σ', Rel X.K G e F' H' σ' → Same F F' → D.bk σ' H'
  | .ct e => ∀ F' H' σ', Rel X.K G e F' H' σ' → Same F F' → D.ct σ' H'
  | .rt o d e => ∀ v F' H' σ', Rel X.K G e F' H' σ' → Same F F' → RtOk X.K G e F' H' σ' o d v → D.rt v H'
  | .ex x e => ∀ cls dd F' H' σ', Rel X.K G e F' H' σ' → Same F F' → XOk X F' x cls dd → W cls dd σ' H'
theorem PostS.mono {X : Cx} {W : WX} {G : Gd} {F F' : Hp} {r : SR} {D : Ends} (h : PostS X W G F r D) (s : Same F F') : PostS X W G F' r D := by
  cases r with
  | bad => exact h
  | nx e => exact fun F2 H2 σ2 R2 s2 => h F2 H2 σ2 R2 (s.trans s2)
  | bk e => exact fun F2 H2 σ2 R2 s2 => h F2 H2 σ2 R2 (s.trans s2)
  | ct e => exact fun F2 H2 σ2 R2 s2 => h F2 H2 σ2 R2 (s.trans s2)
  | rt o d e => exact fun v F2 H2 σ2 R2 s2 o2 => h v F2 H2 σ2 R2 (s.trans s2) o2
  | ex x e => exact fun c dd F2 H2 σ2 R2 s2 o2 => h c dd F2 H2 σ2 R2 (s.trans s2) o2
structure DS (X : Cx) (W : WX) (st : Stmt) (f : En → SR) : Prop where
  ex : ∃ t : TS, PS X st t ∧ ∀ (G : Gd) (en : En) (F H : Hp) (σ : L2.St) (D : Ends), Rel X.K G en F H σ → PostS X W G F (f en) D → t D σ H
structure DSs (X : Cx) (W : WX) (sts : List Stmt) (f : En → SR) : Prop where
  ex : ∃ t : TS, PSs X sts t ∧ ∀ (G : Gd) (en : En) (F H : Hp) (σ : L2.St) (D : Ends), Rel X.K G en F H σ → PostS X W G F (f en) D → t D σ H
/-- from an expression's result on -/
theorem PostS.of {X : Cx} {W : WX} {G : Gd} {F : Hp} {σ : L2.St} {α β : Type} {ok : Hp → α → β → Prop} {r : R α} {g : α → En → SR} {D : Ends} {Q' : β → Hp → Prop}
    (h : PostS X W G F (r.st g) D) (k : ∀ a e v F' H', Rel X.K G e F' H' σ → Same F F' → ok F' a v → PostS X W G F' (g a e) D → Q' v H') : PostE X W G F σ ok r Q' := by
  cases r with
  | bad => exact h
  | ok a e => exact fun v F' H' R s o => k a e v F' H' R s o (PostS.mono h s)
  | ex x e => exact fun c dd F' H' R s o => h c dd F' H' σ R s o

def sNil : En → SR := fun e => .nx e
def sSeq (f g : En → SR) : En → SR := fun e => (f e).bind g
def sIf (c : Ev Bool) (f g : En → SR) : En → SR := fun e => (c e).st fun b e1 => if b = true then f e1 else g e1
def sExpr (f : Ev A) : En → SR := fun e => (f e).st fun _ e1 => .nx e1
def sRet (f : Ev A) : En → SR := fun e => (eHold f e).st fun d e1 => .rt false d e1
def sRetO (f : Ev D) : En → SR := fun e => (f e).st fun d e1 => .rt true d e1
def sRetN : En → SR := fun e => .rt false .none e
/-- return of a name: what is one's own is handed on -/
def sRetV (i : Nat) : En → SR := fun e => match e[i]? with
  | some (.sh d) => .rt false d e
  | some (.ow false d) => .rt true d (e.set i .un)
  | _ => .bad
abbrev Gt := D → En → Option En
def gN (i : Nat) : Gt := fun d e => some (e.set i (.sh d))
def gTs : List Gt → List D → En → Option En
  | [], [], e => some e
  | g :: gs, d :: ds, e => (g d e).bind fun e1 => gTs gs ds e1
  | _, _, _ => none
def gT (gs : List Gt) : Gt := fun d e => match d with
  | .tuple ds => gTs gs ds e
  | _ => none
def sAsg (g : Gt) (f : Ev A) : En → SR := fun e => (eHold f e).st fun d e1 => match g d e1 with
  | some e2 => .nx e2
  | none => .bad
def sSetO (i : Nat) (f : Ev D) : En → SR := fun e => (f e).st fun d e1 => .nx (e1.set i (.ow false d))
def sAug (i : Nat) (g : D → D → Option D) (f : Ev A) : En → SR := fun e => match e[i]? with
  | some (.sh x) => (f e).st fun a e1 => match (res e1 a).bind fun y => g x y with
    | some z => .nx (e1.set i (.sh z))
    | none => .bad
  | _ => .bad
def forD (g : Gt) (body : En → SR) : List D → En → SR
  | [], e => .nx e
  | d :: ds, e => match g d e with
    | none => .bad
    | some e1 => match body e1 with
      | .nx e2 => forD g body ds e2
      | .ct e2 => forD g body ds e2
      | .bk e2 => .nx e2
      | r => r
def sFor (fi : Ev (List D)) (g : Gt) (body : En → SR) : En → SR := fun e => (fi e).st fun ds e1 => forD g body ds e1
def whileD (c : Ev Bool) (body : En → SR) : Nat → En → SR
  | 0, _ => .bad
  | n + 1, e => (c e).st fun b e1 => if b = true then (match body e1 with
      | .nx e2 => whileD c body n e2
      | .ct e2 => whileD c body n e2
      | .bk e2 => .nx e2
      | r => r) else .nx e1
open Classical in
noncomputable def sWhile (c : Ev Bool) (body : En → SR) : En → SR := fun e => if h : ∃ n, whileD c body n e ≠ .bad then whileD c body h.choose e else .bad
theorem whileD_mono {c : Ev Bool} {body : En → SR} : ∀ {n m : Nat} {e : En}, n ≤ m → whileD c body n e ≠ .bad → whileD c body m e = whileD c body n e
  | 0, _, _, _, h => (h rfl).elim
  | n + 1, 0, _, h, _ => absurd h (by omega)
  | n + 1, m + 1, e, h, hb => by
    unfold whileD at hb ⊢
    cases q : c e with
    | bad => rfl
    | ex x e1 => rfl
    | ok b e1 =>
      rw [q] at hb
      simp only [R.st] at hb ⊢
      by_cases z : b = true
      · rw [if_pos z] at hb ⊢
        rw [if_pos z]
        cases y : body e1 with
        | nx e2 => rw [y] at hb; exact whileD_mono (by omega) hb
        | ct e2 => rw [y] at hb; exact whileD_mono (by omega) hb
        | _ => rfl
      · rw [if_neg z, if_neg z]
theorem sWhile_eq {c : Ev Bool} {body : En → SR} {n : Nat} {e : En} (h : whileD c body n e ≠ .bad) : sWhile c body e = whileD c body n e := by
  have ex : ∃ n, whileD c body n e ≠ .bad := ⟨n, h⟩
  unfold sWhile
  rw [dif_pos ex]
  rcases Nat.le_total ex.choose n with z | z
  · exact (whileD_mono z ex.choose_spec).symm
  · exact whileD_mono z h
section
variable {X : Cx} {W : WX} {a b c : Expr} {pos : Pos} {fa fb : Ev A} {st : Stmt} {rest : List Stmt} {f g : En → SR}
theorem dss_nil : DSs X W [] sNil := ⟨_, pss_nil, fun G en F H σ D R h => h F H σ R (.refl _)⟩
theorem post_seq {G : Gd} {F : Hp} {r : SR} {g : En → SR} {D : Ends} {u : L2.St → Hp → Prop} (h : PostS X W G F (r.bind g) D) (k : ∀ e F' H' σ', Rel X.K G e F' H' σ' → Same F F' → PostS X W G F' (g e) D → u σ' H') : PostS X W G F r { D with nx := u } := by
  cases r with
  | nx e => exact fun F' H' σ' R s => k e F' H' σ' R s (PostS.mono h s)
  | _ => exact h
theorem dss_cons (h1 : DS X W st f) (h2 : DSs X W rest g) : DSs X W (st :: rest) (sSeq f g) := by
  obtain ⟨t, p, q⟩ := h1.ex
  obtain ⟨u, p2, q2⟩ := h2.ex
  exact ⟨_, pss_cons p p2, fun G en F H σ D R h => q G en F H σ _ R (post_seq h fun e F' H' σ' R' s' h' => q2 G e F' H' σ' D R' h')⟩
theorem dss_one (h1 : DS X W st f) : DSs X W [st] f := by
  obtain ⟨t, p, q⟩ := h1.ex
  exact ⟨_, pss_one p, q⟩
theorem ds_pass : DS X W (.Pass pos) sNil := ⟨_, ps_pass, fun G en F H σ D R h => h F H σ R (.refl _)⟩
theorem ds_break : DS X W (.Break pos) (fun e => .bk e) := ⟨_, ps_break, fun G en F H σ D R h => h F H σ R (.refl _)⟩
theorem ds_continue : DS X W (.Continue pos) (fun e => .ct e) := ⟨_, ps_continue, fun G en F H σ D R h => h F H σ R (.refl _)⟩
theorem ds_expr (ha : DX X W a fa) (hs : swapsWith a none pos.line X.env = pure false := by rfl) : DS X W (.Expr a pos) (sExpr fa) := by
  obtain ⟨t, p, q⟩ := ha.ex
  exact ⟨_, ps_expr p hs, fun G en F H σ D R h => q G en F H σ _ R (h.of fun a e v F' H' R' s' o' h' => h' F' H' σ R' (.refl _))⟩
theorem ds_if {fc : Ev Bool} {a b : List Stmt} (hc : DT X W c fc) (ha : DSs X W a f) (hb : DSs X W b g) : DS X W (.If c a b pos) (sIf fc f g) := by
  obtain ⟨t, p, q⟩ := hc.ex
  obtain ⟨t1, p1, q1⟩ := ha.ex
  obtain ⟨t2, p2, q2⟩ := hb.ex
  refine ⟨_, ps_if p p1 p2, fun G en F H σ D R h => q G en F H σ _ R (h.of fun x e v F' H' R' s' o' h' => ?_)⟩
  subst o'
  by_cases z : x = true
  · rw [if_pos z] at h' ⊢; exact q1 G e F' H' σ D R' h'
  · rw [if_neg z] at h' ⊢; exact q2 G e F' H' σ D R' h'
/-- an expression's value, frozen -/
theorem hold_run {f : Ev A} {t : TE} {G : Gd} {en : En} {F H : Hp} {σ : L2.St} {Q : VK} (q : ∀ (G : Gd) (en : En) (F H : Hp) (σ : L2.St) (Q : VK), Rel X.K G en F H σ → PE1 X W G F σ (f en) Q → t σ H Q) (R0 : Rel X.K G en F H σ)
    (h : PostE X W G F σ (fun F' d v => Rep X.K F' v d) (eHold f en) Q) : t σ H Q := by
  refine q G en F H σ Q R0 ?_
  unfold eHold at h
  cases z : f en with
  | bad => rw [z] at h; exact h
  | ex x e => rw [z] at h; exact h
  | ok o e =>
    rw [z] at h
    simp only [R.bind] at h
    intro v F' H' R' s' o'
    cases y : hold1 e o with
    | none => rw [y] at h; exact h.elim
    | some pr =>
      obtain ⟨d, e2⟩ := pr
      rw [y] at h
      obtain ⟨F2, R2, s2, r2⟩ := hold1_ok R' o' y
      exact h v F2 H' R2 (s'.trans s2) r2
def eFrz (f : Ev A) : Ev A := fun e => (eHold f e).bind fun d e1 => .ok (.sh d) e1
theorem dx_frz {f : Ev A} (ha : DX X W a f) : DX X W a (eFrz f) := by
  obtain ⟨t, p, q⟩ := ha.ex
  refine ⟨_, p, fun G en F H σ Q R h => hold_run q R ?_⟩
  unfold eFrz at h
  cases z : eHold f en with
  | bad => rw [z] at h; exact h
  | ex x e => rw [z] at h; exact h
  | ok d e => rw [z] at h; exact h
theorem ds_ret (ha : DX X W a fa) : DS X W (.Return (some a) pos) (sRet fa) := by
  obtain ⟨t, p, q⟩ := ha.ex
  exact ⟨_, ps_ret p, fun G en F H σ D R h => hold_run q R (h.of fun d e v F' H' R' s' o' h' => h' v F' H' σ R' (.refl _) (by unfold RtOk; rw [if_neg Bool.false_ne_true]; exact o'))⟩
theorem ds_retN : DS X W (.Return none pos) sRetN := ⟨_, ps_retN, fun G en F H σ D R h => h .non F H σ R (.refl _) (by unfold RtOk; rw [if_neg Bool.false_ne_true]; exact .non)⟩
theorem postO_of {G : Gd} {F : Hp} {σ : L2.St} {r : R D} {g : D → En → SR} {D' : Ends} {Q' : VK} (h : PostS X W G F (r.st g) D')
    (k : ∀ d e v F' H', Rel X.K G e F' H' σ → Same F F' → NewAt G e X.K F' H' σ d v → PostS X W G F' (g d e) D' → Q' v H') : PostO X W G F σ r Q' := by
  cases r with
  | bad => exact h
  | ok a e => exact fun v F' H' R s o => k a e v F' H' R s o (PostS.mono h s)
  | ex x e => exact fun c dd F' H' R s o => h c dd F' H' σ R s o
theorem ds_retO {f : Ev D} (ha : DO X W a f) : DS X W (.Return (some a) pos) (sRetO f) := by
  obtain ⟨t, p, q⟩ := ha.ex
  exact ⟨_, ps_ret p, fun G en F H σ D R h => q G en F H σ _ R (postO_of h fun d e v F' H' R' s' o' h' => h' v F' H' σ R' (.refl _) (by unfold RtOk; rw [if_pos rfl]; exact o'))⟩
theorem ds_retV (i : Nat) {x : Str} {p' : Pos} (hN : X.N[i]? = some x := by rfl) (hv : Vis X.env.scope x := by first | exact Or.inl rfl | exact Or.inr (Or.inl rfl) | exact Or.inr (Or.inr rfl)) (hd : (x == ("__debug__" : Str)) = false := by decide)
    (hcd : (x == ("__classdict__" : Str)) = false := by decide) : DS X W (.Return (some (.Name x p')) pos) (sRetV i) := by
  refine ⟨_, ps_ret (pe_var hN hv hd hcd), fun G en F H σ D R h => ?_⟩
  unfold sRetV at h
  cases e : en[i]? with
  | none => rw [e] at h; exact h.elim
  | some s =>
    rw [e] at h
    cases s with
    | un => exact h.elim
    | sh d =>
      obtain ⟨v, h1, h2⟩ := R.shV e
      exact ⟨v, h1, h v F H σ R (.refl _) (by unfold RtOk; rw [if_neg Bool.false_ne_true]; exact h2)⟩
    | ow bb d =>
      cases bb with
      | true => exact h.elim
      | false =>
        obtain ⟨p, h1, h2, h3⟩ := R.owV e
        refine ⟨.ref p, h1, h (.ref p) F H σ R.forget (.refl _) ?_⟩
        unfold RtOk
        rw [if_pos rfl]
        refine ⟨p, rfl, h2, h3, by simpa using R.mn i false d p e h1, fun j b e2 z y => ?_⟩
        have hlen : i < en.length := (List.getElem?_eq_some_iff.mp e).1
        by_cases w : i = j
        · subst w
          rw [List.getElem?_set_self hlen] at z; cases z
        · rw [List.getElem?_set_ne w] at z
          exact w (R.dj i j false b d e2 p e z h1 y)

def frzS (i : Nat) (e : En) : En := match e[i]? with
  | some (.ow false d) => e.set i (.sh d)
  | _ => e
theorem frz_rel {K : PySem.W.Frag} {G : Gd} {en : En} {F H : Hp} {σ : L2.St} (i : Nat) (R : Rel K G en F H σ) : ∃ F', Rel K G (frzS i en) F' H σ ∧ Same F F' := by
  unfold frzS
  split
  · rename_i d e
    obtain ⟨F', v, R', s', _⟩ := R.freeze e
    exact ⟨F', R', s'⟩
  · exact ⟨F, R, .refl _⟩
/-- a thing of one's own is frozen ahead of a statement -/
theorem ds_frz (i : Nat) (h : DS X W st f) : DS X W st (fun e => f (frzS i e)) := by
  obtain ⟨t, p, q⟩ := h.ex
  refine ⟨t, p, fun G en F H σ D R h => ?_⟩
  obtain ⟨F', R', s'⟩ := frz_rel i R
  exact q G _ F' H σ D R' (PostS.mono h s')
/-- a place is forgotten behind a statement -/
def unS (is : List Nat) (r : SR) : SR := match r with
  | .nx e => .nx (is.foldl (fun e i => e.set i .un) e)
  | r => r
theorem un_rel {K : PySem.W.Frag} {G : Gd} {F H : Hp} {σ : L2.St} : ∀ (is : List Nat) {en : En}, Rel K G en F H σ → Rel K G (is.foldl (fun e i => e.set i .un) en) F H σ
  | [], _, R => R
  | i :: is, _, R => un_rel is R.forget
theorem ds_un (is : List Nat) (h : DS X W st f) : DS X W st (fun e => unS is (f e)) := by
  obtain ⟨t, p, q⟩ := h.ex
  refine ⟨t, p, fun G en F H σ D R h => q G en F H σ D R ?_⟩
  cases z : f en with
  | nx e => rw [z] at h; exact fun F' H' σ' R' s' => h F' H' σ' (un_rel is R') s'
  | _ => rw [z] at h; exact h

/-! ### targets -/
/-- alike but at some places -/
def Alike (ix : List Nat) (σ σ' : L2.St) : Prop := σ'.length = σ.length ∧ ∀ j : Nat, j ∉ ix → σ'[j]? = σ[j]?
theorem Alike.refl {ix : List Nat} {σ : L2.St} : Alike ix σ σ := ⟨rfl, fun _ _ => rfl⟩
theorem Alike.trans {ix iy : List Nat} {σ σ' σ2 : L2.St} (a : Alike ix σ σ') (b : Alike iy σ' σ2) : Alike (ix ++ iy) σ σ2 :=
  ⟨b.1.trans a.1, fun j h => (b.2 j fun z => h (List.mem_append_right _ z)).trans (a.2 j fun z => h (List.mem_append_left _ z))⟩
structure DG (X : Cx) (W : WX) (tg : Expr) (g : Gt) (ix : List Nat) : Prop where
  ex : ∃ t : TG, PG X tg t ∧ ∀ (G : Gd) (en e' : En) (F H : Hp) (σ : L2.St) (v : V) (d : D) (Q : L2.St → Hp → Prop), Rel X.K G en F H σ → Rep X.K F v d → g d en = some e' → (∀ F' H' σ', Rel X.K G e' F' H' σ' → Same F F' → Alike ix σ σ' → Q σ' H') → t v σ H Q
structure DGs (X : Cx) (W : WX) (tgs : List Expr) (gs : List Gt) (ix : List Nat) : Prop where
  ex : ∃ t : TGs, PGs X tgs t ∧ ∀ (G : Gd) (en e' : En) (F H : Hp) (σ : L2.St) (vs : List V) (ds : List D) (Q : L2.St → Hp → Prop), Rel X.K G en F H σ → Reps X.K F vs ds → gTs gs ds en = some e' → (∀ F' H' σ', Rel X.K G e' F' H' σ' → Same F F' → Alike ix σ σ' → Q σ' H') → t vs σ H Q
theorem dg_name (i : Nat) {x : Str} (hN : X.N.Nodup) (hi : X.N[i]? = some x := by rfl) (hx : Loc X.env.scope x := by first | exact Or.inl rfl | exact Or.inr rfl) (hf : X.fn x = true ∨ X.env.scope.names.lookup x = some .local := by first | exact .inl rfl | exact .inr rfl | assumption) : DG X W (.Name x pos) (gN i) [i] := by
  refine ⟨_, pg_name hN hi hx hf, fun G en e' F H σ v d Q R r e k => ?_⟩
  cases e
  exact k F H _ (R.putSh r) (.refl _) ⟨List.length_set, fun j h => List.getElem?_set_ne (fun z => h (by rw [z]; exact List.mem_cons_self))⟩
theorem dgs_nil : DGs X W [] [] [] := by
  refine ⟨_, pgs_nil, fun G en e' F H σ vs ds Q R r e k => ?_⟩
  cases ds with
  | nil => cases e; cases r; exact ⟨rfl, k F H σ R (.refl _) .refl⟩
  | cons d ds => cases e
theorem dgs_cons {tg : Expr} {tgs : List Expr} {g : Gt} {gs : List Gt} {ix iy : List Nat} (h1 : DG X W tg g ix) (h2 : DGs X W tgs gs iy)
    (hs : (assignEach (tg :: tgs) X.env).map (·.2) = assign tg X.env :: (assignEach tgs X.env).map (·.2) := by rfl) : DGs X W (tg :: tgs) (g :: gs) (ix ++ iy) := by
  obtain ⟨t, p, q⟩ := h1.ex
  obtain ⟨t2, p2, q2⟩ := h2.ex
  refine ⟨_, pgs_cons p p2 hs, fun G en e' F H σ vs ds Q R r e k => ?_⟩
  cases ds with
  | nil => cases e
  | cons d ds =>
    cases r with
    | cons r rr =>
      obtain ⟨e1, h1, h2⟩ := Option.bind_eq_some_iff.mp e
      exact ⟨_, _, rfl, q G en e1 F H σ _ d _ R r h1 fun F1 H1 σ1 R1 s1 a1 => q2 G e1 e' F1 H1 σ1 _ ds Q R1 (rr.mono s1) h2 fun F2 H2 σ2 R2 s2 a2 => k F2 H2 σ2 R2 (s1.trans s2) (a1.trans a2)⟩
theorem dg_tup {tgs : List Expr} {gs : List Gt} {ix : List Nat} {k : Nat} {n : Nat} (hc : X.calm = true) (h : DGs X W tgs gs ix) (hl : gs.length = n := by rfl)
    (hn : (assignEach tgs X.env).length = n := by rfl) (hst : (assignEach tgs X.env).findIdx? (·.1) = none := by rfl) : DG X W (.Tuple tgs k pos) (gT gs) ix := by
  obtain ⟨t, p, q⟩ := h.ex
  refine ⟨_, pg_tup hc p hn hst, fun G en e' F H σ v d Q R r e k => ?_⟩
  cases d with
  | tuple ds =>
    cases r with
    | tup hS rr =>
      have len : ∀ (gs : List Gt) (ds : List D) (en : En), gTs gs ds en = some e' → ds.length = gs.length := by
        intro gs
        induction gs with
        | nil => intro ds en e; cases ds with
          | nil => rfl
          | cons => cases e
        | cons g gs ih => intro ds en e; cases ds with
          | nil => cases e
          | cons d ds =>
            obtain ⟨e1, _, h2⟩ := Option.bind_eq_some_iff.mp e
            exact congrArg (· + 1) (ih ds e1 h2)
      exact ⟨_, _, rfl, SqT.mono R.fh hS, by rw [rr.length, len gs ds en e, hl], q G en e' F H σ _ ds Q R rr e k⟩
  | _ => cases e
theorem ds_asg {tg : Expr} {g : Gt} {ix : List Nat} (ha : DX X W a fa) (hg : DG X W tg g ix) (hs : swapsWithSole [tg] a pos.line X.env = pure false := by rfl) (hw : swappedStores [tg] a X.env = pure none := by rfl)
    (h1 : (assignEach [tg] X.env).map (·.2) = [assign tg X.env] := by rfl) : DS X W (.Assign [tg] a pos) (sAsg g fa) := by
  obtain ⟨t, p, q⟩ := ha.ex
  obtain ⟨t2, p2, q2⟩ := hg.ex
  refine ⟨_, ps_asg p p2 hs hw h1, fun G en F H σ D R h => hold_run q R (h.of fun d e v F' H' R' s' o' h' => ?_)⟩
  cases z : g d e with
  | none => rw [z] at h'; exact h'.elim
  | some e2 => rw [z] at h'; exact q2 G e e2 F' H' σ v d D.nx R' o' z fun F2 H2 σ2 R2 s2 _ => h' F2 H2 σ2 R2 s2
theorem ds_setO (i : Nat) {x : Str} {p' : Pos} {f : Ev D} (ha : DO X W a f) (hN : X.N.Nodup) (hi : X.N[i]? = some x := by rfl) (hx : Loc X.env.scope x := by first | exact Or.inl rfl | exact Or.inr rfl) (hs : swapsWith a (some (.Name x p')) pos.line X.env = pure false := by rfl) (hf : X.fn x = true ∨ X.env.scope.names.lookup x = some .local := by first | exact .inl rfl | exact .inr rfl | assumption) :
    DS X W (.Assign [.Name x p'] a pos) (sSetO i f) := by
  obtain ⟨t, p, q⟩ := ha.ex
  refine ⟨_, ps_set hN hi hx p hs hf, fun G en F H σ D R h => q G en F H σ _ R (postO_of h fun d e v F' H' R' s' o' h' => ?_)⟩
  obtain ⟨p, rfl, n, o, h0, nd⟩ := o'
  exact h' F' H' _ (R'.putOw n o h0 nd) (.refl _)
def IpD (K : PySem.W.Frag) (r : TIp) (g : D → D → Option D) : Prop := ∀ (F H : Hp) (x y : V) (d e q : D) (Q : VK), Same F H → PRep K F H x d → PRep K F H y e → g d e = some q → (∀ v F' H', Grow F H F' H' → Rep K F' v q → Q v H') → r x y H Q
theorem ds_aug (i : Nat) {x : Str} {p' : Pos} {op : Operator} {r : TIp} {g : D → D → Option D} (ho : PIp X op r) (hg : IpD X.K r g) (ha : DX X W a fa) (hN : X.N.Nodup) (hi : X.N[i]? = some x := by rfl) (hx : Loc X.env.scope x := by first | exact Or.inl rfl | exact Or.inr rfl) (hf : X.fn x = true ∨ X.env.scope.names.lookup x = some .local := by first | exact .inl rfl | exact .inr rfl | assumption) :
    DS X W (.AugAssign (.Name x p') op a pos) (sAug i g fa) := by
  obtain ⟨t, p, q⟩ := ha.ex
  refine ⟨_, ps_aug hN hi hx p ho hf, fun G en F H σ D R h => ?_⟩
  unfold sAug at h
  cases e : en[i]? with
  | none => rw [e] at h; exact h.elim
  | some s =>
    rw [e] at h
    cases s with
    | un => exact h.elim
    | ow bb d => exact h.elim
    | sh d0 =>
      obtain ⟨v0, h1, h2⟩ := R.shV e
      refine ⟨v0, h1, q G en F H σ _ R (h.of fun o e1 v F' H' R' s' o' h' => ?_)⟩
      cases z : ((res e1 o).bind fun y => g d0 y) with
      | none => rw [z] at h'; exact h'.elim
      | some d2 =>
        rw [z] at h'
        obtain ⟨d1, g1, g2⟩ := Option.bind_eq_some_iff.mp z
        exact hg F' H' v0 v d0 d1 d2 _ R'.fh (.inl (h2.mono s')) (res_ok R' o' g1) g2 fun w F2 H2 gr r2 => h' F2 H2 _ ((R'.grow gr).putSh r2) gr.f

/-! ### loops -/
def ItOk (K : PySem.W.Frag) (J : It) (F : Hp) (ds : List D) : Prop := ∀ (i : Nat) (F1 H1 : Hp), Same F F1 → Same F1 H1 →
  (∀ d, ds[i]? = some d → J.go i H1 ∧ ∀ x H2, J.yld i H1 x H2 → ∃ F2, Grow F1 H1 F2 H2 ∧ Rep K F2 x d) ∧ (ds[i]? = none → J.stop i H1)
structure DI (X : Cx) (W : WX) (tg iter : Expr) (f : Ev (List D)) : Prop where
  ex : ∃ wi : TI, PI X tg iter wi ∧ ∀ (G : Gd) (en : En) (F H : Hp) (σ : L2.St) (Q : It → Hp → Prop), Rel X.K G en F H σ → PostE X W G F σ (fun F' ds J => ItOk X.K J F' ds) (f en) Q → wi σ H Q
theorem ds_for {tg iter : Expr} {body : List Stmt} {fi : Ev (List D)} {g : Gt} {f : En → SR} (hp : PassesOwn (model X.prog X.w) X.A X.env X.xe) (hc : X.calm = true) {ix : List Nat} (hi : DI X W tg iter fi) (hg : DG X W tg g ix) (hb : DSs X W body f)
    (hs : ∀ x, foldedSetIterable iter X.env x = pure x := by intro _; rfl) : DS X W (.For tg iter body [] pos) (sFor fi g f) := by
  obtain ⟨wi, p, q⟩ := hi.ex
  obtain ⟨tg', p1, q1⟩ := hg.ex
  obtain ⟨tb, p2, q2⟩ := hb.ex
  refine ⟨_, ps_for hp hc p p1 p2 hs, fun G en F H σ D R h => q G en F H σ _ R (h.of fun ds e J F' H' R' s' o' h' => ?_)⟩
  refine ⟨fun i m σ H => m = ds.length - i ∧ i ≤ ds.length ∧ ∃ en F, Rel X.K G en F H σ ∧ Same F' F ∧ PostS X W G F (forD g f (ds.drop i) en) D, ⟨ds.length, by simp, Nat.zero_le _, e, F', R', .refl _, h'⟩, ?_⟩
  rintro i m σ1 H1 ⟨rfl, hle, en1, F1, R1, s1, h1⟩
  obtain ⟨go, stop⟩ := o' i F1 H1 s1 R1.fh
  by_cases hlt : i < ds.length
  · have ed : ds[i]? = some ds[i] := List.getElem?_eq_getElem hlt
    obtain ⟨g1, g2⟩ := go _ ed
    rw [List.drop_eq_getElem_cons hlt] at h1
    unfold forD at h1
    cases z : g ds[i] en1 with
    | none => rw [z] at h1; exact h1.elim
    | some e1 =>
      rw [z] at h1
      simp only at h1
      refine .inr ⟨g1, fun σ' H' => ∃ en F, Rel X.K G en F H' σ' ∧ Same F' F ∧ PostS X W G F (forD g f (ds.drop (i + 1)) en) D, fun σ' H' hN => ⟨ds.length - (i + 1), by omega, rfl, hlt, hN⟩, fun x H2 hy => ?_⟩
      obtain ⟨F2, gr, r2⟩ := g2 x H2 hy
      refine q1 G en1 e1 F2 H2 σ1 x _ _ (R1.grow gr) r2 z fun F3 H3 σ3 R3 s3 _ => ?_
      have sA : Same F1 F3 := gr.f.trans s3
      refine q2 G e1 F3 H3 σ3 _ R3 ?_
      cases y : f e1 with
      | bad => rw [y] at h1; exact h1
      | nx e2 => rw [y] at h1; exact fun F4 H4 σ4 R4 s4 => ⟨e2, F4, R4, s1.trans (sA.trans s4), PostS.mono h1 (sA.trans s4)⟩
      | ct e2 => rw [y] at h1; exact fun F4 H4 σ4 R4 s4 => ⟨e2, F4, R4, s1.trans (sA.trans s4), PostS.mono h1 (sA.trans s4)⟩
      | bk e2 => rw [y] at h1; exact fun F4 H4 σ4 R4 s4 => h1 F4 H4 σ4 R4 (sA.trans s4)
      | rt o d e2 => rw [y] at h1; exact fun v F4 H4 σ4 R4 s4 o4 => h1 v F4 H4 σ4 R4 (sA.trans s4) o4
      | ex xx e2 => rw [y] at h1; exact fun c dd F4 H4 σ4 R4 s4 o4 => h1 c dd F4 H4 σ4 R4 (sA.trans s4) o4
  · have ei : ds.drop i = [] := List.drop_eq_nil_of_le (by omega)
    rw [ei] at h1
    exact .inl ⟨stop (List.getElem?_eq_none (by omega)), h1 F1 H1 σ1 R1 (.refl _)⟩
theorem ds_while {body : List Stmt} {fc : Ev Bool} {f : En → SR} (hp : PassesOwn (model X.prog X.w) X.A X.env X.xe) (hc : DT X W c fc) (hb : DSs X W body f) : DS X W (.While c body [] pos) (sWhile fc f) := by
  obtain ⟨t, p, q⟩ := hc.ex
  obtain ⟨tb, p2, q2⟩ := hb.ex
  refine ⟨_, ps_while hp p p2, fun G en F H σ D R h => ?_⟩
  have ex : ∃ n, whileD fc f n en ≠ .bad := by
    by_cases z : ∃ n, whileD fc f n en ≠ .bad
    · exact z
    · unfold sWhile at h
      rw [dif_neg z] at h
      exact h.elim
  obtain ⟨n, hn⟩ := ex
  rw [sWhile_eq hn] at h
  refine ⟨fun m σ H => ∃ en F', Rel X.K G en F' H σ ∧ Same F F' ∧ PostS X W G F' (whileD fc f m en) D, ⟨n, en, F, R, .refl _, h⟩, ?_⟩
  rintro m σ1 H1 ⟨en1, F1, R1, s1, h1⟩
  cases m with
  | zero => exact h1.elim
  | succ m =>
    unfold whileD at h1
    refine q G en1 F1 H1 σ1 _ R1 (h1.of fun x e v F2 H2 R2 s2 o2 h2 => ?_)
    subst o2
    by_cases z : x = true
    · rw [if_pos z] at h2 ⊢
      refine ⟨fun σ' H' => ∃ en F', Rel X.K G en F' H' σ' ∧ Same F F' ∧ PostS X W G F' (whileD fc f m en) D, fun σ' H' w => ⟨m, Nat.lt_succ_self _, w⟩, ?_⟩
      refine q2 G e F2 H2 σ1 _ R2 ?_
      have sA : Same F F2 := s1.trans s2
      cases y : f e with
      | bad => rw [y] at h2; exact h2
      | nx e2 => rw [y] at h2; exact fun F4 H4 σ4 R4 s4 => ⟨e2, F4, R4, sA.trans s4, PostS.mono h2 s4⟩
      | ct e2 => rw [y] at h2; exact fun F4 H4 σ4 R4 s4 => ⟨e2, F4, R4, sA.trans s4, PostS.mono h2 s4⟩
      | bk e2 => rw [y] at h2; exact h2
      | rt o d e2 => rw [y] at h2; exact h2
      | ex xx e2 => rw [y] at h2; exact h2
    · rw [if_neg z] at h2 ⊢
      exact h2 F2 H2 σ1 R2 (.refl _)
end

/-! ### defs -/
inductive Rt where
  | bad
  | ret (o : Bool) (d : D) (as : List Sl)
  | exc (x : Xn) (as : List Sl)
/-- what the arguments that are one's own have become -/
def outs : List Sl → En → Option (List Sl)
  | [], _ => some []
  | .ow true _ :: as, .ow true d :: en => (outs as en).bind fun r => some (.ow true d :: r)
  | .ow _ _ :: _, _ => none
  | _ :: as, _ :: en => (outs as en).bind fun r => some (.un :: r)
  | _ :: _, [] => none
def okArgs (as : List Sl) : Bool := as.all fun s => match s with
  | .ow false _ => false
  | _ => true
def runDef (n : Nat) (body : En → SR) (as : List Sl) : Rt := if okArgs as then (match body (as ++ List.replicate (n - as.length) .un) with
  | .nx e => match outs as e with
    | some r => .ret false .none r
    | none => .bad
  | .rt o d e => match outs as e with
    | some r => .ret o d r
    | none => .bad
  | .ex x e => match outs as e with
    | some r => .exc x r
    | none => .bad
  | _ => .bad) else .bad
def XOk' (mg : Str → Option Value) (K : PySem.W.Frag) (F : Hp) (x : Xn) (cls : Value) (dd : Option Addr) : Prop :=
  ∃ C, mg x.cls = some (.ref C) ∧ cls = .ref C ∧ (x.fs = [] → dd = none) ∧ (x.fs ≠ [] → ∃ d fvs, dd = some d ∧ F d = some (.xd fvs) ∧ fvs.map (·.1) = x.fs.map (·.1) ∧ Reps K F (fvs.map (·.2)) (x.fs.map (·.2)))
def PostC (K : PySem.W.Frag) (mg : Str → Option Value) (G : Gd) (F : Hp) (vs : L2.St) (Q : VK) (E : XK) : Rt → Prop
  | .bad => False
  | .ret o d as' => ∀ v F' H', Rel K G as' F' H' vs → Same F F' → RtOk K G as' F' H' vs o d v → Q v H'
  | .exc x as' => ∀ cls dd F' H', Rel K G as' F' H' vs → Same F F' → XOk' mg K F' x cls dd → E cls dd H'
/-- the promise of a def by its meaning -/
def spD (K : PySem.W.Frag) (mg : Str → Option Value) (n : Nat) (Fd : List Sl → Rt) : Sp := fun vs H Q E => vs.length = n ∧ ∃ F as As, as.length = n ∧ Rel K ⟨H, F, As, vs.map some⟩ as F H (vs.map some) ∧ PostC K mg ⟨H, F, As, vs.map some⟩ F (vs.map some) Q E (Fd as)
theorem outs_len : ∀ {as : List Sl} {e : En} {r : List Sl}, outs as e = some r → r.length = as.length
  | [], _, _, h => by cases h; rfl
  | .ow true _ :: as, .ow true d :: en, r, h => by
    obtain ⟨r', h1, h2⟩ := Option.bind_eq_some_iff.mp h
    cases h2
    exact congrArg (· + 1) (outs_len h1)
  | .un :: as, _ :: en, r, h => by
    obtain ⟨r', h1, h2⟩ := Option.bind_eq_some_iff.mp h
    cases h2
    exact congrArg (· + 1) (outs_len h1)
  | .sh _ :: as, _ :: en, r, h => by
    obtain ⟨r', h1, h2⟩ := Option.bind_eq_some_iff.mp h
    cases h2
    exact congrArg (· + 1) (outs_len h1)
theorem outs_at : ∀ {as : List Sl} {e : En} {r : List Sl} {i : Nat} {s : Sl}, outs as e = some r → r[i]? = some s → s = .un ∨ ∃ d, s = .ow true d ∧ e[i]? = some (.ow true d)
  | [], _, _, _, _, h, z => by cases h; simp at z
  | .ow true _ :: as, .ow true d :: en, r, i, s, h, z => by
    obtain ⟨r', h1, h2⟩ := Option.bind_eq_some_iff.mp h
    cases h2
    cases i with
    | zero => simp at z; subst z; exact .inr ⟨d, rfl, rfl⟩
    | succ i => exact outs_at (i := i) h1 (by simpa using z)
  | .un :: as, _ :: en, r, i, s, h, z => by
    obtain ⟨r', h1, h2⟩ := Option.bind_eq_some_iff.mp h
    cases h2
    cases i with
    | zero => simp at z; exact .inl z.symm
    | succ i => exact outs_at (i := i) h1 (by simpa using z)
  | .sh _ :: as, _ :: en, r, i, s, h, z => by
    obtain ⟨r', h1, h2⟩ := Option.bind_eq_some_iff.mp h
    cases h2
    cases i with
    | zero => simp at z; exact .inl z.symm
    | succ i => exact outs_at (i := i) h1 (by simpa using z)
/-- at a def's end the state of its arguments -/
theorem Rel.outs {K : PySem.W.Frag} {G : Gd} {as r : List Sl} {e : En} {F H : Hp} {σ vs : L2.St} (R : Rel K G e F H σ) (h : outs as e = some r) (hv : vs.length = as.length) (hS : G.S0 = vs ++ List.replicate (G.S0.length - vs.length) none) :
    Rel K ⟨G.H0, G.F0, G.As, vs⟩ r F H vs := by
  have at0 : ∀ i, i < vs.length → G.S0[i]? = vs[i]? := fun i hi => by
    rw [hS, List.getElem?_append_left hi]
  have own : ∀ (i : Nat) (d : D), r[i]? = some (.ow true d) → e[i]? = some (.ow true d) ∧ σ[i]? = vs[i]? := fun i d z => by
    rcases outs_at h z with q | ⟨d', q, q2⟩
    · cases q
    · cases q
      refine ⟨q2, (R.ar i d q2).trans (at0 i ?_)⟩
      rw [hv, ← outs_len h]
      exact (List.getElem?_eq_some_iff.mp z).1
  have only : ∀ (i : Nat) (b : Bool) (d : D), r[i]? = some (.ow b d) → b = true := fun i b d z => by
    rcases outs_at h z with q | ⟨d', q, q2⟩
    · cases q
    · cases q; rfl
  refine ⟨by rw [outs_len h, hv], fun i s z => ?_, fun i j b c d d' p h1 h2 h3 h4 => ?_, fun i b d p h1 h3 => ?_, R.fh, R.f0, R.nw, R.bs, R.as, fun i d z => rfl⟩
  · rcases outs_at h z with q | ⟨d, q, q2⟩
    · subst q; trivial
    · subst q
      have := R.sl i _ q2
      rw [(own i d z).2] at this
      exact this
  · have b1 := only i b d h1
    have b2 := only j c d' h2
    subst b1 b2
    obtain ⟨g1, k1⟩ := own i d h1
    obtain ⟨g2, k2⟩ := own j d' h2
    exact R.dj i j true true d d' p g1 g2 (k1.trans h3) (k2.trans h4)
  · have b1 := only i b d h1
    subst b1
    obtain ⟨g1, k1⟩ := own i d h1
    exact R.mn i true d p g1 (k1.trans h3)
theorem start_eq {N : List Str} {vs : List V} : start N vs = vs.map some ++ List.replicate (N.length - vs.length) none := rfl
/-- the state at a def's entry -/
theorem Rel.begin {K : PySem.W.Frag} {H F : Hp} {As : List Addr} {as : List Sl} {vs : List V} {N : List Str} (R : Rel K ⟨H, F, As, vs.map some⟩ as F H (vs.map some)) (hl : vs.length ≤ N.length) :
    Rel K ⟨H, F, As, start N vs⟩ (as ++ List.replicate (N.length - as.length) .un) F H (start N vs) := by
  have hlen : as.length = vs.length := by rw [R.len, List.length_map]
  have lt : ∀ {i : Nat} {b : Bool} {d : D}, (as ++ List.replicate (N.length - as.length) Sl.un)[i]? = some (.ow b d) → i < as.length ∧ as[i]? = some (.ow b d) := fun {i b d} z => by
    by_cases q : i < as.length
    · rw [List.getElem?_append_left q] at z; exact ⟨q, z⟩
    · rw [List.getElem?_append_right (by omega), List.getElem?_replicate] at z
      split at z <;> cases z
  have σat : ∀ {i : Nat}, i < as.length → (start N vs)[i]? = (vs.map some)[i]? := fun {i} z => by
    rw [start_eq, List.getElem?_append_left (by rw [List.length_map]; omega)]
  refine ⟨?_, fun i s z => ?_, fun i j b c d e p h1 h2 h3 h4 => ?_, fun i b d p h1 h3 => ?_, R.fh, R.f0, R.nw, R.bs, R.as, fun i d z => rfl⟩
  · rw [start_eq, List.length_append, List.length_append, List.length_replicate, List.length_replicate, List.length_map]
    omega
  · by_cases q : i < as.length
    · rw [List.getElem?_append_left q] at z
      rw [σat q]
      exact R.sl i s z
    · rw [List.getElem?_append_right (by omega), List.getElem?_replicate] at z
      split at z
      · cases z; trivial
      · cases z
  · obtain ⟨q1, g1⟩ := lt h1
    obtain ⟨q2, g2⟩ := lt h2
    rw [σat q1] at h3
    rw [σat q2] at h4
    exact R.dj i j b c d e p g1 g2 h3 h4
  · obtain ⟨q1, g1⟩ := lt h1
    rw [σat q1] at h3
    exact R.mn i b d p g1 h3
section
variable {P : Program} {w : World} {K : PySem.W.Frag} {mg : Str → Option Value} {base : Heap}
def WX0 : WX := fun _ _ _ _ => False
/-- the reading of a whole body -/
theorem body_ok {X : Cx} {W : WX} {n : Nat} {body : En → SR} {t : TS} {vs : List V} {H : Hp} {Q : VK} {E : XK} {ps : Nat} (hK : X.K = K) (hmg : X.mg = mg) (hW : ∀ cls dd σ H, E cls dd H → W cls dd σ H) (hn : X.N.length = n) (hps : ps ≤ n)
    (q : ∀ (G : Gd) (en : En) (F H : Hp) (σ : L2.St) (D : Ends), Rel X.K G en F H σ → PostS X W G F (body en) D → t D σ H)
    (h : spD K mg ps (runDef n body) vs H Q E) : t { nx := fun _ H' => Q .non H', rt := Q } (start X.N vs) H := by
  subst hK hmg hn
  obtain ⟨hl, F, as, As, hla, R, hP⟩ := h
  unfold runDef at hP
  by_cases ha : okArgs as = true
  · rw [if_pos ha] at hP
    have R0 := R.begin (N := X.N) (by omega)
    have hS : ∀ {r : List Sl} {e : En} {F' H' : Hp} {σ' : L2.St}, Rel X.K ⟨H, F, As, start X.N vs⟩ e F' H' σ' → outs as e = some r → Rel X.K ⟨H, F, As, vs.map some⟩ r F' H' (vs.map some) := fun {r e F' H' σ'} R' z =>
      R'.outs (vs := vs.map some) z (by rw [List.length_map]; omega) (by
        show start X.N vs = _
        rw [start_eq, List.length_append, List.length_replicate, Nat.add_sub_cancel_left])
    refine q ⟨H, F, As, start X.N vs⟩ _ F H _ _ R0 ?_
    rw [hla] at hP
    rw [hla]
    cases z : body (as ++ List.replicate (X.N.length - ps) .un) with
    | bad => rw [z] at hP; exact hP
    | bk e => rw [z] at hP; exact hP.elim
    | ct e => rw [z] at hP; exact hP.elim
    | nx e =>
      rw [z] at hP
      simp only at hP
      intro F' H' σ' R' s'
      cases y : outs as e with
      | none => rw [y] at hP; exact hP.elim
      | some r =>
        rw [y] at hP
        exact hP .non F' H' (hS R' y) s' (by unfold RtOk; rw [if_neg Bool.false_ne_true]; exact .non)
    | rt o d e =>
      rw [z] at hP
      simp only at hP
      intro v F' H' σ' R' s' o'
      cases y : outs as e with
      | none => rw [y] at hP; exact hP.elim
      | some r =>
        rw [y] at hP
        refine hP v F' H' (hS R' y) s' ?_
        unfold RtOk at o' ⊢
        cases o with
        | false => rw [if_neg Bool.false_ne_true] at o' ⊢; exact o'
        | true =>
          rw [if_pos rfl] at o' ⊢
          obtain ⟨p, rfl, n1, n2, n3, nd⟩ := o'
          refine ⟨p, rfl, n1, n2, n3, fun j b e2 g1 g2 => ?_⟩
          rcases outs_at y g1 with q | ⟨d2, q, q2⟩
          · cases q
          · obtain ⟨rfl, rfl⟩ : b = true ∧ e2 = d2 := by cases q; exact ⟨rfl, rfl⟩
            refine nd j true e2 q2 ?_
            have hj : j < (vs.map some).length := (List.getElem?_eq_some_iff.mp g2).1
            rw [R'.ar j e2 q2]
            show (start X.N vs)[j]? = _
            rw [start_eq, List.getElem?_append_left hj]
            exact g2
    | ex x e =>
      rw [z] at hP
      simp only at hP
      intro cls dd F' H' σ' R' s' o'
      cases y : outs as e with
      | none => rw [y] at hP; exact hP.elim
      | some r =>
        rw [y] at hP
        exact hW _ _ _ _ (hP cls dd F' H' (hS R' y) s' o')
  · rw [if_neg ha] at hP; exact hP.elim
end

/-! ### calls -/
def argOf (e : En) : A → Option Sl
  | .sh d => some (.sh d)
  | .bor i => match e[i]? with
    | some (.sh d) => some (.sh d)
    | some (.ow _ d) => some (.ow true d)
    | _ => none
def argsOf (e : En) : List A → Option (List Sl)
  | [] => some []
  | a :: as => (argOf e a).bind fun d => (argsOf e as).bind fun ds => some (d :: ds)
def bors (as : List A) : List Nat := as.filterMap fun a => match a with
  | .bor i => some i
  | _ => none
/-- what has become of what was lent -/
def back : List A → List Sl → En → En
  | .bor i :: as, s :: ss, e => back as ss (match e[i]? with
    | some (.ow b _) => e.set i (match s with
      | .ow true d => .ow b d
      | _ => .un)
    | _ => e)
  | _ :: as, _ :: ss, e => back as ss e
  | _, _, e => e
def callRt (Fd : List Sl → Rt) (as : List A) (e : En) : R (Bool × D) := if (bors as).Nodup then (match argsOf e as with
  | none => .bad
  | some ss => match Fd ss with
    | .bad => .bad
    | .ret o d as' => .ok (o, d) (back as as' e)
    | .exc x as' => .ex x (back as as' e)) else .bad
def eCall (Fd : List Sl → Rt) (fs : Ev (List A)) : Ev A := fun e => (fs e).bind fun as e1 => (callRt Fd as e1).bind fun p e2 => .ok (.sh p.2) e2
def oCall (Fd : List Sl → Rt) (fs : Ev (List A)) : Ev D := fun e => (fs e).bind fun as e1 => (callRt Fd as e1).bind fun p e2 => if p.1 = true then .ok p.2 e2 else .bad
end
end M
set_option Elab.async false
set_option linter.all false
set_option maxRecDepth 100000
set_option autoImplicit false
/-! M4: calls of defs. -/
namespace M
noncomputable section
open PySem PySem.Spec PyProof.Rows L2
section
variable {K : PySem.W.Frag} {G : Gd} {F H : Hp} {σ : L2.St} {e : En}
theorem asOk_at : ∀ {as : List A} {vs : List V} {k : Nat} {a : A}, AsOk K F σ as vs → as[k]? = some a → ∃ v, vs[k]? = some v ∧ AOk K F σ a v
  | [], _, _, _, _, z => by simp at z
  | _ :: _, _, 0, _, ⟨v, ws, e, h, t⟩, z => by simp at z; subst z; exact ⟨v, by rw [e]; rfl, h⟩
  | _ :: as, _, k + 1, a, ⟨v, ws, e, h, t⟩, z => by
    obtain ⟨u, h1, h2⟩ := asOk_at (k := k) (a := a) t (by simpa using z)
    exact ⟨u, by rw [e]; simpa using h1, h2⟩
theorem argsOf_at : ∀ {as : List A} {ss : List Sl} {k : Nat} {s : Sl}, argsOf e as = some ss → ss[k]? = some s → ∃ a, as[k]? = some a ∧ argOf e a = some s
  | [], _, _, _, h, z => by cases h; simp at z
  | a :: as, ss, k, s, h, z => by
    obtain ⟨s1, h1, h2⟩ := Option.bind_eq_some_iff.mp h
    obtain ⟨ss', h3, h4⟩ := Option.bind_eq_some_iff.mp h2
    cases h4
    cases k with
    | zero => simp at z; subst z; exact ⟨a, rfl, h1⟩
    | succ k =>
      obtain ⟨b, q1, q2⟩ := argsOf_at (k := k) h3 (by simpa using z)
      exact ⟨b, by simpa using q1, q2⟩
theorem argsOf_len : ∀ {as : List A} {ss : List Sl}, argsOf e as = some ss → ss.length = as.length
  | [], _, h => by cases h; rfl
  | a :: as, ss, h => by
    obtain ⟨s1, h1, h2⟩ := Option.bind_eq_some_iff.mp h
    obtain ⟨ss', h3, h4⟩ := Option.bind_eq_some_iff.mp h2
    cases h4
    exact congrArg (· + 1) (argsOf_len h3)
theorem mem_bors {as : List A} {i k : Nat} (h : as[k]? = some (.bor i)) : i ∈ bors as :=
  List.mem_filterMap.mpr ⟨.bor i, List.mem_of_getElem? h, rfl⟩
theorem bors_inj : ∀ {as : List A} {i j k : Nat}, (bors as).Nodup → as[j]? = some (.bor i) → as[k]? = some (.bor i) → j = k
  | [], _, _, _, _, h, _ => by simp at h
  | a :: as, i, j, k, nd, h1, h2 => by
    have tl : (bors as).Nodup := by
      cases a with
      | sh d => exact nd
      | bor m => exact (List.nodup_cons.mp nd).2
    cases j with
    | zero =>
      simp at h1
      subst h1
      cases k with
      | zero => rfl
      | succ k => exact ((List.nodup_cons.mp (show (i :: bors as).Nodup from nd)).1 (mem_bors (k := k) (by simpa using h2))).elim
    | succ j =>
      cases k with
      | zero =>
        simp at h2
        subst h2
        exact ((List.nodup_cons.mp (show (i :: bors as).Nodup from nd)).1 (mem_bors (k := j) (by simpa using h1))).elim
      | succ k => exact congrArg (· + 1) (bors_inj tl (by simpa using h1) (by simpa using h2))
theorem back_len : ∀ {as : List A} {ss : List Sl} {e : En}, (back as ss e).length = e.length
  | [], _, _ => rfl
  | .sh _ :: _, [], _ => rfl
  | .bor _ :: _, [], _ => rfl
  | .sh d :: as, s :: ss, e => back_len (as := as) (ss := ss)
  | .bor i :: as, s :: ss, e => by
    unfold back
    rw [back_len]
    split
    · rw [List.length_set]
    · rfl
theorem back_other : ∀ {as : List A} {ss : List Sl} {e : En} {i : Nat}, i ∉ bors as → (back as ss e)[i]? = e[i]?
  | [], _, _, _, _ => rfl
  | .sh _ :: _, [], _, _, _ => rfl
  | .bor _ :: _, [], _, _, _ => rfl
  | .sh d :: as, s :: ss, e, i, h => back_other (as := as) (ss := ss) h
  | .bor j :: as, s :: ss, e, i, h => by
    have h' : ¬ (i = j ∨ i ∈ bors as) := fun z => h (List.mem_cons.mpr z)
    unfold back
    rw [back_other (fun z => h' (.inr z))]
    split
    · rw [List.getElem?_set_ne (fun z => h' (.inl z.symm))]
    · rfl
theorem back_at : ∀ {as : List A} {ss : List Sl} {e : En} {i : Nat} {s : Sl}, (bors as).Nodup → ss.length = as.length → (back as ss e)[i]? = some s →
    (∃ (k : Nat) (b : Bool) (d d' : D), as[k]? = some (.bor i) ∧ ss[k]? = some (.ow true d') ∧ e[i]? = some (.ow b d) ∧ s = .ow b d') ∨ s = .un ∨ (e[i]? = some s ∧ ((∃ (b : Bool) (d : D), s = .ow b d) → i ∉ bors as))
  | [], ss, e, i, s, _, _, h => .inr (.inr ⟨h, fun _ => by simp [bors]⟩)
  | .sh _ :: _, [], _, _, _, _, l, _ => by simp at l
  | .bor _ :: _, [], _, _, _, _, l, _ => by simp at l
  | .sh x :: as, t :: ss, e, i, s, nd, l, h => by
    rcases back_at (as := as) (ss := ss) nd (by simpa using l) h with ⟨k, b, d, d', h1, h2, h3, h4⟩ | h | ⟨h, q⟩
    · exact .inl ⟨k + 1, b, d, d', by simpa using h1, by simpa using h2, h3, h4⟩
    · exact .inr (.inl h)
    · exact .inr (.inr ⟨h, q⟩)
  | .bor j :: as, t :: ss, e, i, s, nd, l, h => by
    obtain ⟨n1, n2⟩ := List.nodup_cons.mp (show (j :: bors as).Nodup from nd)
    unfold back at h
    by_cases hij : i = j
    · subst hij
      rw [back_other n1] at h
      cases q : e[i]? with
      | none => rw [q] at h; simp only at h; rw [q] at h; cases h
      | some s0 =>
        have hlt : i < e.length := (List.getElem?_eq_some_iff.mp q).1
        rw [q] at h
        cases s0 with
        | un => simp only at h; rw [q] at h; cases h; exact .inr (.inl rfl)
        | sh d => simp only at h; rw [q] at h; cases h; exact .inr (.inr ⟨rfl, fun ⟨b, d', z⟩ => by cases z⟩)
        | ow b d =>
          simp only at h
          rw [List.getElem?_set_self hlt] at h
          cases t with
          | un => cases h; exact .inr (.inl rfl)
          | sh d2 => cases h; exact .inr (.inl rfl)
          | ow c d2 =>
            cases c with
            | false => cases h; exact .inr (.inl rfl)
            | true => cases h; exact .inl ⟨0, b, d, d2, rfl, rfl, rfl, rfl⟩
    · have key : ∀ s', ((match e[j]? with
          | some (.ow b _) => e.set j (match t with
            | .ow true d => .ow b d
            | _ => .un)
          | _ => e) : En)[i]? = some s' → e[i]? = some s' := fun s' z => by
        split at z
        · rw [List.getElem?_set_ne (Ne.symm hij)] at z; exact z
        · exact z
      rcases back_at (as := as) (ss := ss) n2 (by simpa using l) h with ⟨k, b, d, d', h1, h2, h3, h4⟩ | h | ⟨h, q⟩
      · exact .inl ⟨k + 1, b, d, d', by simpa using h1, by simpa using h2, key _ h3, h4⟩
      · exact .inr (.inl h)
      · refine .inr (.inr ⟨key _ h, fun z w => ?_⟩)
        rcases List.mem_cons.mp (show i ∈ j :: bors as from w) with w | w
        · exact hij w
        · exact q z w
/-- the addresses that are lent -/
def lents (σ : L2.St) (e : En) (as : List A) : List Addr := as.filterMap fun a => match a with
  | .bor i => match e[i]?, σ[i]? with
    | some (.ow _ _), some (some (.ref p)) => some p
    | _, _ => none
  | _ => none
theorem mem_lents {as : List A} {p : Addr} : p ∈ lents σ e as ↔ ∃ i b d, .bor i ∈ as ∧ e[i]? = some (.ow b d) ∧ σ[i]? = some (some (.ref p)) := by
  unfold lents
  rw [List.mem_filterMap]
  constructor
  · rintro ⟨a, ha, h⟩
    cases a with
    | sh d => cases h
    | bor i =>
      simp only at h
      split at h
      · rename_i b d p' h1 h2
        cases h
        exact ⟨i, b, d, ha, h1, h2⟩
      · cases h
  · rintro ⟨i, b, d, ha, h1, h2⟩
    exact ⟨.bor i, ha, by simp only [h1, h2]⟩
theorem lend (R : Rel K G e F H σ) {as : List A} {vs : List V} {ss : List Sl} (h : AsOk K F σ as vs) (nd : (bors as).Nodup) (ha : argsOf e as = some ss) :
    Rel K ⟨H, F, lents σ e as, vs.map some⟩ ss F H (vs.map some) := by
  have slot : ∀ {k : Nat} {b : Bool} {d : D}, ss[k]? = some (.ow b d) → b = true ∧ ∃ i c p, as[k]? = some (.bor i) ∧ e[i]? = some (.ow c d) ∧ σ[i]? = some (some (.ref p)) ∧ vs[k]? = some (.ref p) ∧ F p = none ∧ Own K F H p d := fun {k b d} z => by
    obtain ⟨a, h1, h2⟩ := argsOf_at ha z
    cases a with
    | sh d' => cases h2
    | bor i =>
      unfold argOf at h2
      simp only at h2
      split at h2
      · cases h2
      · rename_i c d' q
        cases h2
        obtain ⟨p, g1, g2, g3⟩ := R.owV q
        obtain ⟨v, w1, w2⟩ := asOk_at h h1
        have w3 : σ[i]? = some (some v) := w2
        rw [g1] at w3
        cases w3
        exact ⟨rfl, i, c, p, h1, q, g1, w1, g2, g3⟩
      · cases h2
  have mapAt : ∀ {k : Nat} {v : V}, vs[k]? = some v → (vs.map some)[k]? = some (some v) := fun {k v} z => by rw [List.getElem?_map, z]; rfl
  refine ⟨?_, fun k s z => ?_, fun j k b c d d' p h1 h2 h3 h4 => ?_, fun k b d p z y => ?_, R.fh, .refl _, fun a o z => .inl z, fun a o z _ => z, fun a z => ?_, fun i d z => rfl⟩
  · rw [argsOf_len ha, List.length_map, h.len]
  · obtain ⟨a, h1, h2⟩ := argsOf_at ha z
    obtain ⟨v, w1, w2⟩ := asOk_at h h1
    rw [mapAt w1]
    cases a with
    | sh d => cases h2; exact ⟨v, rfl, w2⟩
    | bor i =>
      have w3 : σ[i]? = some (some v) := w2
      unfold argOf at h2
      simp only at h2
      split at h2
      · rename_i d q
        cases h2
        obtain ⟨v', g1, g2⟩ := R.shV q
        rw [w3] at g1
        cases g1
        exact ⟨v, rfl, g2⟩
      · rename_i c d q
        cases h2
        obtain ⟨p, g1, g2, g3⟩ := R.owV q
        rw [w3] at g1
        cases g1
        exact ⟨p, rfl, g2, g3⟩
      · cases h2
  · obtain ⟨_, i1, c1, p1, a1, b1, s1, v1, _⟩ := slot h1
    obtain ⟨_, i2, c2, p2, a2, b2, s2, v2, _⟩ := slot h2
    rw [mapAt v1] at h3
    rw [mapAt v2] at h4
    cases h3
    cases h4
    have := R.dj i1 i2 c1 c2 d d' p b1 b2 s1 s2
    subst this
    exact bors_inj nd a1 a2
  · obtain ⟨e1, i1, c1, p1, a1, b1, s1, v1, _⟩ := slot z
    subst e1
    rw [mapAt v1] at y
    cases y
    rw [if_pos rfl]
    exact mem_lents.mpr ⟨i1, c1, d, List.mem_of_getElem? a1, b1, s1⟩
  · obtain ⟨i, b, d, _, g1, g2⟩ := mem_lents.mp z
    obtain ⟨p, q1, _, q3⟩ := R.owV g1
    rw [g2] at q1
    cases q1
    exact q3.some
theorem unlend (R : Rel K G e F H σ) {as : List A} {vs : List V} {ss as' : List Sl} {F' H' : Hp} (h : AsOk K F σ as vs) (nd : (bors as).Nodup) (ha : argsOf e as = some ss) (hl : as'.length = as.length)
    (R' : Rel K ⟨H, F, lents σ e as, vs.map some⟩ as' F' H' (vs.map some)) : Rel K G (back as as' e) F' H' σ := by
  have own : ∀ {i : Nat} {b : Bool} {d : D}, (back as as' e)[i]? = some (.ow b d) → ∃ d0, e[i]? = some (.ow b d0) := fun {i b d} z => by
    rcases back_at nd hl z with ⟨k, b', d', d2, h1, h2, h3, h4⟩ | q | ⟨q, _⟩
    · cases h4; exact ⟨d', h3⟩
    · cases q
    · exact ⟨d, q⟩
  refine ⟨by rw [back_len]; exact R.len, fun i s z => ?_, fun i j b c d d' p h1 h2 h3 h4 => ?_, fun i b d p z y => ?_, R'.fh, R.f0.trans R'.f0, fun a o z => ?_, fun a o z q => ?_, fun a z => ?_, fun i d z => ?_⟩
  · rcases back_at nd hl z with ⟨k, b, d, d', h1, h2, h3, h4⟩ | q | ⟨q, nb⟩
    · subst h4
      obtain ⟨p, g1, g2, g3⟩ := R.owV h3
      obtain ⟨v, w1, w2⟩ := asOk_at h h1
      have w3 : σ[i]? = some (some v) := w2
      rw [g1] at w3
      cases w3
      obtain ⟨p', q1, q2, q3⟩ := R'.owV h2
      rw [List.getElem?_map, w1] at q1
      cases q1
      exact ⟨p, by rw [g1]; rfl, q2, q3⟩
    · subst q; trivial
    · cases s with
      | un => trivial
      | sh d =>
        obtain ⟨v, g1, g2⟩ := R.sl i _ q
        exact ⟨v, g1, g2.mono R'.f0⟩
      | ow b d =>
        obtain ⟨p, g1, g2, g3⟩ := R.sl i _ q
        obtain ⟨o, ho⟩ := g3.some
        have np : p ∉ lents σ e as := fun w => by
          obtain ⟨i2, b2, d2, w1, w2, w3⟩ := mem_lents.mp w
          have := R.dj i i2 b b2 d d2 p q w2 (join_some g1) w3
          subst this
          exact nb ⟨b, d, rfl⟩ (List.mem_filterMap.mpr ⟨_, w1, rfl⟩)
        have hp' : H' p = some o := R'.bs p o ho np
        refine ⟨p, g1, ?_, g3.mono R'.f0 (hp'.trans ho.symm)⟩
        cases w : F' p with
        | none => rfl
        | some u =>
          rcases R'.nw p u w with x | x
          · have x' : F p = some u := x
            rw [g2] at x'; cases x'
          · have x' : H p = none := x
            rw [ho] at x'; cases x'
  · obtain ⟨d1, g1⟩ := own h1
    obtain ⟨d2, g2⟩ := own h2
    exact R.dj i j b c d1 d2 p g1 g2 h3 h4
  · obtain ⟨d1, g1⟩ := own z
    exact R.mn i b d1 p g1 y
  · rcases R'.nw a o z with x | x
    · exact R.nw a o x
    · exact .inr (R.free0 x)
  · refine R'.bs a o (R.bs a o z q) fun w => ?_
    obtain ⟨i, b, d, _, g1, g2⟩ := mem_lents.mp w
    have m := R.mn i b d a g1 g2
    cases b with
    | true => exact q (by simpa using m)
    | false => rw [show G.H0 a = none by simpa using m] at z; cases z
  · obtain ⟨o, q⟩ := R.as a z
    by_cases w : a ∈ lents σ e as
    · exact R'.as a w
    · exact ⟨o, R'.bs a o q w⟩
  · obtain ⟨d0, g⟩ := own z
    exact R.ar i d0 g
theorem new_out (R : Rel K G e F H σ) {as : List A} {as' : List Sl} {L : List Addr} {vs : L2.St} {F' H' : Hp} {d : D} {v : V} (nd : (bors as).Nodup) (hl : as'.length = as.length) (n : NewAt ⟨H, F, L, vs⟩ as' K F' H' vs d v) : NewAt G (back as as' e) K F' H' σ d v := by
  obtain ⟨p, rfl, h1, h2, h3, h4⟩ := n
  refine ⟨p, rfl, h1, h2, R.free0 h3, fun j b d' z y => ?_⟩
  have own : ∃ d0, e[j]? = some (.ow b d0) := by
    rcases back_at nd hl z with ⟨k, b', d', d2, h1, h2, h3, h4⟩ | q | ⟨q, _⟩
    · cases h4; exact ⟨d', h3⟩
    · cases q
    · exact ⟨_, q⟩
  obtain ⟨d0, g⟩ := own
  obtain ⟨p', q1, _, q3⟩ := R.owV g
  rw [y] at q1
  cases q1
  obtain ⟨o, ho⟩ := q3.some
  have h3' : H p = none := h3
  rw [ho] at h3'; cases h3'
end
/-- the meaning keeps the number of its arguments -/
def Keeps (Fd : List Sl → Rt) : Prop := ∀ ss, (∀ o d as', Fd ss = .ret o d as' → as'.length = ss.length) ∧ ∀ x as', Fd ss = .exc x as' → as'.length = ss.length
theorem runDef_keeps {n : Nat} {body : En → SR} : Keeps (runDef n body) := by
  intro ss
  unfold runDef
  by_cases h : okArgs ss = true
  · rw [if_pos h]
    refine ⟨fun o d as' e => ?_, fun x as' e => ?_⟩
    · split at e
      · split at e
        · rename_i q; cases e; exact outs_len q
        · cases e
      · split at e
        · rename_i q; cases e; exact outs_len q
        · cases e
      · split at e <;> cases e
      · cases e
    · split at e
      · split at e <;> cases e
      · split at e <;> cases e
      · split at e
        · rename_i q; cases e; exact outs_len q
        · cases e
      · cases e
  · rw [if_neg h]
    exact ⟨fun o d as' e => (nomatch e), fun x as' e => (nomatch e)⟩
section
variable {X : Cx} {W : WX} {CX : CXT} {k : Nat} {f : Addr} {fd : FuncData} {ps : List Str} {dvs : List V} {ds : List Value} {E : XK} {x m : Str} {p pos apos : Pos} {a : Expr} {es : List Expr} {fs : Ev (List A)} {Fd : List Sl → Rt}
/-- no exception -/
def NoX (Fd : List Sl → Rt) : Prop := ∀ ss y as', Fd ss ≠ .exc y as'
theorem call_run {G : Gd} {e1 : En} {F1 H1 : Hp} {σ : L2.St} {as : List A} {vs : List V} {n : Nat} {β : Type} {g : Bool × D → En → M.R β} {Q : VK} {Post : Hp → M.R β → Prop} (kp : Keeps Fd) (hn : as.length = n)
    (R1 : Rel X.K G e1 F1 H1 σ) (o1 : AsOk X.K F1 σ as vs) (nb : Post F1 .bad → False) (h : Post F1 ((callRt Fd as e1).bind g))
    (ok : ∀ o d e2 v F' H', Rel X.K G e2 F' H' σ → Same F1 F' → RtOk X.K G e2 F' H' σ o d v → Post F1 (g (o, d) e2) → Q v H')
    (ex : ∀ y e2 cls dd F' H', (∃ ss as', Fd ss = .exc y as') → Rel X.K G e2 F' H' σ → Same F1 F' → XOk X F' y cls dd → Post F1 (.ex y e2) → E cls dd H') : spD X.K X.mg n Fd vs H1 Q E := by
  unfold callRt at h
  by_cases nd : (bors as).Nodup
  · rw [if_pos nd] at h
    cases z : argsOf e1 as with
    | none => rw [z] at h; exact (nb h).elim
    | some ss =>
      rw [z] at h
      simp only at h
      have R2 := lend R1 o1 nd z
      refine ⟨by rw [o1.len, hn], F1, ss, lents σ e1 as, by rw [argsOf_len z, hn], R2, ?_⟩
      cases y : Fd ss with
      | bad => rw [y] at h; exact (nb h).elim
      | ret o d as' =>
        rw [y] at h
        simp only [M.R.bind] at h
        intro v F' H' R' s' ro
        have hl : as'.length = as.length := ((kp ss).1 o d as' y).trans (argsOf_len z)
        refine ok o d _ v F' H' (unlend R1 o1 nd z hl R') s' ?_ h
        unfold RtOk at ro ⊢
        cases o with
        | false => rw [if_neg Bool.false_ne_true] at ro ⊢; exact ro
        | true => rw [if_pos rfl] at ro ⊢; exact new_out R1 nd hl ro
      | exc xx as' =>
        rw [y] at h
        simp only [M.R.bind] at h
        intro cls dd F' H' R' s' xo
        have hl : as'.length = as.length := ((kp ss).2 xx as' y).trans (argsOf_len z)
        exact ex xx _ cls dd F' H' ⟨_, _, y⟩ (unlend R1 o1 nd z hl R') s' xo h
  · rw [if_neg nd] at h; exact (nb h).elim
/-- as NewAt, frozen -/
theorem NewAt.frz {K : PySem.W.Frag} {G : Gd} {en : En} {F H : Hp} {σ : L2.St} {d : D} {v : V} (R' : Rel K G en F H σ) (n : NewAt G en K F H σ d v) : ∃ F', Rel K G en F' H σ ∧ Same F F' ∧ Rep K F' v d := by
  obtain ⟨p, rfl, n, o, h0, nd⟩ := n
  obtain ⟨ob, ho⟩ := o.some
  have sF : Same F (upd F p ob) := fun b u z => by
    have ne : b ≠ p := fun y => by rw [y, n] at z; cases z
    rw [upd_ne ne]; exact z
  have rp : Rep K (upd F p ob) (.ref p) d := o.rep sF (by rw [upd_same, ho])
  refine ⟨upd F p ob, ?_, sF, rp⟩
  exact {
    len := R'.len
    sl := fun j s z => by
      have y := R'.sl j s z
      cases s with
      | un => trivial
      | sh d => obtain ⟨v, g1, g2⟩ := y; exact ⟨v, g1, g2.mono sF⟩
      | ow bb d' =>
        obtain ⟨p', g1, g2, g3⟩ := y
        have ne : p' ≠ p := fun w => nd j bb d' z (by rw [← w]; exact join_some g1)
        exact ⟨p', g1, by rw [upd_ne ne]; exact g2, g3.mono sF rfl⟩
    dj := R'.dj
    mn := R'.mn
    fh := fun b u z => by
      by_cases y : b = p
      · rw [y, upd_same] at z; cases z; rw [y]; exact ho
      · rw [upd_ne y] at z; exact R'.fh _ _ z
    f0 := R'.f0.trans sF
    nw := fun b u z => by
      by_cases y : b = p
      · rw [y]; exact .inr h0
      · rw [upd_ne y] at z; exact R'.nw b u z
    bs := R'.bs
    as := R'.as
    ar := R'.ar }
theorem rt_frz {K : PySem.W.Frag} {G : Gd} {en : En} {F H : Hp} {σ : L2.St} {d : D} {v : V} {o : Bool} (R' : Rel K G en F H σ) (n : RtOk K G en F H σ o d v) : ∃ F', Rel K G en F' H σ ∧ Same F F' ∧ Rep K F' v d := by
  unfold RtOk at n
  cases o with
  | false => rw [if_neg Bool.false_ne_true] at n; exact ⟨F, R', .refl _, n⟩
  | true => rw [if_pos rfl] at n; exact n.frz R'
theorem alen_nil {en e1 : En} {as : List A} (h : eNil en = .ok as e1) : as.length = 0 := by cases h; rfl
theorem alen_cons {fa : Ev A} {fs : Ev (List A)} {n : Nat} (h : ∀ en as e1, fs en = .ok as e1 → as.length = n) : ∀ en as e1, eCons fa fs en = .ok as e1 → as.length = n + 1 := by
  intro en as e1 z
  unfold eCons at z
  cases q : fa en with
  | bad => rw [q] at z; cases z
  | ex y e => rw [q] at z; cases z
  | ok a e2 =>
    rw [q] at z
    simp only [M.R.bind] at z
    cases q2 : fs e2 with
    | bad => rw [q2] at z; cases z
    | ex y e => rw [q2] at z; cases z
    | ok as2 e3 =>
      rw [q2] at z
      cases z
      exact congrArg (· + 1) (h e2 as2 _ q2)
end
end
end M
set_option Elab.async false
set_option linter.all false
set_option maxRecDepth 100000
set_option autoImplicit false
/-! MG: a def's promise that knows that no object's text is being made around it (repr wants that), and a law's end over it. -/
namespace M
noncomputable section
open PySem PySem.Spec PyProof.Rows L2
/-- as FnOk, where no object's text is in the making around the call -/
structure FnG (P : Program) (w : World) (K : PySem.W.Frag) (mg : Str → Option Value) (bs : Heap) (cx : CXT) (k : Nat) (f : Addr) (fd : FuncData) (ps : List Str) (sp : Sp) : Prop where
  len : ∀ us H Q E, sp us H Q E → us.length = ps.length
  run : ∀ (A : Around) (out : List PySem.Env) (s : Shared) (H : Hp) (ar : Args) (us : List Value) (vs : List V) (Q : VK) (E : XK), Room k A → A.guards = some [] → Env0 P w K mg bs A out s H → BindsTo s fd ar (ps.zip us) → Vals vs us → sp vs H Q E →
    codeAny (model P w) A (.call (.ref f) ar) (CR cx out P w H s Q E) s
section
variable {P : Program} {w : World} {K : PySem.W.Frag} {mg : Str → Option Value} {bs : Heap}
theorem FnG.mono {cx : CXT} {j k : Nat} {f : Addr} {fd : FuncData} {ps : List Str} {sp : Sp} (F : FnG P w K mg bs cx j f fd ps sp) (h : j ≤ k) : FnG P w K mg bs cx k f fd ps sp :=
  ⟨F.len, fun A out s H ar us vs Q E r => F.run A out s H ar us vs Q E (r.mono h)⟩
theorem FnG.of {cx : CXT} {k : Nat} {f : Addr} {fd : FuncData} {ps : List Str} {sp : Sp} (F : FnOk P w K mg bs cx k f fd ps sp) : FnG P w K mg bs cx k f fd ps sp :=
  ⟨F.len, fun A out s H ar us vs Q E r _ => F.run A out s H ar us vs Q E r⟩
theorem guards_deeper {A : Around} {env : PySem.Env} (h : A.guards = some []) : (A.deeper env).guards = some [] := by
  first | exact h | (simp [Around.deeper, h])
/-- a def of the text, by its body, where no object's text is in the making -/
theorem fnG_of {cx : CXT} {k : Nat} {f : Addr} {nm qu : Str} {pa : Arguments} {bd : List Stmt} {sc : Scope} {v1 v2 v3 v4 cdv v5 v6 : Value} {a1 a2 : Option Addr}
    {sl : Array (Option Value)} {N ps : List Str} {sp : Sp} (lk : K.lookup f = some ⟨v6, a2, .func (PySem.W.fnOf nm qu pa bd sc v1 v2 v3 v4 a1 cdv v5), sl⟩) (hc : PySem.W.codeIn K cdv qu = true) (S : FnScope N ps sc) (len : ∀ us H Q E, sp us H Q E → us.length = ps.length)
    (body : ∀ (A : Around) (out : List PySem.Env) (s : Shared) (H : Hp) (vs : List V) (Q : VK) (E : XK), Room k (A.deeper (envOfC qu sc s.heap.objs.size f cdv)) → (A.deeper (envOfC qu sc s.heap.objs.size f cdv)).guards = some [] → sp vs H Q E →
      ∃ t, PSs (cxOf cx P w K mg bs N qu sc f cdv A out s H E) bd t ∧ t { nx := fun _ H1 => Q .non H1, rt := Q } (start N vs) H) :
    FnG P w K mg bs cx (k + 1) f (PySem.W.fnOf nm qu pa bd sc v1 v2 v3 v4 a1 cdv v5) ps sp := by
  refine ⟨len, fun A out s H ar us vs Q E r gd e0 hb rv hp => ?_⟩
  have l1 := len _ _ _ _ hp
  have k1 : K.In s.heap := e0.mod.kin.keeps fun c o q => (e0.bs c o q).1
  have l2 : s.heap.NoLimit := e0.mod.nolimit.keeps fun c o q => (e0.bs c o q).1
  have kinds : ∀ z ∈ ps.zip us, sc.names.lookup z.1 = some .local ∨ (sc.names.lookup z.1 = some .cell ∧ ((cellsFrom (s.heap.objs.size + 1) sc.names []).lookup z.1).isSome = true) := by
    rintro ⟨n, v⟩ hz
    cases S.par n (List.of_mem_zip hz).1 with
    | inl q => exact .inl q
    | inr q => exact .inr ⟨q, PySem.W.cellsFrom_some _ _ _ (.inl q)⟩
  refine codeAny_call_function r.depth (k1 _ _ lk) rfl S.co S.gen rfl (PySem.W.codeRec_of k1 hc) (hb _ _ _ _ (wpAny_newFunctionEnv_cells S.kind kinds fun ev q s1 x => ?_))
  subst q
  refine ⟨l2.keeps x.toInCall.keep, codeAny_func ?_⟩
  obtain ⟨t, ht, hq⟩ := body A out s H vs Q E (r.deeper _) (guards_deeper gd) hp
  have I0 : Inv (cxOf cx P w K mg bs N qu sc f cdv A out s H E) [] (start N vs) H s1 := inv_start S r.hd e0 l1 rv x
  refine wpAny_mono (ht.run [] s1 (start N vs) H _ I0 hq) (fun fl s2 hs => ?_) fun _ _ q => q
  cases fl with
  | ret u => exact (fun ⟨v, σ2, H2, J, q1, q2⟩ => ⟨v, H2, J.os, J.bare, J.base, J.hok, q1, q2⟩) hs
  | next => exact (fun ⟨σ2, H2, J, q2⟩ => ⟨.non, H2, J.os, J.bare, J.base, J.hok, rfl, q2⟩) hs
  | brk => obtain ⟨_, _, _, q⟩ := hs; exact q.elim
  | cont => obtain ⟨_, _, _, q⟩ := hs; exact q.elim
/-- the end of a law over such promises -/
theorem law_callG {mb : Str → Option Value} {cx : CXT} {k : Nat} {fa a : Addr} {fd : FuncData} {x : Str} {sp : Sp} {s1 : Shared} {us : List Value} {ns : List Int}
    (k1 : K.In s1.heap) (n1 : s1.heap.Ns mainGlobals mg) (n2 : s1.heap.Ns builtinsNs mb) (n3 : ∀ y : Str, y ≠ "__name__" → mb y = bootBuiltins y) (l1 : s1.heap.NoLimit) (g1 : s1.gens = #[])
    (a1 : s1.heap.get? a = some { cls := .type "list", data := .seq us.toArray }) (i1 : IntsAre us ns) (z1 : ns.length ≤ sizeLine) (r1 : Room k callerA)
    (F : ∀ bs : Heap, K.In bs → bs.Ns mainGlobals mg → FnG P w K mg bs cx k fa fd [x] sp) (b1 : ∀ (s : Shared) (u : Value), BindsTo s fd ⟨[u], []⟩ [(x, u)])
    (hp : ∀ H : Hp, Only H → SqL K H a (ns.map V.int) → sp [.ref a] H (fun v _ => v = .bl true) fun _ _ _ => False) (hx : ∀ H e s2, cx [] H s1 (fun _ _ _ => False) e s2 → False) :
    codeAny (model P w) callerA (.call (.ref fa) ⟨[.ref a], []⟩) (fun r s2 => r = .ok (.ret (.bool true)) ∧ OldK s1.heap s2.heap ∧ s2.os = s1.os ∧ AllBare s2.gens) s1 := by
  have rv := vals_ints i1
  have core : ∀ H : Hp, Only H → SqL K H a (ns.map V.int) → HOk P w H s1.heap → (∀ b, H b ≠ none → b = a) → (H a ≠ none → K.lookup a = none) → codeAny (model P w) callerA (.call (.ref fa) ⟨[.ref a], []⟩) (fun r s2 => r = .ok (.ret (.bool true)) ∧ OldK s1.heap s2.heap ∧ s2.os = s1.os ∧ AllBare s2.gens) s1 := by
    intro H hO hS hok hA hK
    have nod : ∀ {b : Addr} {o : Obj} {es : Array DictEntry} {ep : Nat}, s1.heap.get? b = some o → o.data = .dict es ep → H b = none := fun {b o es ep} e d => by
      cases q : H b with
      | none => rfl
      | some u =>
        obtain rfl : b = a := hA b (by rw [q]; simp)
        rw [a1] at e
        cases e
        exact nomatch (show Data.seq us.toArray _ = Data.dict es ep from d)
    have nsK : ∀ {b : Addr} {m : Str → Option Value}, s1.heap.Ns b m → (hidT s1.heap H).Ns b m := fun {b m} h => let ⟨o, es, ep, e, d, r⟩ := h; ⟨o, es, ep, hidT_get e (nod e d), d, r⟩
    have k2 : K.In (hidT s1.heap H) := fun b o e => hidT_get (k1 b o e) (by
      cases q : H b with
      | none => rfl
      | some u =>
        obtain rfl : b = a := hA b (by rw [q]; simp)
        rw [hK (by rw [q]; simp)] at e
        cases e)
    have m2 : Mod K mg (hidT s1.heap H) := ⟨k2, nsK n1, ⟨mb, nsK n2, n3⟩, (fun ⟨mc, h1, h2⟩ => ⟨mc, nsK h1, h2⟩ : s1.heap.NoLimit → (hidT s1.heap H).NoLimit) l1⟩
    have e0 : Env0 P w K mg (hidT s1.heap H) callerA [] s1 H := ⟨rfl, m2, fun b o q => of_hidT q, Nat.le_of_eq (hidT_size _ _), trivial, (fun b q => absurd (show b ∈ ([] : List Addr) from q) (by simp)), hok, .of_eq g1⟩
    refine codeAny_mono ((F _ k2 (nsK n1)).run callerA [] s1 H ⟨[.ref a], []⟩ [.ref a] [.ref a] _ _ r1 rfl e0 (b1 s1 (.ref a)) (.cons rfl .nil) (hp H hO hS)) fun r s2 h => ?_
    cases r with
    | error e => exact (hx H e s2 h).elim
    | ok fl =>
      cases fl with
      | ret u =>
        obtain ⟨v, H2, w1, w2, w3, w4, w5, w6⟩ := h
        obtain rfl : v = .bl true := w6
        obtain rfl : u = Value.bool true := w5
        refine ⟨rfl, OldK.of_keep fun b o e => ?_, w1, w2⟩
        cases q : H b with
        | none => exact w3.keep b o e q (fun z => absurd (show b ∈ ([] : List Addr) from z) (by simp)) (by simp)
        | some u =>
          cases hO b with
          | inl z => rw [q] at z; cases z
          | inr z =>
            obtain ⟨ob, xs, z⟩ := z
            have y1 := (hok b _ z).1
            have y2 := (w4 b _ (w3.frzs b ob _ z)).1
            rw [e] at y1
            cases y1
            exact y2
      | _ => exact False.elim h
  cases hk : K.lookup a with
  | some o =>
    have e := k1 a o hk
    rw [a1] at e
    cases e
    exact core (fun _ => none) (fun _ => .inl rfl) (.inr ⟨_, us.toArray, _, hk, rfl, rfl, rfl, by rw [List.size_toArray, i1.length]; exact z1, by simpa using rv⟩) (fun b u z => by cases z) (fun b z => absurd rfl z) fun z => absurd rfl z
  | none =>
    refine core (fun b => if b = a then some (.frz { cls := .type "list", data := .seq us.toArray } (.lst (ns.map V.int))) else none) (fun b => ?_) (.inl (.inr ⟨{ cls := .type "list", data := .seq us.toArray }, if_pos rfl⟩)) (fun b u z => ?_) (fun b z => ?_) fun _ => hk
    · by_cases y : b = a
      · exact .inr ⟨_, _, if_pos y⟩
      · exact .inl (if_neg y)
    · by_cases y : b = a
      · cases (if_pos y).symm.trans z
        subst y
        exact ⟨a1, by rw [List.length_map]; exact z1, us, _, rv, a1⟩
      · cases (if_neg y).symm.trans z
    · by_cases y : b = a
      · exact y
      · exact absurd (if_neg y) z
theorem walk_ofG {l : PySem.W.OpenLaw} {n k : Nat} {q : Program} {loose : List Str} {XP : (Str → Option Value) → Heap → Prop} {YP : World → Heap → Prop} {d : DefRec} {Kf : Params → PySem.W.Frag} {sp : World → (Str → Option Value) → Sp} {x : Str}
    (h1 : l.most = some n) (h2 : n ≤ sizeLine) (h3 : d.params.defaults = []) (h4 : Room k callerA) (h5 : ∀ (w : World) (h : Heap), YP w h → (Kf w.params).In h)
    (F : ∀ (w : World) (mg : Str → Option Value) (fa : Addr) (h : Heap), (Kf w.params).In h → h.Ns mainGlobals mg → mg d.name = some (.ref fa) →
      ∃ fd : FuncData, (∀ (s : Shared) (u : Value), BindsTo s fd ⟨[u], []⟩ [(x, u)]) ∧ ∀ bs : Heap, (Kf w.params).In bs → bs.Ns mainGlobals mg → FnG l.prog w (Kf w.params) mg bs CX0 k fa fd [x] (sp w mg))
    (hp : ∀ (w : World) (mg : Str → Option Value) (H : Hp) (a : Addr) (ns : List Int), ns.length ≤ n → Only H → SqL (Kf w.params) H a (ns.map V.int) → sp w mg [.ref a] H (fun v _ => v = .bl true) fun _ _ _ => False) :
    PySem.W.WalkO q loose XP YP l.row.toRowW d [] (fun f us => PySem.call f us) := by
  refine Att.attach_call h1 h3 fun w s0 s1 mg mb fa o pm cd doc a us ns G Y ho hd hcd hmg hobj hints hlen hg => ?_
  have k1 := h5 w _ Y
  obtain ⟨fd, hb, hF⟩ := F w mg fa _ k1 G.T.g hmg
  exact law_callG k1 G.T.g G.T.b G.T.builtins G.T.nolimit hg hobj hints (Nat.le_trans hlen h2) h4 hF hb (fun H hO hS => hp w mg H a ns hlen hO hS) fun H e s2 z => z
end
end
end M
set_option Elab.async false
set_option linter.all false
set_option maxRecDepth 100000
set_option autoImplicit false
/-! M5: defs and their calls. -/
namespace M
noncomputable section
open PySem PySem.Spec PyProof.Rows L2
/-- what a def says that lets no exception out -/
def run0 (n : Nat) (body : En → SR) (as : List Sl) : Rt := match runDef n body as with
  | .exc _ _ => .bad
  | r => r
theorem run0_nox {n : Nat} {body : En → SR} : NoX (run0 n body) := by
  intro ss y as' h
  unfold run0 at h
  split at h
  · cases h
  · rename_i r q; exact q y as' h
theorem run0_keeps {n : Nat} {body : En → SR} : Keeps (run0 n body) := by
  intro ss
  refine ⟨fun o d as' h => ?_, fun x as' h => (run0_nox ss x as' h).elim⟩
  unfold run0 at h
  split at h
  · cases h
  · exact (runDef_keeps ss).1 o d as' h
section
variable {P : Program} {w : World} {K : PySem.W.Frag} {mg : Str → Option Value} {bs : Heap}
/-- THE RULE for a def that lets no exception out -/
theorem def_ok {x qual : Str} {st : Stmt} {f : Addr} {fd : FuncData} {N ps : List Str} {k : Nat} {body : En → SR} (F : Fun K x qual st f fd) (S : FnScope N ps (defScope st)) (hps : ps.length ≤ N.length)
    (hbody : ∀ (cdv : Value) (A : Around) (out : List PySem.Env) (s : Shared) (H : Hp) (E : XK), Room k (A.deeper (envOfC qual (defScope st) s.heap.objs.size f cdv)) → (A.deeper (envOfC qual (defScope st) s.heap.objs.size f cdv)).guards = some [] →
      DSs (cxOf CX0 P w K mg bs N qual (defScope st) f cdv A out s H E).nox WX0 (defBody st) body) :
    FnG P w K mg bs CX0 (k + 1) f fd ps (spD K mg ps.length (run0 N.length body)) := by
  obtain ⟨oc, od, kV, doc, pm, an, cdv, ct, osl, rfl, lk, hcd⟩ := F.ex
  refine fnG_of lk hcd S (fun vs H Q E h => h.1) (fun A out s H vs Q E hr gd h => ?_)
  obtain ⟨t, p, q⟩ := (hbody cdv A out s H E hr gd).ex
  refine ⟨t, p.nox, ?_⟩
  refine body_ok (X := (cxOf CX0 P w K mg bs N qual (defScope st) f cdv A out s H E).nox) (W := WX0) (E := fun _ _ _ => False) rfl rfl (fun _ _ _ _ z => z) rfl hps q ?_
  obtain ⟨h1, F', as, As, h2, h3, h4⟩ := h
  refine ⟨h1, F', as, As, h2, h3, ?_⟩
  show PostC K mg _ _ _ _ _ (runDef N.length body as)
  unfold run0 at h4
  split at h4
  · exact h4.elim
  · rename_i r z
    cases y : runDef N.length body as with
    | bad => rw [y] at h4; exact h4
    | ret o d as' => rw [y] at h4; exact h4
    | exc yy as' => exact (z yy as' y).elim
end
section
variable {X : Cx} {W : WX} {k : Nat} {f : Addr} {fd : FuncData} {ps : List Str} {x : Str} {p pos : Pos} {a : Expr} {es : List Expr} {fs : Ev (List A)} {Fd : List Sl → Rt} {sp : Sp} {t : TA}
theorem runG {pins : List (Addr × Obj)} {σ : L2.St} {H : Hp} {s : Shared} {Q : VK} {us : List Value} {vs : List V} (F : FnG X.prog X.w X.K X.mg X.base CX0 k f fd ps sp) (r : Room k X.A) (gd : X.A.guards = some []) (hb : Binds X.K fd ps [])
    (I : Inv X pins σ H s) (rv : Vals vs us) (h : sp vs H Q E0) : wpAny (model X.prog X.w) X.A (call (.ref f) us) (EP X pins σ Q) X.xe s := by
  have l1 : us.length = ps.length := by rw [← rv.length]; exact F.len _ _ _ _ h
  have l2 : (us ++ []).length = ps.length := by rw [List.append_nil]; exact l1
  have b1 := hb s us I.kIn l2
  rw [List.append_nil] at b1
  refine wpAny_call (codeAny_mono (F.run X.A X.stack s H ⟨us, []⟩ us vs Q E0 r gd I.env0 b1 rv h) fun res s1 q => ?_)
  cases res with
  | error e => exact False.elim q
  | ok fl =>
    cases fl with
    | ret u => exact I.after q
    | _ => exact False.elim q
theorem pe_callG (F : FnG X.prog X.w X.K X.mg X.base CX0 k f fd ps sp) (r : Room k X.A) (gd : X.A.guards = some []) (hg : Gl X x) (hm : X.mg x = some (.ref f)) (hk : PySem.W.keepIn X.K (.ref f) = true) (hb : Binds X.K fd ps [])
    (ha : PA X (a :: es) t) (hdb : (x == ("__debug__" : Str)) = false := by decide) (he : starEach (a :: es) X.env = (false, eval a X.env) :: starEach es X.env := by rfl) (hpl : (backTo pos (starEach es X.env)).any (·.1) = false := by rfl) :
    PE X (.Call (.Name x p) (a :: es) [] pos) (fun σ H Q => t σ H fun vs H1 => sp vs H1 Q E0) :=
  ⟨fun pins s σ H Q I h => wpAny_Call_Name_kw (ld_glob I hg hm (PySem.W.callWith_K (h₀ := X.base) I.ok.mod.kin hk (thn (ha.run pos pins s σ H _ I h) fun us s1 ⟨vs, H1, I1, rv, q⟩ => ⟨I1.kIn, runG F r gd hb I1 rv q⟩) he hpl) hdb)⟩
theorem dx_call (hF : FnG X.prog X.w X.K X.mg X.base CX0 k f fd ps (spD X.K X.mg ps.length Fd)) (kp : Keeps Fd) (nx : NoX Fd) (hr : Room k X.A) (gd : X.A.guards = some []) (hm : X.mg x = some (.ref f)) (hk : PySem.W.keepIn X.K (.ref f) = true) (hb : Binds X.K fd ps [])
    (ha : DA X W (a :: es) fs) (hn : ∀ en as e1, fs en = .ok as e1 → as.length = ps.length) (hg : Gl X x := by rfl) (hdb : (x == ("__debug__" : Str)) = false := by decide) (he : starEach (a :: es) X.env = (false, eval a X.env) :: starEach es X.env := by rfl) (hpl : (backTo pos (starEach es X.env)).any (·.1) = false := by rfl) :
    DX X W (.Call (.Name x p) (a :: es) [] pos) (eCall Fd fs) := by
  obtain ⟨t, pt, q⟩ := ha.ex
  refine ⟨_, pe_callG hF hr gd hg hm hk hb pt hdb he hpl, fun G en F H σ Q R h => q G en F H σ _ R ?_⟩
  unfold eCall at h
  cases z : fs en with
  | bad => rw [z] at h; exact h
  | ex y e1 => rw [z] at h; exact h
  | ok as e1 =>
    rw [z] at h
    intro vs F1 H1 R1 s1 o1
    refine call_run (Post := fun _ r => PE1 X W G F σ r Q) kp (hn en as e1 z) R1 o1 (fun w => w) h (fun o d e2 v F' H' R' s' ro w => ?_) (fun y e2 cls dd F' H' w => ?_)
    · obtain ⟨F2, R2, s2, r2⟩ := rt_frz R' ro
      exact w v F2 H' R2 (s1.trans (s'.trans s2)) r2
    · obtain ⟨ss, as', w⟩ := w
      exact (nx ss y as' w).elim
theorem do_call (hF : FnG X.prog X.w X.K X.mg X.base CX0 k f fd ps (spD X.K X.mg ps.length Fd)) (kp : Keeps Fd) (nx : NoX Fd) (hr : Room k X.A) (gd : X.A.guards = some []) (hm : X.mg x = some (.ref f)) (hk : PySem.W.keepIn X.K (.ref f) = true) (hb : Binds X.K fd ps [])
    (ha : DA X W (a :: es) fs) (hn : ∀ en as e1, fs en = .ok as e1 → as.length = ps.length) (hg : Gl X x := by rfl) (hdb : (x == ("__debug__" : Str)) = false := by decide) (he : starEach (a :: es) X.env = (false, eval a X.env) :: starEach es X.env := by rfl) (hpl : (backTo pos (starEach es X.env)).any (·.1) = false := by rfl) :
    DO X W (.Call (.Name x p) (a :: es) [] pos) (oCall Fd fs) := by
  obtain ⟨t, pt, q⟩ := ha.ex
  refine ⟨_, pe_callG hF hr gd hg hm hk hb pt hdb he hpl, fun G en F H σ Q R h => q G en F H σ _ R ?_⟩
  unfold oCall at h
  cases z : fs en with
  | bad => rw [z] at h; exact h
  | ex y e1 => rw [z] at h; exact h
  | ok as e1 =>
    rw [z] at h
    intro vs F1 H1 R1 s1 o1
    refine call_run (Post := fun _ r => PostO X W G F σ r Q) kp (hn en as e1 z) R1 o1 (fun w => w) h (fun o d e2 v F' H' R' s' ro w => ?_) (fun y e2 cls dd F' H' w => ?_)
    · cases o with
      | false => rw [if_neg Bool.false_ne_true] at w; exact w.elim
      | true =>
        rw [if_pos rfl] at w
        unfold RtOk at ro
        rw [if_pos rfl] at ro
        exact w v F' H' R' (s1.trans s') ro
    · obtain ⟨ss, as', w⟩ := w
      exact (nx ss y as' w).elim
end
end
end M
set_option Elab.async false
set_option linter.all false
set_option maxRecDepth 100000
set_option autoImplicit false
/-! M6: comprehensions. -/
namespace M
noncomputable section
open PySem PySem.Spec PyProof.Rows L2
def wipeE : List Nat → En → En
  | [], e => e
  | v :: vs, e => (wipeE vs e).set v .un
/-- the outer places of the block's own names, as they were -/
def restE : List Nat → En → En → En
  | [], _, e => e
  | v :: vs, e0, e => (restE vs e0 e).set v (match e0[v]? with
    | some (.sh d) => .sh d
    | _ => .un)
def R.nox {α : Type} : M.R α → M.R α
  | .ex _ _ => .bad
  | r => r
def lcD (g : Gt) (t : Ev Bool) (f : Ev A) (own : List Nat) : List D → List D → En → M.R D
  | [], acc, e => .ok (.list acc) e
  | d :: ds, acc, e => match g d (wipeE own e) with
    | none => .bad
    | some e1 => (t e1).nox.bind fun b e2 => if b = true then ((eHold f e2).nox.bind fun x e3 => if small (acc.length + 1) then lcD g t f own ds (acc ++ [x]) (restE own e e3) else .bad) else lcD g t f own ds acc (restE own e e2)
def oLc (fi : Ev (List D)) (g : Gt) (t : Ev Bool) (f : Ev A) (own : List Nat) : Ev D := fun e => (fi e).bind fun ds e1 => lcD g t f own ds [] e1
def tYes1 : Ev Bool := fun e => .ok true e
section
variable {K : PySem.W.Frag} {G : Gd} {en : En} {F H : Hp} {σ σ' : L2.St}
/-- other slots where nothing is known -/
theorem Rel.sig (R : Rel K G en F H σ) (hl : σ'.length = σ.length) (h : ∀ (i : Nat) (s : Sl), en[i]? = some s → (∀ b d, s ≠ .ow b d) ∧ (∀ d, s ≠ .sh d) ∨ σ'[i]? = σ[i]?) : Rel K G en F H σ' := by
  have ow : ∀ {i : Nat} {b : Bool} {d : D}, en[i]? = some (.ow b d) → σ'[i]? = σ[i]? := fun {i b d} e => by
    rcases h i _ e with ⟨z, _⟩ | z
    · exact (z b d rfl).elim
    · exact z
  refine ⟨by rw [R.len, hl], fun i s e => ?_, fun i j b c d e p h1 h2 h3 h4 => ?_, fun i b d p h1 h3 => ?_, R.fh, R.f0, R.nw, R.bs, R.as, fun i d e => (ow e).trans (R.ar i d e)⟩
  · cases s with
    | un => trivial
    | sh d =>
      rcases h i _ e with ⟨_, z⟩ | z
      · exact (z d rfl).elim
      · rw [z]; exact R.sl i _ e
    | ow b d => rw [ow e]; exact R.sl i _ e
  · exact R.dj i j b c d e p h1 h2 ((ow h1).symm.trans h3) ((ow h2).symm.trans h4)
  · exact R.mn i b d p h1 ((ow h1).symm.trans h3)
theorem wipeE_len : ∀ (vs : List Nat) (e : En), (wipeE vs e).length = e.length
  | [], _ => rfl
  | v :: vs, e => by unfold wipeE; rw [List.length_set, wipeE_len vs e]
theorem wipeE_at : ∀ (vs : List Nat) (e : En) {i : Nat} {s : Sl}, (wipeE vs e)[i]? = some s → (i ∈ vs → s = .un) ∧ (i ∉ vs → e[i]? = some s)
  | [], e, i, s, h => ⟨fun z => by simp at z, fun _ => h⟩
  | v :: vs, e, i, s, h => by
    unfold wipeE at h
    by_cases hv : v = i
    · subst hv
      by_cases hl : v < (wipeE vs e).length
      · rw [List.getElem?_set_self hl] at h
        cases h
        exact ⟨fun _ => rfl, fun z => (z List.mem_cons_self).elim⟩
      · rw [List.getElem?_eq_none (by rw [List.length_set]; omega)] at h; cases h
    · rw [List.getElem?_set_ne hv] at h
      obtain ⟨h1, h2⟩ := wipeE_at vs e h
      exact ⟨fun z => (List.mem_cons.mp z).elim (fun y => (hv y.symm).elim) h1, fun z => h2 fun y => z (List.mem_cons_of_mem _ y)⟩
theorem Rel.wipeU (R : Rel K G en F H σ) : ∀ vs : List Nat, Rel K G (wipeE vs en) F H σ
  | [] => R
  | v :: vs => (Rel.wipeU R vs).forget
theorem wipe_at (σ : L2.St) : ∀ (vs : List Nat) {i : Nat}, i ∉ vs → (wipe σ vs)[i]? = σ[i]?
  | [], _, _ => rfl
  | v :: vs, i, h => by
    unfold wipe
    rw [List.getElem?_set_ne (fun z => h (by rw [z]; exact List.mem_cons_self)), wipe_at σ vs fun z => h (List.mem_cons_of_mem _ z)]
theorem Rel.wiped (R : Rel K G en F H σ) (vs : List Nat) : Rel K G (wipeE vs en) F H (wipe σ vs) := by
  refine (R.wipeU vs).sig (wipe_length σ vs) fun i s e => ?_
  obtain ⟨h1, h2⟩ := wipeE_at vs en e
  by_cases z : i ∈ vs
  · rw [h1 z]; exact .inl ⟨fun _ _ => Sl.noConfusion, fun _ => Sl.noConfusion⟩
  · exact .inr (wipe_at σ vs z)
theorem wipe_alike : ∀ {vs : List Nat} {ix : List Nat}, (∀ i ∈ ix, i ∈ vs) → Alike ix (wipe σ vs) σ' → wipe σ' vs = wipe σ vs := by
  intro vs ix hs ⟨hl, h⟩
  have none_at : ∀ (τ : L2.St) (vs : List Nat) {i : Nat}, i ∈ vs → i < τ.length → (wipe τ vs)[i]? = some none := by
    intro τ vs
    induction vs with
    | nil => intro i z; simp at z
    | cons v vs ih =>
      intro i z hi
      unfold wipe
      by_cases hv : v = i
      · subst hv
        rw [List.getElem?_set_self (by rw [wipe_length]; exact hi)]
      · rw [List.getElem?_set_ne hv]
        exact ih ((List.mem_cons.mp z).resolve_left fun y => hv y.symm) hi
  apply List.ext_getElem?
  intro i
  by_cases z : i ∈ vs
  · by_cases hi : i < σ.length
    · rw [none_at σ vs z hi, none_at σ' vs z (by rw [hl, wipe_length]; exact hi)]
    · rw [List.getElem?_eq_none (by rw [wipe_length, hl, wipe_length]; omega), List.getElem?_eq_none (by rw [wipe_length]; omega)]
  · rw [wipe_at σ' vs z, h i fun y => z (hs i y)]
/-- back to the outer names -/
theorem Rel.rest {e0 : En} {F0 H0 : Hp} (R0 : Rel K G e0 F0 H0 σ) {vs : List Nat} {ix : List Nat} (hs : ∀ i ∈ ix, i ∈ vs) (al : Alike ix (wipe σ vs) σ') (R : Rel K G en F H σ') (sF : Same F0 F) : Rel K G (restE vs e0 en) F H σ := by
  have al2 : Alike vs σ' σ := by
    refine ⟨?_, fun j z => ?_⟩
    · rw [al.1, wipe_length]
    · rw [al.2 j fun y => z (hs j y), wipe_at σ vs z]
  have R1 : Rel K G (wipeE vs en) F H σ := by
    refine (R.wipeU vs).sig al2.1 fun i s e => ?_
    obtain ⟨h1, h2⟩ := wipeE_at vs en e
    by_cases z : i ∈ vs
    · rw [h1 z]; exact .inl ⟨fun _ _ => Sl.noConfusion, fun _ => Sl.noConfusion⟩
    · exact .inr (al2.2 i z)
  -- put back, place by place
  have put : ∀ {en2 : En} (v : Nat), Rel K G en2 F H σ → Rel K G (en2.set v (match e0[v]? with
    | some (.sh d) => .sh d
    | _ => .un)) F H σ := fun {en2} v R2 => by
    split
    · rename_i d e
      cases q : en2[v]? with
      | none =>
        have : en2.set v (.sh d) = en2 := List.set_eq_of_length_le (List.getElem?_eq_none_iff.mp q)
        rw [this]
        exact R2
      | some s =>
        obtain ⟨u, h1, h2⟩ := R0.sl v _ e
        exact R2.re q (t := .sh d) ⟨u, h1, h2.mono sF⟩ fun _ _ z => nomatch z
    · exact R2.forget
  have all : ∀ (ws : List Nat) (en2 : En), (∀ en3, en3 = en2 → True) → Rel K G (wipeE ws en2) F H σ → Rel K G (restE ws e0 en2) F H σ := by
    intro ws
    induction ws with
    | nil => intro en2 _ R2; exact R2
    | cons w ws ih =>
      intro en2 hh R2
      have q : Rel K G (restE ws e0 en2) F H σ ∨ True := .inr trivial
      -- restE (w :: ws) = set w over restE ws
      have R3 : Rel K G ((restE ws e0 (en2.set w .un)).set w (match e0[w]? with
        | some (.sh d) => .sh d
        | _ => .un)) F H σ := by
        refine put w (ih (en2.set w .un) (fun _ _ => trivial) ?_)
        have comm : wipeE ws (en2.set w .un) = wipeE (w :: ws) en2 := by
          clear R2 ih q
          induction ws with
          | nil => rfl
          | cons v vs ih2 =>
            unfold wipeE
            rw [ih2]
            unfold wipeE
            by_cases hvw : v = w
            · subst hvw; rfl
            · rw [List.set_comm _ _ (fun z => hvw z.symm)]
        rw [comm]
        exact R2
      have comm2 : (restE ws e0 (en2.set w .un)).set w (match e0[w]? with
        | some (.sh d) => .sh d
        | _ => .un) = restE (w :: ws) e0 en2 := by
        clear R2 ih q R3
        show _ = (restE ws e0 en2).set w _
        have : ∀ (us : List Nat) (x : Sl), (restE us e0 (en2.set w .un)).set w x = (restE us e0 en2).set w x := by
          intro us
          induction us with
          | nil => intro x; show (en2.set w .un).set w x = en2.set w x; rw [List.set_set]
          | cons u us ih3 =>
            intro x
            unfold restE
            by_cases huw : u = w
            · subst huw; rw [List.set_set, List.set_set]; exact ih3 x
            · rw [List.set_comm _ _ huw, ih3 x, List.set_comm _ _ fun z => huw z.symm]
        exact this ws _
      rw [comm2] at R3
      exact R3
  exact all vs en (fun _ _ => trivial) R1
/-- a new thing at p is watched -/
def Gd.watch (G : Gd) (p : Addr) (o : HO) (σ : L2.St) : Gd := { G with H0 := upd G.H0 p o, S0 := G.S0 }
structure Apart (K : PySem.W.Frag) (G : Gd) (en : En) (F : Hp) (σ : L2.St) (p : Addr) : Prop where
  f : F p = none
  h0 : G.H0 p = none
  as : p ∉ G.As
  nd : ∀ (j : Nat) (b : Bool) (d : D), en[j]? = some (.ow b d) → σ[j]? ≠ some (some (.ref p))
theorem Rel.watch {p : Addr} {o : HO} (R : Rel K G en F H σ) (a : Apart K G en F σ p) (hp : H p = some o) : Rel K (G.watch p o σ) en F H σ := by
  refine ⟨R.len, R.sl, R.dj, fun i b d q h1 h3 => ?_, R.fh, R.f0, fun b u z => ?_, fun b u z hA => ?_, R.as, R.ar⟩
  · have m := R.mn i b d q h1 h3
    have ne : q ≠ p := fun z => a.nd i b d h1 (by rw [← z]; exact h3)
    show if b = true then q ∈ G.As else upd G.H0 p o q = none
    rw [upd_ne ne]
    exact m
  · have ne : b ≠ p := fun y => by rw [y, a.f] at z; cases z
    show G.F0 b = some u ∨ upd G.H0 p o b = none
    rw [upd_ne ne]
    exact R.nw b u z
  · have z' : upd G.H0 p o b = some u := z
    by_cases y : b = p
    · rw [y, upd_same] at z'; cases z'; rw [y]; exact hp
    · rw [upd_ne y] at z'; exact R.bs b u z' hA
theorem Rel.unwatch {p : Addr} {o : HO} (R : Rel K (G.watch p o σ') en F H σ) (h0 : G.H0 p = none) (as : p ∉ G.As) (f0 : G.F0 p = none) : Rel K G en F H σ ∧ Apart K G en F σ p ∧ H p = some o := by
  have hp : H p = some o := R.bs p o (show upd G.H0 p o p = some o from upd_same) as
  have fp : F p = none := by
    cases e : F p with
    | none => rfl
    | some u =>
      rcases R.nw p u e with z | z
      · rw [show G.F0 p = some u from z] at f0; cases f0
      · have z' : upd G.H0 p o p = none := z
        rw [upd_same] at z'; cases z'
  have nd : ∀ (j : Nat) (b : Bool) (d : D), en[j]? = some (.ow b d) → σ[j]? ≠ some (some (.ref p)) := fun j b d e z => by
    have m := R.mn j b d p e z
    cases b with
    | true => rw [if_pos rfl] at m; exact as m
    | false =>
      rw [if_neg Bool.false_ne_true] at m
      have m' : upd G.H0 p o p = none := m
      rw [upd_same] at m'; cases m'
  refine ⟨⟨R.len, R.sl, R.dj, fun i b d q h1 h3 => ?_, R.fh, R.f0, fun b u z => ?_, fun b u z hA => ?_, R.as, R.ar⟩, ⟨fp, h0, as, nd⟩, hp⟩
  · have m := R.mn i b d q h1 h3
    have ne : q ≠ p := fun z => nd i b d h1 (by rw [← z]; exact h3)
    have m' : if b = true then q ∈ G.As else upd G.H0 p o q = none := m
    rw [upd_ne ne] at m'
    exact m'
  · rcases R.nw b u z with y | y
    · exact .inl y
    · have y' : upd G.H0 p o b = none := y
      have ne : b ≠ p := fun w => by rw [w, upd_same] at y'; cases y'
      rw [upd_ne ne] at y'
      exact .inr y'
  · have ne : b ≠ p := fun w => by rw [w, h0] at z; cases z
    exact R.bs b u (by show upd G.H0 p o b = some u; rw [upd_ne ne]; exact z) hA
/-- the watched thing is changed -/
theorem Rel.updW {p : Addr} {o u : HO} (R : Rel K G en F H σ) (a : Apart K G en F σ p) : Rel K G en F (upd H p u) σ := by
  refine ⟨R.len, fun j s e => ?_, R.dj, R.mn, fun b v z => ?_, R.f0, R.nw, fun b v z hA => ?_, fun b hA => ?_, R.ar⟩
  · have h := R.sl j s e
    cases s with
    | un => trivial
    | sh d => exact h
    | ow b d =>
      obtain ⟨q, h1, h2, h3⟩ := h
      have ne : q ≠ p := fun z => a.nd j b d e (by rw [← z]; exact join_some h1)
      exact ⟨q, h1, h2, h3.mono (.refl _) (by rw [upd_ne ne])⟩
  · have ne : b ≠ p := fun y => by rw [y, a.f] at z; cases z
    rw [upd_ne ne]; exact R.fh b v z
  · have ne : b ≠ p := fun y => by rw [y, a.h0] at z; cases z
    rw [upd_ne ne]; exact R.bs b v z hA
  · have ne : b ≠ p := fun y => a.as (by rw [← y]; exact hA)
    obtain ⟨v, z⟩ := R.as b hA
    exact ⟨v, by rw [upd_ne ne]; exact z⟩
end
/-! ### one reading for all contexts -/
def canE (X : Cx) (f : Ev A) : TE := fun σ H Q => ∃ G en F, Rel X.K G en F H σ ∧ PE1 X WX0 G F σ (f en) Q
def canT (X : Cx) (f : Ev Bool) : TT := fun σ H Q => ∃ G en F, Rel X.K G en F H σ ∧ PT1 X WX0 G F σ (f en) Q
def canG (X : Cx) (g : Gt) (ix : List Nat) : TG := fun v σ H Q => ∃ G en F d e', Rel X.K G en F H σ ∧ Rep X.K F v d ∧ g d en = some e' ∧ ∀ F' H' σ', Rel X.K G e' F' H' σ' → Same F F' → Alike ix σ σ' → Q σ' H'
theorem DX.can {X : Cx} {e : Expr} {f : Ev A} (h : DX X WX0 e f) : PE X e (canE X f) := by
  obtain ⟨t, p, q⟩ := h.ex
  exact ⟨fun pins s σ H Q I ⟨G, en, F, R, k⟩ => p.run pins s σ H Q I (q G en F H σ Q R k)⟩
theorem DT.can {X : Cx} {e : Expr} {f : Ev Bool} (h : DT X WX0 e f) : PT X e (canT X f) := by
  obtain ⟨t, p, q⟩ := h.ex
  exact ⟨fun pins s σ H Q I ⟨G, en, F, R, k⟩ => p.run pins s σ H Q I (q G en F H σ Q R k)⟩
theorem DG.can {X : Cx} {e : Expr} {g : Gt} {ix : List Nat} (h : DG X WX0 e g ix) : PG X e (canG X g ix) := by
  obtain ⟨t, p, q⟩ := h.ex
  exact ⟨fun pins s σ H v u Q I r ⟨G, en, F, d, e', R, rp, hg, k⟩ => p.run pins s σ H v u Q I r (q G en e' F H σ v d Q R rp hg k)⟩
structure DTs (X : Cx) (ifs : List Expr) (f : Ev Bool) : Prop where
  ex : ∃ t : TT, PTs X ifs t ∧ ∀ (G : Gd) (en : En) (F H : Hp) (σ : L2.St) (Q : Bool → Hp → Prop), Rel X.K G en F H σ → PT1 X WX0 G F σ (f en) Q → t σ H Q
theorem dts_nil {X : Cx} : DTs X [] tYes1 := ⟨_, pts_nil, fun G en F H σ Q R k => k true F H R (.refl _) rfl⟩
theorem dts_one {X : Cx} {c : Expr} {f : Ev Bool} (h : DT X WX0 c f) : DTs X [c] f := by
  obtain ⟨t, p, q⟩ := h.ex
  exact ⟨t, pts_one p, q⟩
theorem DTs.can {X : Cx} {ifs : List Expr} {f : Ev Bool} (h : DTs X ifs f) : PTs X ifs (canT X f) := by
  obtain ⟨t, p, q⟩ := h.ex
  exact ⟨fun pins s σ H Q I ⟨G, en, F, R, k⟩ => p.run pins s σ H Q I (q G en F H σ Q R k)⟩
theorem PostE.nox {X : Cx} {G : Gd} {F : Hp} {σ : L2.St} {α β γ : Type} {ok : Hp → α → β → Prop} {r : M.R α} {g : α → En → M.R γ} {Q : β → Hp → Prop}
    (h : (r.nox.bind g) ≠ .bad) (k : ∀ a e v F' H', r = .ok a e → Rel X.K G e F' H' σ → Same F F' → ok F' a v → Q v H') : PostE X WX0 G F σ ok r Q := by
  cases r with
  | bad => exact (h rfl).elim
  | ok a e => exact fun v F' H' R s o => k a e v F' H' rfl R s o
  | ex x e => exact (h rfl).elim
section
variable {X : Cx} {W : WX} {elt tg iter : Expr} {ifs : List Expr} {scope : Scope} {own : List (Str × Nat)} {pos : Pos} {fi : Ev (List D)} {g : Gt} {ix : List Nat} {ft : Ev Bool} {f : Ev A}
/-- the reading of a comprehension's turns -/
theorem lc_run {G : Gd} {e1 : En} {F1 H1 : Hp} {σ : L2.St} {J : It} {ds : List D} {vs : List Nat} {Qd : Addr → Hp → Prop} (hix : ∀ i ∈ ix, i ∈ vs) (R1 : Rel X.K G e1 F1 H1 σ) (it : ItOk X.K J F1 ds)
    (nb : lcD g ft f vs ds [] e1 ≠ .bad) (h : ∀ d e D H', lcD g ft f vs ds [] e1 = .ok d e → (∃ F', Rel X.K G e F' H' σ ∧ Same F1 F' ∧ NewAt G e X.K F' H' σ d (.ref D)) → Qd D H') : ∀ D, H1 D = none → ∃ Wv : Nat → Nat → Hp → Prop, (∃ m, Wv 0 m (upd H1 D (.lst []))) ∧ ∀ i m H, Wv i m H →
      (J.stop i H ∧ Qd D H) ∨ (J.go i H ∧ ∃ Nx : Hp → Prop, (∀ H', Nx H' → ∃ m', m' < m ∧ Wv (i + 1) m' H') ∧ ∀ x H', J.yld i H x H' → canG X g ix x (wipe σ vs) H' fun σ2 H2 => wipe σ2 vs = wipe σ vs ∧ canT X ft σ2 H2 fun b H3 =>
        if b = true then canE X f σ2 H3 fun y H4 => ∃ acc, H4 D = some (.lst acc) ∧ acc.length < sizeLine ∧ Nx (upd H4 D (.lst (acc ++ [y]))) else Nx H3) := by
  obtain ⟨rA, hA⟩ : ∃ r, r = lcD g ft f vs ds [] e1 := ⟨_, rfl⟩
  rw [← hA] at nb
  simp only [← hA] at h
  intro D nD
  have ap1 : Apart X.K G e1 F1 σ D := by
    refine ⟨R1.fh.free nD, R1.free0 nD, fun z => ?_, fun j b d z y => ?_⟩
    · obtain ⟨o, q⟩ := R1.as D z
      rw [nD] at q; cases q
    · obtain ⟨p', q1, _, q3⟩ := R1.owV z
      rw [y] at q1
      cases q1
      obtain ⟨u, hu⟩ := q3.some
      rw [nD] at hu; cases hu
  refine ⟨fun i m H => m = ds.length - i ∧ i ≤ ds.length ∧ ∃ en F acc avs, Rel X.K G en F H σ ∧ Same F1 F ∧ Apart X.K G en F σ D ∧ H D = some (.lst avs) ∧ Reps X.K F avs acc ∧ lcD g ft f vs (ds.drop i) acc en = rA,
    ⟨ds.length, by simp, Nat.zero_le _, e1, F1, [], [], R1.newO nD, .refl _, ap1, upd_same, .nil, hA.symm⟩, ?_⟩
  rintro i m H ⟨rfl, hle, en, F, acc, avs, R, sF, ap, hD, rp, hq⟩
  obtain ⟨go, stop⟩ := it i F H sF R.fh
  by_cases hlt : i < ds.length
  · have ed : ds[i]? = some ds[i] := List.getElem?_eq_getElem hlt
    obtain ⟨g1, g2⟩ := go _ ed
    rw [← hq, List.drop_eq_getElem_cons hlt] at nb
    rw [List.drop_eq_getElem_cons hlt] at hq
    unfold lcD at nb hq
    refine .inr ⟨g1, fun H' => ∃ en F acc avs, Rel X.K G en F H' σ ∧ Same F1 F ∧ Apart X.K G en F σ D ∧ H' D = some (.lst avs) ∧ Reps X.K F avs acc ∧ lcD g ft f vs (ds.drop (i + 1)) acc en = rA, fun H' hN => ⟨ds.length - (i + 1), by omega, rfl, hlt, hN⟩, fun x H2 hy => ?_⟩
    obtain ⟨F2, gr, r2⟩ := g2 x H2 hy
    have hD2 : H2 D = some (.lst avs) := gr.h _ _ hD
    have R2 := R.grow gr
    have f2D : F2 D = none := by
      cases e : F2 D with
      | none => rfl
      | some u =>
        rcases gr.nw D u e with z | z
        · rw [ap.f] at z; cases z
        · rw [hD] at z; cases z
    have ap2 : Apart X.K G en F2 σ D := ⟨f2D, ap.h0, ap.as, ap.nd⟩
    have Rw := (R2.watch ap2 hD2).wiped vs
    cases z : g ds[i] (wipeE vs en) with
    | none => rw [z] at nb; exact (nb rfl).elim
    | some e2 =>
      rw [z] at nb hq
      simp only at nb hq
      have f00 : G.F0 D = none := by
        cases e : G.F0 D with
        | none => rfl
        | some u => have := R.f0 _ _ e; rw [ap.f] at this; cases this
      refine ⟨G.watch D (.lst avs) σ, _, F2, _, e2, Rw, r2, z, fun F3 H3 σ3 R3 s3 al => ⟨wipe_alike hix al, ⟨G.watch D (.lst avs) σ, e2, F3, R3, ?_⟩⟩⟩
      refine PostE.nox (X := X) (G := G.watch D (.lst avs) σ) nb fun b e3 b' F4 H4 he R4 s4 o4 => ?_
      subst o4
      rw [he] at nb hq
      simp only [M.R.nox, M.R.bind] at nb hq
      by_cases hb : b = true
      · rw [if_pos hb] at nb hq ⊢
        refine ⟨G.watch D (.lst avs) σ, e3, F4, R4, ?_⟩
        -- the element, held
        have nb2 : (eHold f e3).nox.bind (fun x e3 => if small (acc.length + 1) then lcD g ft f vs (ds.drop (i + 1)) (acc ++ [x]) (restE vs en e3) else .bad) ≠ .bad := nb
        unfold eHold at nb hq
        cases y : f e3 with
        | bad => rw [y] at nb; exact (nb rfl).elim
        | ex xx e4 => rw [y] at nb; exact (nb rfl).elim
        | ok o e4 =>
          rw [y] at nb hq
          simp only [M.R.bind] at nb hq
          intro v F5 H5 R5 s5 o5
          cases w : hold1 e4 o with
          | none => rw [w] at nb; exact (nb rfl).elim
          | some pr =>
            obtain ⟨d, e5⟩ := pr
            rw [w] at nb hq
            simp only [M.R.nox, M.R.bind] at nb hq
            obtain ⟨F6, R6, s6, r6⟩ := hold1_ok R5 o5 w
            obtain ⟨R7, ap7, hD7⟩ := R6.unwatch ap.h0 ap.as f00
            by_cases hz : small (acc.length + 1) = true
            · rw [if_pos hz] at hq
              have sAll : Same F F6 := gr.f.trans (s3.trans (s4.trans (s5.trans s6)))
              refine ⟨avs, hD7, ?_, restE vs en e5, F6, acc ++ [d], avs ++ [v], ?_, sF.trans sAll, ?_, upd_same, (rp.mono sAll).append (.cons r6 .nil), hq⟩
              · rw [rp.length]
                have := line_small hz
                omega
              · have R8 : Rel X.K G (restE vs en e5) F6 H5 σ := Rel.rest R hix al R7 sAll
                have ap8 : Apart X.K G (restE vs en e5) F6 σ D := ⟨ap7.f, ap7.h0, ap7.as, fun j b d z y => by
                  obtain ⟨p', q1, q2, q3⟩ := R8.owV z
                  rw [y] at q1
                  cases q1
                  have m := R8.mn j b d D z y
                  -- an own thing of the outer places is one of the inner ones
                  have : ∀ (ws : List Nat) (e : En) {j : Nat} {b : Bool} {d : PyData}, (restE ws en e)[j]? = some (.ow b d) → e[j]? = some (.ow b d) ∧ j ∉ ws := by
                    intro ws
                    induction ws with
                    | nil => intro e j b d z; exact ⟨z, by simp⟩
                    | cons u us ih =>
                      intro e j b d z
                      unfold restE at z
                      by_cases huj : u = j
                      · subst huj
                        by_cases hl : u < (restE us en e).length
                        · rw [List.getElem?_set_self hl] at z
                          split at z <;> cases z
                        · rw [List.getElem?_eq_none (by rw [List.length_set]; omega)] at z; cases z
                      · rw [List.getElem?_set_ne huj] at z
                        obtain ⟨a1, a2⟩ := ih e z
                        exact ⟨a1, fun w => (List.mem_cons.mp w).elim (fun q => huj q.symm) a2⟩
                  obtain ⟨a1, a2⟩ := this vs e5 z
                  refine ap7.nd j b d a1 ?_
                  rw [al.2 j fun q => a2 (hix j q), wipe_at σ vs a2]
                  exact y⟩
                exact R8.updW (o := .lst avs) ap8
              · have R8 : Rel X.K G (restE vs en e5) F6 H5 σ := Rel.rest R hix al R7 sAll
                exact ⟨ap7.f, ap7.h0, ap7.as, fun j b d z y => by
                  have : ∀ (ws : List Nat) (e : En) {j : Nat} {b : Bool} {d : PyData}, (restE ws en e)[j]? = some (.ow b d) → e[j]? = some (.ow b d) ∧ j ∉ ws := by
                    intro ws
                    induction ws with
                    | nil => intro e j b d z; exact ⟨z, by simp⟩
                    | cons u us ih =>
                      intro e j b d z
                      unfold restE at z
                      by_cases huj : u = j
                      · subst huj
                        by_cases hl : u < (restE us en e).length
                        · rw [List.getElem?_set_self hl] at z
                          split at z <;> cases z
                        · rw [List.getElem?_eq_none (by rw [List.length_set]; omega)] at z; cases z
                      · rw [List.getElem?_set_ne huj] at z
                        obtain ⟨a1, a2⟩ := ih e z
                        exact ⟨a1, fun w => (List.mem_cons.mp w).elim (fun q => huj q.symm) a2⟩
                  obtain ⟨a1, a2⟩ := this vs e5 z
                  refine ap7.nd j b d a1 ?_
                  rw [al.2 j fun q => a2 (hix j q), wipe_at σ vs a2]
                  exact y⟩
            · rw [if_neg hz] at nb; exact (nb rfl).elim
      · rw [if_neg hb] at nb hq ⊢
        obtain ⟨R7, ap7, hD7⟩ := R4.unwatch ap.h0 ap.as f00
        have sAll : Same F F4 := gr.f.trans (s3.trans s4)
        have R8 : Rel X.K G (restE vs en e3) F4 H4 σ := Rel.rest R hix al R7 sAll
        refine ⟨restE vs en e3, F4, acc, avs, R8, sF.trans sAll, ⟨ap7.f, ap7.h0, ap7.as, fun j b d z y => ?_⟩, hD7, rp.mono sAll, hq⟩
        have : ∀ (ws : List Nat) (e : En) {j : Nat} {b : Bool} {d : PyData}, (restE ws en e)[j]? = some (.ow b d) → e[j]? = some (.ow b d) ∧ j ∉ ws := by
          intro ws
          induction ws with
          | nil => intro e j b d z; exact ⟨z, by simp⟩
          | cons u us ih =>
            intro e j b d z
            unfold restE at z
            by_cases huj : u = j
            · subst huj
              by_cases hl : u < (restE us en e).length
              · rw [List.getElem?_set_self hl] at z
                split at z <;> cases z
              · rw [List.getElem?_eq_none (by rw [List.length_set]; omega)] at z; cases z
            · rw [List.getElem?_set_ne huj] at z
              obtain ⟨a1, a2⟩ := ih e z
              exact ⟨a1, fun w => (List.mem_cons.mp w).elim (fun q => huj q.symm) a2⟩
        obtain ⟨a1, a2⟩ := this vs e3 z
        refine ap7.nd j b d a1 ?_
        rw [al.2 j fun q => a2 (hix j q), wipe_at σ vs a2]
        exact y
  · have ei : ds.drop i = [] := List.drop_eq_nil_of_le (by omega)
    rw [ei] at hq
    unfold lcD at hq
    refine .inl ⟨stop (List.getElem?_eq_none (by omega)), h (.list acc) en D H hq.symm ⟨F, R, sF, D, rfl, ap.f, ⟨avs, hD, rp⟩, ap.h0, ap.nd⟩⟩
theorem do_lc (hc : X.calm = true) (hN : X.N.Nodup) (hi : DI X W tg iter fi) (ok : BlkOk X.N X.env.scope scope own) (hix : ∀ i ∈ ix, i ∈ own.map (·.2))
    (hg : ∀ (s : Shared) (H : Hp) (C : Addr) (cl : List (Str × Addr)) (fp : List Addr), DG (X.blk s H scope (compEnvC scope cl C X.env) fp) WX0 tg g ix) (ht : ∀ (s : Shared) (H : Hp) (C : Addr) (cl : List (Str × Addr)) (fp : List Addr), DTs (X.blk s H scope (compEnvC scope cl C X.env) fp) ifs ft)
    (he : ∀ (s : Shared) (H : Hp) (C : Addr) (cl : List (Str × Addr)) (fp : List Addr), DX (X.blk s H scope (compEnvC scope cl C X.env) fp) WX0 elt f) (hs : ∀ x, foldedSetIterable iter X.env x = pure x := by intro _; rfl) :
    DO X W (.ListComp elt [⟨tg, iter, ifs, 0⟩] scope pos) (oLc fi g ft f (own.map (·.2))) := by
  obtain ⟨wi, p, q⟩ := hi.ex
  refine ⟨_, pe_lc (g := canG X g ix) (tt := canT X ft) (te := canE X f) hc hN p ok (fun s H C cl fp => (hg s H C cl fp).can) (fun s H C cl fp => (ht s H C cl fp).can) (fun s H C cl fp => (he s H C cl fp).can) hs, fun G en F H σ Q R h => q G en F H σ _ R ?_⟩
  unfold oLc at h
  cases z : fi en with
  | bad => rw [z] at h; exact h
  | ex x e => rw [z] at h; exact h
  | ok ds e1 =>
    rw [z] at h
    simp only [M.R.bind] at h
    intro J F1 H1 R1 s1 it
    refine lc_run (Qd := fun D H' => Q (.ref D) H') hix R1 it (fun w => by rw [w] at h; exact h) fun d e D H' hq ⟨F', R', s', n'⟩ => ?_
    rw [hq] at h
    exact h (.ref D) F' H' R' (s1.trans s') n'
theorem ds_setLc (i : Nat) {y : Str} {py spos : Pos} (hc : X.calm = true) (hN : X.N.Nodup) (hyl : X.env.scope.names.lookup y = some .local)
    (hsw : swapsWith (.ListComp elt [⟨tg, iter, ifs, 0⟩] scope pos) (some (.Name y py)) spos.line X.env = pure true) (hi : DI X W tg iter fi) (ok : BlkOk X.N X.env.scope scope own) (hix : ∀ i ∈ ix, i ∈ own.map (·.2))
    (hg : ∀ (s : Shared) (H : Hp) (C : Addr) (cl : List (Str × Addr)) (fp : List Addr), DG (X.blk s H scope (compEnvC scope cl C X.env) fp) WX0 tg g ix) (ht : ∀ (s : Shared) (H : Hp) (C : Addr) (cl : List (Str × Addr)) (fp : List Addr), DTs (X.blk s H scope (compEnvC scope cl C X.env) fp) ifs ft)
    (he : ∀ (s : Shared) (H : Hp) (C : Addr) (cl : List (Str × Addr)) (fp : List Addr), DX (X.blk s H scope (compEnvC scope cl C X.env) fp) WX0 elt f) (hs : ∀ x, foldedSetIterable iter X.env x = pure x := by intro _; rfl) (hy : X.N[i]? = some y := by rfl) :
    DS X W (.Assign [.Name y py] (.ListComp elt [⟨tg, iter, ifs, 0⟩] scope pos) spos) (sSetO i (oLc fi g ft f (own.map (·.2)))) := by
  obtain ⟨wi, p, q⟩ := hi.ex
  refine ⟨_, ps_setLc (g := canG X g ix) (tt := canT X ft) (te := canE X f) hc hN hy hyl hsw p ok (fun s H C cl fp => (hg s H C cl fp).can) (fun s H C cl fp => (ht s H C cl fp).can) (fun s H C cl fp => (he s H C cl fp).can) hs, fun G en F H σ D R h => q G en F H σ _ R ?_⟩
  unfold sSetO oLc at h
  cases z : fi en with
  | bad => rw [z] at h; exact h
  | ex x e => rw [z] at h; exact fun cls dd F' H' R s o => h cls dd F' H' σ R s o
  | ok ds e1 =>
    rw [z] at h
    simp only [M.R.bind] at h
    intro J F1 H1 R1 s1 it
    refine lc_run (Qd := fun Da H' => gName i (.ref Da) σ H' D.nx) hix R1 it (fun w => by rw [w] at h; exact h) fun d e Da H' hq ⟨F', R', s', n'⟩ => ?_
    rw [hq] at h
    obtain ⟨p, ep, n, o, h0, nd⟩ := n'
    cases ep
    exact h F' H' _ (R'.putOw n o h0 nd) (s1.trans s')
end
end
end M
set_option Elab.async false
set_option linter.all false
set_option maxRecDepth 100000
set_option autoImplicit false
/-! M7: operators and built-in functions on data. -/
namespace M
noncomputable section
open PySem PySem.Spec PyProof.Rows L2
/-! ### data without dicts -/
mutual
def nd : D → Bool
  | .list xs => nds xs
  | .tuple xs => nds xs
  | .dict _ => false
  | _ => true
def nds : List D → Bool
  | [] => true
  | x :: xs => nd x && nds xs
end
section
variable {K : PySem.W.Frag} {F H : Hp}
mutual
theorem Rep.dp : ∀ {v : V} {d : D}, Rep K F v d → nd d = true → Dp K F v d
  | _, _, .non, _ => .non
  | _, _, .bl b, _ => .bl b
  | _, _, .int i, _ => .int i
  | _, _, .str x, _ => .str x
  | _, _, .lst h r, e => .lst h (Reps.dp r e)
  | _, _, .tup h r, e => .tup h (Reps.dp r e)
  | _, _, .dK _ _, e => Bool.noConfusion e
  | _, _, .dT _ _, e => Bool.noConfusion e
theorem Reps.dp : ∀ {v : List V} {d : List D}, Reps K F v d → nds d = true → DpAll K F v d
  | _, _, .nil, _ => .nil
  | _, _, .cons h r, e => .cons (Rep.dp h (Bool.and_eq_true_iff.mp e).1) (Reps.dp r (Bool.and_eq_true_iff.mp e).2)
end
end
/-- an operator whose answer is laid anew (list) -/
def OpF (K : PySem.W.Frag) (r : R2) (g : D → D → Option D) : Prop := ∀ (F H : Hp) (x y : V) (d e q : D) (Q : VK), Same F H → PRep K F H x d → PRep K F H y e → g d e = some q → ∃ o, (∀ p H', H' p = some o → Own K F H' p q) ∧ ((∀ p, H p = none → Q (.ref p) (upd H p o)) → r x y H Q)
def FnF (K : PySem.W.Frag) (r : List V → Hp → VK → Prop) (g : List D → Option D) : Prop := ∀ (F H : Hp) (xs : List V) (ds : List D) (q : D) (Q : VK), Same F H → PReps K F H xs ds → g ds = some q → ∃ o, (∀ p H', H' p = some o → Own K F H' p q) ∧ ((∀ p, H p = none → Q (.ref p) (upd H p o)) → r xs H Q)
def oBin (g : D → D → Option D) (fa fb : Ev A) : Ev D := fun e => (fa e).bind fun a e1 => (fb e1).bind fun b e2 => match (res e2 a).bind fun x => (res e2 b).bind fun y => g x y with
  | some d => .ok d e2
  | none => .bad
def oFn (g : List D → Option D) (fs : Ev (List A)) : Ev D := fun e => (fs e).bind fun as e1 => match (ress e1 as).bind g with
  | some d => .ok d e1
  | none => .bad
theorem PostO.bind {X : Cx} {W : WX} {G : Gd} {F : Hp} {σ : L2.St} {α β : Type} {ok : Hp → α → β → Prop} {r : M.R α} {g : α → En → M.R D} {Q : VK} {Q' : β → Hp → Prop}
    (h : PostO X W G F σ (r.bind g) Q) (k : ∀ a e v F' H', Rel X.K G e F' H' σ → Same F F' → ok F' a v → PostO X W G F' σ (g a e) Q → Q' v H') : PostE X W G F σ ok r Q' := by
  cases r with
  | bad => exact h
  | ok a e =>
    intro v F' H' R s o
    refine k a e v F' H' R s o ?_
    have h' : PostO X W G F σ (g a e) Q := h
    cases q : g a e with
    | bad => rw [q] at h'; exact h'
    | ok b e2 => rw [q] at h'; exact fun w F2 H2 R2 s2 o2 => h' w F2 H2 R2 (s.trans s2) o2
    | ex x e2 => rw [q] at h'; exact fun w dd F2 H2 R2 s2 o2 => h' w dd F2 H2 R2 (s.trans s2) o2
  | ex x e => exact h
section
variable {X : Cx} {W : WX} {a b : Expr} {pos : Pos} {fa fb : Ev A}
theorem do_op {op : Operator} {r : R2} {g : D → D → Option D} (ho : OpR X (binaryOp op) r) (hg : OpF X.K r g) (ha : DX X W a fa) (hb : DX X W b fb) : DO X W (.BinOp a op b pos) (oBin g fa fb) := by
  obtain ⟨ta, pa, qa⟩ := ha.ex
  obtain ⟨tb, pb, qb⟩ := hb.ex
  refine ⟨_, pe_op ho pa pb, fun G en F H σ Q R q => qa G en F H σ _ R (q.bind fun x e1 v F1 H1 R1 s1 o1 q1 => qb G e1 F1 H1 σ _ R1 (q1.bind fun y e2 w F2 H2 R2 s2 o2 q2 => ?_))⟩
  cases ed : ((res e2 x).bind fun x => (res e2 y).bind fun y => g x y) with
  | none => rw [ed] at q2; exact q2.elim
  | some d =>
    rw [ed] at q2
    obtain ⟨d1, e1', ed'⟩ := Option.bind_eq_some_iff.mp ed
    obtain ⟨d2, e2', ed''⟩ := Option.bind_eq_some_iff.mp ed'
    obtain ⟨o, h1, h2⟩ := hg F2 H2 v w d1 d2 d Q R2.fh (res_ok R2 (o1.mono s2) e1') (res_ok R2 o2 e2') ed''
    refine h2 fun p np => ?_
    obtain ⟨R3, n3⟩ := newAt_of (d := d) (o := o) R2 np (h1 p _ upd_same)
    exact q2 (.ref p) F2 _ R3 (.refl _) n3
theorem do_fnT {x : Str} {T : String} {r : List V → Hp → VK → Prop} {g : List D → Option D} {es : List Expr} {fs : Ev (List A)} {p : Pos} (hc : CallR X (.type T) r) (hg' : FnF X.K r g) (hg : Gl X x) (hm : X.mg x = none) (hv : bootBuiltins x = some (.type T)) (ha : DA X W (a :: es) fs) (hn : x ≠ "__name__" := by decide) (hdb : (x == ("__debug__" : Str)) = false := by decide)
    (he : starEach (a :: es) X.env = (false, eval a X.env) :: starEach es X.env := by rfl) (hpl : (backTo pos (starEach es X.env)).any (·.1) = false := by rfl) : DO X W (.Call (.Name x p) (a :: es) [] pos) (oFn g fs) := by
  obtain ⟨ta, pa, qa⟩ := ha.ex
  refine ⟨_, pe_callTy hc hg hm hv pa hn hdb he hpl, fun G en F H σ Q R q => qa G en F H σ _ R (q.bind fun x e1 v F1 H1 R1 s1 o1 q1 => ?_)⟩
  cases ed : ((ress e1 x).bind g) with
  | none => rw [ed] at q1; exact q1.elim
  | some d =>
    rw [ed] at q1
    obtain ⟨d1, e1', ed'⟩ := Option.bind_eq_some_iff.mp ed
    obtain ⟨o, h1, h2⟩ := hg' F1 H1 v d1 d Q R1.fh (ress_ok R1 o1 e1') ed'
    refine h2 fun p np => ?_
    obtain ⟨R3, n3⟩ := newAt_of (d := d) (o := o) R1 np (h1 p _ upd_same)
    exact q1 (.ref p) F1 _ R3 (.refl _) n3
theorem do_fnB {x : Str} {T : String} {r : List V → Hp → VK → Prop} {g : List D → Option D} {es : List Expr} {fs : Ev (List A)} {p : Pos} (hc : CallR X (.builtin T) r) (hg' : FnF X.K r g) (hg : Gl X x) (hm : X.mg x = none) (hv : bootBuiltins x = some (.builtin T)) (ha : DA X W (a :: es) fs) (hn : x ≠ "__name__" := by decide) (hdb : (x == ("__debug__" : Str)) = false := by decide)
    (he : starEach (a :: es) X.env = (false, eval a X.env) :: starEach es X.env := by rfl) (hpl : (backTo pos (starEach es X.env)).any (·.1) = false := by rfl) : DO X W (.Call (.Name x p) (a :: es) [] pos) (oFn g fs) := by
  obtain ⟨ta, pa, qa⟩ := ha.ex
  refine ⟨_, pe_callB hc hg hm hv pa hn hdb he hpl, fun G en F H σ Q R q => qa G en F H σ _ R (q.bind fun x e1 v F1 H1 R1 s1 o1 q1 => ?_)⟩
  cases ed : ((ress e1 x).bind g) with
  | none => rw [ed] at q1; exact q1.elim
  | some d =>
    rw [ed] at q1
    obtain ⟨d1, e1', ed'⟩ := Option.bind_eq_some_iff.mp ed
    obtain ⟨o, h1, h2⟩ := hg' F1 H1 v d1 d Q R1.fh (ress_ok R1 o1 e1') ed'
    refine h2 fun p np => ?_
    obtain ⟨R3, n3⟩ := newAt_of (d := d) (o := o) R1 np (h1 p _ upd_same)
    exact q1 (.ref p) F1 _ R3 (.refl _) n3
/-- slices -/
def oInt : D → Option (Option Int)
  | .int i => some (some i)
  | .none => some none
  | _ => none
inductive Po where
  | no
  | of (f : Ev A)
def ePart (p : Po) : Ev (Option Int) := fun e => match p with
  | .no => .ok none e
  | .of f => (f e).bind fun a e1 => match (res e1 a) with
    | some (.int i) => .ok (some i) e1
    | _ => .bad
structure DP (X : Cx) (W : WX) (e : Option Expr) (p : Po) : Prop where
  ex : ∃ t : TO, PO X e t ∧ ∀ (G : Gd) (en : En) (F H : Hp) (σ : L2.St) (Q : Option Int → Hp → Prop), Rel X.K G en F H σ → PostE X W G F σ (fun _ a v => a = v) (ePart p en) Q → t σ H Q
theorem dp_no : DP X W none .no := ⟨_, po_none, fun G en F H σ Q R q => q none F H R (.refl _) rfl⟩
theorem dp_of (h : DX X W a fa) : DP X W (some a) (.of fa) := by
  obtain ⟨t, p, q⟩ := h.ex
  refine ⟨_, po_some p, fun G en F H σ Q R k => q G en F H σ _ R ?_⟩
  unfold ePart at k
  refine PostE.bind (g := fun a e1 => match (res e1 a) with | some (.int i) => (.ok (some i) e1 : M.R (Option Int)) | _ => .bad) k fun o e1 v F1 H1 R1 s1 o1 q1 => ?_
  cases z : res e1 o with
  | none => rw [z] at q1; exact q1.elim
  | some d =>
    rw [z] at q1
    cases d with
    | int i => exact ⟨i, (res_ok R1 o1 z).int, q1 (some i) F1 H1 R1 (.refl _) rfl⟩
    | _ => exact q1.elim
def cutD (xs : List D) (lo hi : Option Int) : List D := (xs.drop (HT.sIx xs.length 0 lo)).take (HT.sIx xs.length xs.length hi - HT.sIx xs.length 0 lo)
theorem Reps.cut {K : PySem.W.Frag} {F : Hp} {vs : List V} {ds : List D} (r : Reps K F vs ds) (lo hi : Option Int) : Reps K F (cutV vs lo hi) (cutD ds lo hi) := by
  unfold cutV cutD
  rw [r.length]
  exact (r.drop _).take _
def eSlT (fa : Ev A) (lo hi : Po) : Ev A := fun e => (fa e).bind fun a e1 => (ePart lo e1).bind fun l e2 => (ePart hi e2).bind fun h e3 => match res e3 a with
  | some (.tuple xs) => .ok (.sh (.tuple (cutD xs l h))) e3
  | _ => .bad
def oSlL (fa : Ev A) (lo hi : Po) : Ev D := fun e => (fa e).bind fun a e1 => (ePart lo e1).bind fun l e2 => (ePart hi e2).bind fun h e3 => match res e3 a with
  | some (.list xs) => .ok (.list (cutD xs l h)) e3
  | _ => .bad
theorem cut_whole {α : Type} {xs : List α} {lo hi : Option Int} (h : HT.sIx xs.length 0 lo = 0 ∧ HT.sIx xs.length xs.length hi = xs.length) : (xs.drop (HT.sIx xs.length 0 lo)).take (HT.sIx xs.length xs.length hi - HT.sIx xs.length 0 lo) = xs := by
  rw [h.1, h.2]; simp
theorem dx_slT {lo hi : Option Expr} {pl ph : Po} {p2 : Pos} (ha : DX X W a fa) (hl : DP X W lo pl) (hh : DP X W hi ph) : DX X W (.Subscript a (.Slice lo hi none p2) pos) (eSlT fa pl ph) := by
  obtain ⟨ta, pa, qa⟩ := ha.ex
  obtain ⟨tl, p1, q1⟩ := hl.ex
  obtain ⟨th, p2, q2⟩ := hh.ex
  refine ⟨_, pe_slice sl_tupA pa p1 p2, fun G en F H σ Q R q => qa G en F H σ _ R (q.bind fun x e1 v F1 H1 R1 s1 o1 k1 => q1 G e1 F1 H1 σ _ R1 (k1.bind fun l e2 l' F2 H2 R2 s2 ol k2 => q2 G e2 F2 H2 σ _ R2 (k2.bind fun h e3 h' F3 H3 R3 s3 oh k3 => ?_)))⟩
  subst ol oh
  cases z : res e3 x with
  | none => rw [z] at k3; exact k3.elim
  | some d =>
    rw [z] at k3
    cases d with
    | tuple xs =>
      have o3 : AOk X.K F3 σ x v := (o1.mono s2).mono s3
      obtain ⟨p, vs, rfl, hs, r⟩ := (res_ok R3 o3 z).tup R3.fh
      have len := r.length
      refine ⟨p, vs, rfl, hs, fun hw => ?_, fun _ p np => ?_⟩
      · rw [len] at hw
        have e : cutD xs l h = xs := cut_whole hw
        dsimp only at k3
        rw [e] at k3
        -- the tuple itself
        have rp : Rep X.K F3 (.ref p) (.tuple xs) := by
          rcases res_ok R3 o3 z with q | ⟨_, _, q⟩
          · exact q
          · exact q.elim
        exact k3 (.ref p) F3 H3 R3 (.refl _) rp
      · have g := Grow.alloc (o := .tup (cutV vs l h)) R3.fh np
        exact k3 (.ref p) _ _ (R3.grow g) g.f (.tup (.inl (.inl upd_same)) ((r.cut l h).mono g.f))
    | _ => exact k3.elim
theorem do_slL {lo hi : Option Expr} {pl ph : Po} {p2 : Pos} (ha : DX X W a fa) (hl : DP X W lo pl) (hh : DP X W hi ph) : DO X W (.Subscript a (.Slice lo hi none p2) pos) (oSlL fa pl ph) := by
  obtain ⟨ta, pa, qa⟩ := ha.ex
  obtain ⟨tl, p1, q1⟩ := hl.ex
  obtain ⟨th, p2, q2⟩ := hh.ex
  refine ⟨_, pe_slice sl_list pa p1 p2, fun G en F H σ Q R q => qa G en F H σ _ R (q.bind fun x e1 v F1 H1 R1 s1 o1 k1 => q1 G e1 F1 H1 σ _ R1 (k1.bind fun l e2 l' F2 H2 R2 s2 ol k2 => q2 G e2 F2 H2 σ _ R2 (k2.bind fun h e3 h' F3 H3 R3 s3 oh k3 => ?_)))⟩
  subst ol oh
  cases z : res e3 x with
  | none => rw [z] at k3; exact k3.elim
  | some d =>
    rw [z] at k3
    cases d with
    | list xs =>
      obtain ⟨p, vs, rfl, hs, r⟩ := (res_ok R3 ((o1.mono s2).mono s3) z).list R3.fh
      refine ⟨p, vs, rfl, hs, fun p np => ?_⟩
      obtain ⟨R4, n4⟩ := newAt_of (d := .list (cutD xs l h)) (o := .lst (cutV vs l h)) R3 np ⟨_, upd_same, r.cut l h⟩
      exact k3 (.ref p) F3 _ R4 (.refl _) n4
    | _ => exact k3.elim
end

/-! ### arithmetic, comparisons -/
def dAdd : D → D → Option D
  | .int a, .int b => some (.int (a + b))
  | .str a, .str b => if small (a.length + b.length) then some (.str (a ++ b)) else none
  | .tuple a, .tuple b => if small (a.length + b.length) then some (.tuple (a ++ b)) else none
  | _, _ => none
def dSub : D → D → Option D
  | .int a, .int b => some (.int (a - b))
  | _, _ => none
def dMul : D → D → Option D
  | .int a, .int b => if decide (a.natAbs.log2 + b.natAbs.log2 < 1000000) then some (.int (a * b)) else none
  | _, _ => none
def dFdiv : D → D → Option D
  | .int a, .int b => if decide (0 < b ∧ b.natAbs.log2 < 9000) then some (.int (a / b)) else none
  | _, _ => none
def dMod : D → D → Option D
  | .int a, .int b => if decide (0 < b) then some (.int (a % b)) else none
  | _, _ => none
def dPow : D → D → Option D
  | .int a, .int b => if decide (0 ≤ b ∧ b ≤ 100 ∧ a.natAbs.log2 < 100000) then some (.int (a ^ b.toNat)) else none
  | _, _ => none
def dLt : D → D → Option D
  | .int a, .int b => some (.bool (decide (a < b)))
  | _, _ => none
def dLe : D → D → Option D
  | .int a, .int b => some (.bool (decide (a ≤ b)))
  | _, _ => none
def dGt : D → D → Option D
  | .int a, .int b => some (.bool (decide (b < a)))
  | _, _ => none
def dGe : D → D → Option D
  | .int a, .int b => some (.bool (decide (b ≤ a)))
  | _, _ => none
def isN : D → Bool
  | .none => true
  | _ => false
def dIsN : D → D → Option D
  | d, .none => some (.bool (isN d))
  | _, _ => none
def dNotN : D → D → Option D
  | d, .none => some (.bool (!isN d))
  | _, _ => none
def dEqN (a b : D) : Option D := if nd a && nd b && SeqAt.shaped a && SeqAt.shaped b then some (.bool (PyData.eqv a b)) else none
def dNeN (a b : D) : Option D := if nd a && nd b && SeqAt.shaped a && SeqAt.shaped b then some (.bool (!PyData.eqv a b)) else none
def dEq : D → D → Option D
  | .str a, .str b => some (.bool (a == b))
  | a, b => dEqN a b
def dNe : D → D → Option D
  | .str a, .str b => some (.bool (!(a == b)))
  | a, b => dNeN a b
def dNeg : D → Option D
  | .int a => some (.int (-a))
  | _ => none
def atD (xs : List D) (i : Int) : Option D := atI xs i
def dIx : D → D → Option D
  | .list xs, .int i => atI xs i
  | .tuple xs, .int i => atI xs i
  | .str s, .int i => if small s.length then (atI s.cps.toList i).bind fun c => some (.str ⟨#[c]⟩) else none
  | _, _ => none
section
variable {X : Cx} {K : PySem.W.Frag} {F H : Hp}
theorem ix_reps {vs : List V} {ds : List D} {i : Int} {q : D} (r : Reps K F vs ds) (h : atI ds i = some q) : ∃ v, atI vs i = some v ∧ Rep K F v q := by
  unfold atI at h ⊢
  obtain ⟨j, h1, h2⟩ := Option.bind_eq_some_iff.mp h
  obtain ⟨v, h3, h4⟩ := r.get h2
  exact ⟨v, by rw [r.length, h1]; exact h3, h4⟩
theorem op_powW : OpR X (binaryOp .Pow) (rI (fun i j => 0 ≤ j ∧ (Builtin.Int.intBits i : Int) * j ≤ 2 ^ 27) fun i j => .int (i ^ j.toNat)) := opI fun _ _ _ _ _ _ _ hc q => pow_int hc.1 hc.2 q
theorem bad_none {α : Type} {P : Prop} {q : α} (h : (none : Option α) = some q) : P := nomatch h
theorem opd_add : OpD K (fun x y H Q => rI0 (fun i j => .int (i + j)) x y H Q ∨ ((∃ i j, x = .str i ∧ y = .str j ∧ i.length + j.length ≤ sizeLine ∧ Q (.str (i ++ j)) H) ∨ rCatA K x y H Q)) dAdd := by
  intro F H x y d e q Q sF hx hy hg k
  cases d <;> cases e <;> try exact bad_none hg
  · cases hg; exact .inl ⟨_, _, hx.int, hy.int, k _ F H (.refl sF) (.int _)⟩
  · simp only [dAdd] at hg
    split at hg
    · rename_i hz
      cases hg
      exact .inr (.inl ⟨_, _, hx.str, hy.str, line_small hz, k _ F H (.refl sF) (.str _)⟩)
    · cases hg
  · simp only [dAdd] at hg
    split at hg
    · rename_i hz
      cases hg
      obtain ⟨p, vs, rfl, hs, r⟩ := hx.tup sF
      obtain ⟨p2, vs2, rfl, hs2, r2⟩ := hy.tup sF
      have rx : ∀ {p : Addr} {ds : List D}, PRep K F H (.ref p) (.tuple ds) → Rep K F (.ref p) (.tuple ds) := fun {p ds} h => by
        rcases h with h | ⟨_, _, h⟩
        · exact h
        · exact h.elim
      refine .inr (.inr ⟨p, p2, vs, vs2, rfl, rfl, hs, hs2, ?_, fun e => ?_, fun _ e => ?_, fun _ _ p3 np => ?_⟩)
      · rw [r.length, r2.length]; exact line_small hz
      · subst e
        cases r
        exact k _ F H (.refl sF) (rx hy)
      · subst e
        cases r2
        rw [List.append_nil] at k
        exact k _ F H (.refl sF) (rx hx)
      · have g := Grow.alloc (o := .tup (vs ++ vs2)) sF np
        exact k _ _ _ g (.tup (.inl (.inl upd_same)) ((r.append r2).mono g.f))
    · cases hg
theorem opd_sub : OpD K (rI0 fun i j => .int (i - j)) dSub := by
  intro F H x y d e q Q sF hx hy hg k
  cases d <;> cases e <;> try exact bad_none hg
  cases hg; exact ⟨_, _, hx.int, hy.int, k _ F H (.refl sF) (.int _)⟩
theorem opd_mul : OpD K (rI CMulW fun i j => .int (i * j)) dMul := by
  intro F H x y d e q Q sF hx hy hg k
  cases d <;> cases e <;> try exact bad_none hg
  simp only [dMul] at hg
  split at hg
  · rename_i hz; cases hg; have hz' := of_decide_eq_true hz; exact ⟨_, _, hx.int, hy.int, hz', k _ F H (.refl sF) (.int _)⟩
  · cases hg
theorem opd_fdiv : OpD K (rI CDivW fun i j => .int (i / j)) dFdiv := by
  intro F H x y d e q Q sF hx hy hg k
  cases d <;> cases e <;> try exact bad_none hg
  simp only [dFdiv] at hg
  split at hg
  · rename_i hz; cases hg; have hz' := of_decide_eq_true hz; exact ⟨_, _, hx.int, hy.int, hz', k _ F H (.refl sF) (.int _)⟩
  · cases hg
theorem opd_mod : OpD K (rI (fun _ j => 0 < j) fun i j => .int (i % j)) dMod := by
  intro F H x y d e q Q sF hx hy hg k
  cases d <;> cases e <;> try exact bad_none hg
  simp only [dMod] at hg
  split at hg
  · rename_i hz; cases hg; have hz' := of_decide_eq_true hz; exact ⟨_, _, hx.int, hy.int, hz', k _ F H (.refl sF) (.int _)⟩
  · cases hg
theorem opd_pow : OpD K (rI (fun i j => 0 ≤ j ∧ (Builtin.Int.intBits i : Int) * j ≤ 2 ^ 27) fun i j => .int (i ^ j.toNat)) dPow := by
  intro F H x y d e q Q sF hx hy hg k
  cases d <;> cases e <;> try exact bad_none hg
  rename_i a b
  simp only [dPow] at hg
  split at hg
  · rename_i hz
    cases hg
    obtain ⟨h1, h2, h3⟩ := of_decide_eq_true hz
    refine ⟨_, _, hx.int, hy.int, ⟨h1, ?_⟩, k _ F H (.refl sF) (.int _)⟩
    have hb : Builtin.Int.intBits a ≤ 100000 := by
      unfold Builtin.Int.intBits
      split <;> omega
    have h4 : (Builtin.Int.intBits a : Int) * b ≤ 100000 * 100 := Int.mul_le_mul (by omega) h2 h1 (by decide)
    exact Int.le_trans h4 (by decide)
  · cases hg
theorem opd_lt : OpD K (rI0 fun i j => .bl (decide (i < j))) dLt := by
  intro F H x y d e q Q sF hx hy hg k
  cases d <;> cases e <;> try exact bad_none hg
  cases hg; exact ⟨_, _, hx.int, hy.int, k _ F H (.refl sF) (.bl _)⟩
theorem opd_le : OpD K (rI0 fun i j => .bl (decide (i ≤ j))) dLe := by
  intro F H x y d e q Q sF hx hy hg k
  cases d <;> cases e <;> try exact bad_none hg
  cases hg; exact ⟨_, _, hx.int, hy.int, k _ F H (.refl sF) (.bl _)⟩
theorem opd_gt : OpD K (rI0 fun i j => .bl (decide (j < i))) dGt := by
  intro F H x y d e q Q sF hx hy hg k
  cases d <;> cases e <;> try exact bad_none hg
  cases hg; exact ⟨_, _, hx.int, hy.int, k _ F H (.refl sF) (.bl _)⟩
theorem opd_ge : OpD K (rI0 fun i j => .bl (decide (j ≤ i))) dGe := by
  intro F H x y d e q Q sF hx hy hg k
  cases d <;> cases e <;> try exact bad_none hg
  cases hg; exact ⟨_, _, hx.int, hy.int, k _ F H (.refl sF) (.bl _)⟩
theorem prep_isN {v : V} {d : D} (h : PRep K F H v d) : decide (v = .non) = isN d := by
  cases d with
  | none => rw [h.non]; rfl
  | bool b => rw [h.bool]; rfl
  | int b => rw [h.int]; rfl
  | str b => rw [h.str]; rfl
  | list ds =>
    rcases h with h | ⟨p, rfl, h⟩
    · cases h; rfl
    · rfl
  | tuple ds =>
    rcases h with h | ⟨p, rfl, h⟩
    · cases h; rfl
    · rfl
  | dict ds =>
    rcases h with h | ⟨p, rfl, h⟩
    · cases h <;> rfl
    · rfl
theorem opd_isN : OpD K (fun x y H Q => y = .non ∧ Q (.bl (decide (x = .non))) H) dIsN := by
  intro F H x y d e q Q sF hx hy hg k
  cases e <;> try exact bad_none hg
  cases hg
  refine ⟨hy.non, ?_⟩
  rw [prep_isN hx]
  exact k _ F H (.refl sF) (.bl _)
theorem opd_notN : OpD K (fun x y H Q => y = .non ∧ Q (.bl (!decide (x = .non))) H) dNotN := by
  intro F H x y d e q Q sF hx hy hg k
  cases e <;> try exact bad_none hg
  cases hg
  refine ⟨hy.non, ?_⟩
  rw [prep_isN hx]
  exact k _ F H (.refl sF) (.bl _)
theorem opd_eqN : OpD K (rEqD K) dEqN := by
  intro F H x y d e q Q sF hx hy hg k
  unfold dEqN at hg
  split at hg
  · rename_i hz
    cases hg
    simp only [Bool.and_eq_true] at hz
    obtain ⟨⟨⟨h1, h2⟩, h3⟩, h4⟩ := hz
    exact ⟨d, e, (hx.rep sF).dp h1, (hy.rep sF).dp h2, h3, h4, k _ F H (.refl sF) (.bl _)⟩
  · cases hg
theorem opd_neN : OpD K (rNeD K) dNeN := by
  intro F H x y d e q Q sF hx hy hg k
  unfold dNeN at hg
  split at hg
  · rename_i hz
    cases hg
    simp only [Bool.and_eq_true] at hz
    obtain ⟨⟨⟨h1, h2⟩, h3⟩, h4⟩ := hz
    exact ⟨d, e, (hx.rep sF).dp h1, (hy.rep sF).dp h2, h3, h4, k _ F H (.refl sF) (.bl _)⟩
  · cases hg
theorem opd_eq : OpD K (fun x y H Q => rEqD K x y H Q ∨ rEq x y H Q) dEq := by
  intro F H x y d e q Q sF hx hy hg k
  unfold dEq at hg
  split at hg
  · cases hg
    rw [hx.str, hy.str]
    refine .inr ⟨rfl, ?_⟩
    rw [dec_str]
    exact k _ F H (.refl sF) (.bl _)
  · exact .inl (opd_eqN F H x y d e q Q sF hx hy hg k)
theorem opd_ne : OpD K (fun x y H Q => rNeD K x y H Q ∨ rNe x y H Q) dNe := by
  intro F H x y d e q Q sF hx hy hg k
  unfold dNe at hg
  split at hg
  · cases hg
    rw [hx.str, hy.str]
    refine .inr ⟨rfl, ?_⟩
    rw [dec_str]
    exact k _ F H (.refl sF) (.bl _)
  · exact .inl (opd_neN F H x y d e q Q sF hx hy hg k)
theorem und_neg : UnD K (rU fun i => .int (-i)) dNeg := by
  intro F H x d q Q sF hx hg k
  cases d <;> try exact bad_none hg
  cases hg
  exact ⟨_, hx.int, k _ F H (.refl sF) (.int _)⟩
theorem opd_ix : OpD K (rIx K) dIx := by
  intro F H x y d e q Q sF hx hy hg k
  cases d <;> cases e <;> try exact bad_none hg
  · rename_i s i
    simp only [dIx] at hg
    split at hg
    · rename_i hz
      obtain ⟨c, h1, h2⟩ := Option.bind_eq_some_iff.mp hg
      cases h2
      exact .inr (.inr ⟨s, i, c, hx.str, hy.int, line_small hz, h1, k _ F H (.refl sF) (.str _)⟩)
    · cases hg
  · rename_i ds i
    obtain ⟨p, vs, rfl, hs, r⟩ := hx.list sF
    obtain ⟨v, h1, h2⟩ := ix_reps r (show atI ds i = some q from hg)
    exact .inl ⟨p, vs, i, v, rfl, hy.int, hs, h1, k v F H (.refl sF) h2⟩
  · rename_i ds i
    obtain ⟨p, vs, rfl, hs, r⟩ := hx.tup sF
    obtain ⟨v, h1, h2⟩ := ix_reps r (show atI ds i = some q from hg)
    exact .inr (.inl ⟨p, vs, i, v, rfl, hy.int, hs, h1, k v F H (.refl sF) h2⟩)
/-- list + list, list * int: new lists -/
def dCat : D → D → Option D
  | .list a, .list b => if small (a.length + b.length) then some (.list (a ++ b)) else none
  | _, _ => none
def dRep : D → D → Option D
  | .list a, .int k => if in63 k && small (a.length * k.toNat) then some (.list (List.replicate k.toNat a).flatten) else none
  | _, _ => none
/-- a list that is to be read as the heap has it -/
def NoK (K : PySem.W.Frag) : Prop := ∀ a o, K.lookup a = some o → o.cls ≠ .type "list"
theorem flat_reps {vs : List V} {ds : List D} (r : Reps K F vs ds) : ∀ n : Nat, Reps K F (List.replicate n vs).flatten (List.replicate n ds).flatten
  | 0 => .nil
  | n + 1 => by
    rw [List.replicate_succ, List.replicate_succ, List.flatten_cons, List.flatten_cons]
    exact r.append (flat_reps r n)
end
end
end M
set_option Elab.async false
set_option linter.all false
set_option maxRecDepth 100000
set_option autoImplicit false
/-! M8: more operators and built-in functions on data; methods that change lists; what loops walk. -/
namespace M
noncomputable section
open PySem PySem.Spec PyProof.Rows L2
def rCatS (K : PySem.W.Frag) : R2 := fun x y H Q => ∃ l b xs zs, x = .ref l ∧ y = .ref b ∧ SqL K H l xs ∧ SqL K H b zs ∧ xs.length + zs.length ≤ sizeLine ∧ ∀ p, H p = none → Q (.ref p) (upd H p (.lst (xs ++ zs)))
def rRepS (K : PySem.W.Frag) : R2 := fun x y H Q => ∃ l k xs, x = .ref l ∧ y = .int k ∧ SqL K H l xs ∧ -(2 ^ 63) ≤ k ∧ k < 2 ^ 63 ∧ xs.length * k.toNat ≤ 1000000 ∧ ∀ p, H p = none → Q (.ref p) (upd H p (.lst (List.replicate k.toNat xs).flatten))
section
variable {X : Cx}
theorem op_catS : OpR X (binaryOp .Add) (rCatS X.K) := by
  intro pins s σ H x y v u Q I rx ry h
  obtain ⟨l, b, xs, zs, rfl, rfl, h1, h2, hz, q⟩ := h
  cases rx
  cases ry
  obtain ⟨t1, r1, p1, _⟩ := I.list h1
  obtain ⟨t2, r2, p2, _⟩ := I.list h2
  obtain ⟨⟨c1, d1, dt1, s1⟩, e1, hc1, n1, hd1⟩ := p1.isList
  obtain ⟨⟨c2, d2, dt2, s2⟩, e2, hc2, n2, hd2⟩ := p2.isList
  simp only at hc1 hd1 hc2 hd2
  subst hc1 hd1 hc2 hd2
  have l1 := r1.length
  have l2 := r2.length
  have ea : t1.toArray ++ t2.toArray = (t1 ++ t2).toArray := by simp
  refine concat_meets ⟨_, e1, rfl⟩ ⟨_, e2, rfl⟩ noFill_list_add seq_list_add PySem.F.slot_list_add PySem.F.entry_list_add (PySem.F.args_list_add_2 _ _) (list_addW l b t1.toArray t2.toArray n1 n2 d1 d2 s1 s2 (by rw [List.size_toArray, List.size_toArray]; omega)) ⟨e1, e2, ?_⟩
  rw [ea]
  exact ⟨.ref _, _, I.lnew (t' := s.toks) (r1.append r2) (by rw [List.length_append]; omega), rfl, q _ I.fresh⟩
theorem Vals.repN {xs : List V} {us : List Value} (r : Vals xs us) : ∀ n : Nat, Vals (List.replicate n xs).flatten (List.replicate n us).flatten
  | 0 => .nil
  | n + 1 => by
    rw [List.replicate_succ, List.replicate_succ, List.flatten_cons, List.flatten_cons]
    exact r.append (Vals.repN r n)
theorem op_repS : OpR X (binaryOp .Mult) (rRepS X.K) := by
  intro pins s σ H x y v u Q I rx ry h
  obtain ⟨l, k, xs, rfl, rfl, h1, h2, h3, hz, q⟩ := h
  cases rx
  obtain ⟨t, rfl⟩ := ry
  obtain ⟨t1, r1, p1, _⟩ := I.list h1
  obtain ⟨⟨c1, d1, dt1, s1⟩, e1, hc1, n1, hd1⟩ := p1.isList
  simp only at hc1 hd1
  subst hc1 hd1
  have l1 := r1.length
  have hsz3 : t1.length * k.toNat ≤ 1000000 := by rw [← l1]; exact hz
  have hsz : t1.toArray.size * k.toNat ≤ 1000000 := by rw [List.size_toArray, ← l1]; exact hz
  refine wpAny_binaryOp_repeat_ref (T := "list") (U := "int") (by decide) ⟨_, e1, rfl⟩ (fun s' => typeIs_int s' k t) noFill_list_mul PySem.F.fills_int_mul PySem.F.slot_int_rmul repeat_list PySem.F.slot_int_index.lookup
    (call_meets PySem.F.slot_int_rmul (typeIs_int s k t) PySem.F.entry_int_rmul (PySem.F.args_int_rmul_2 _ _) (lm_int_rmul_list_any k t l t1.toArray n1 d1 s1)
      ⟨e1, rfl, ⟨_, e1, rfl⟩, call_meets PySem.F.slot_list_mul ⟨_, e1, rfl⟩ PySem.F.entry_list_mul (PySem.F.args_list_mul_2 _ _)
        (lm_list_mul_any l t1.toArray n1 d1 s1 k t (by simp [Builtin.List.listFitsIndex]; omega) (by omega) (by simp [Builtin.List.listTooLong, sizeLine]; omega)) ⟨e1, ?_⟩⟩)
  rw [listMul_foldl_if]
  refine ⟨.ref _, _, I.lnew (t' := s.toks) (Vals.repN r1 k.toNat) (by rw [PyProof.Rows.lm_len_rep_flat, Nat.mul_comm, sizeLine_eq]; omega), rfl, q _ I.fresh⟩
end
section
variable {X : Cx} {K : PySem.W.Frag} {F H : Hp}
theorem opf_cat : OpF K (rCatS K) dCat := by
  intro F H x y d e q Q sF hx hy hg
  cases d <;> cases e <;> try exact bad_none hg
  rename_i a b
  simp only [dCat] at hg
  split at hg
  · rename_i hz
    cases hg
    obtain ⟨p, vs, rfl, hs, r⟩ := hx.list sF
    obtain ⟨p2, vs2, rfl, hs2, r2⟩ := hy.list sF
    exact ⟨.lst (vs ++ vs2), fun p H' h => ⟨_, h, r.append r2⟩, fun k => ⟨p, p2, vs, vs2, rfl, rfl, hs, hs2, by rw [r.length, r2.length]; exact line_small hz, k⟩⟩
  · cases hg
theorem opf_rep : OpF K (rRepS K) dRep := by
  intro F H x y d e q Q sF hx hy hg
  cases d <;> cases e <;> try exact bad_none hg
  rename_i a b
  simp only [dRep] at hg
  split at hg
  · rename_i hz
    cases hg
    obtain ⟨h1, h2⟩ := Bool.and_eq_true_iff.mp hz
    obtain ⟨h3, h4⟩ := of_decide_eq_true ((in63_d _).symm.trans h1)
    obtain ⟨p, vs, rfl, hs, r⟩ := hx.list sF
    exact ⟨.lst (List.replicate b.toNat vs).flatten, fun p H' h => ⟨_, h, flat_reps r _⟩, fun k => ⟨p, b, vs, rfl, hy.int, hs, h3, h4, by rw [r.length]; exact small_of h2, k⟩⟩
  · cases hg
/-! ### functions -/
theorem preps1 {xs : List V} {d : D} (h : PReps K F H xs [d]) : ∃ v, xs = [v] ∧ PRep K F H v d := by
  obtain ⟨v, ws, e, h1, h2⟩ := h
  cases (show ws = [] from h2)
  exact ⟨v, e, h1⟩
theorem preps2 {xs : List V} {d e : D} (h : PReps K F H xs [d, e]) : ∃ v w, xs = [v, w] ∧ PRep K F H v d ∧ PRep K F H w e := by
  obtain ⟨v, ws, e1, h1, w, us, e2, h3, h4⟩ := h
  cases (show us = [] from h4)
  subst e2
  exact ⟨v, w, e1, h1, h3⟩
def f1 (g : D → Option D) : List D → Option D
  | [d] => g d
  | _ => none
def f2 (g : D → D → Option D) : List D → Option D
  | [d, e] => g d e
  | _ => none
theorem f1_some {g : D → Option D} {ds : List D} {q : D} (h : f1 g ds = some q) : ∃ d, ds = [d] ∧ g d = some q := by
  cases ds with
  | nil => cases h
  | cons d ds => cases ds with
    | nil => exact ⟨d, rfl, h⟩
    | cons => cases h
theorem f2_some {g : D → D → Option D} {ds : List D} {q : D} (h : f2 g ds = some q) : ∃ d e, ds = [d, e] ∧ g d e = some q := by
  cases ds with
  | nil => cases h
  | cons d ds => cases ds with
    | nil => cases h
    | cons e ds => cases ds with
      | nil => exact ⟨d, e, rfl, h⟩
      | cons => cases h
def dLen : D → Option D
  | .list xs => some (.int xs.length)
  | .tuple xs => some (.int xs.length)
  | .str s => if small s.length then some (.int s.length) else none
  | _ => none
theorem fnd_len : FnD K (fun xs H Q => ∃ x n, xs = [x] ∧ LenV K x H n ∧ Q (.int n) H) (f1 dLen) := by
  intro F H xs ds q Q sF hx hg0 k
  obtain ⟨d, rfl, hg⟩ := f1_some hg0
  clear hg0
  obtain ⟨v, rfl, hv⟩ := preps1 hx
  cases d <;> try exact bad_none hg
  · rename_i s
    have hg : (if small s.length = true then some (PyData.int s.length) else none) = some q := hg
    split at hg
    · rename_i hz
      cases hg
      cases hv.str
      exact ⟨_, _, rfl, ⟨line_small hz, rfl⟩, k _ F H (.refl sF) (.int _)⟩
    · cases hg
  · cases hg
    obtain ⟨p, vs, rfl, hs, r⟩ := hv.list sF
    refine ⟨_, _, rfl, .inl ⟨vs, hs, r.length.symm⟩, k _ F H (.refl sF) (.int _)⟩
  · cases hg
    obtain ⟨p, vs, rfl, hs, r⟩ := hv.tup sF
    refine ⟨_, _, rfl, .inr ⟨vs, hs, r.length.symm⟩, k _ F H (.refl sF) (.int _)⟩
def dAbs : D → Option D
  | .int i => some (.int (if i < 0 then -i else i))
  | _ => none
theorem fnd_abs : FnD K (fun xs H Q => ∃ i, xs = [V.int i] ∧ Q (.int (if i < 0 then -i else i)) H) (f1 dAbs) := by
  intro F H xs ds q Q sF hx hg0 k
  obtain ⟨d, rfl, hg⟩ := f1_some hg0
  clear hg0
  obtain ⟨v, rfl, hv⟩ := preps1 hx
  cases d <;> try exact bad_none hg
  cases hg
  cases hv.int
  exact ⟨_, rfl, k _ F H (.refl sF) (.int _)⟩
def dMax2 : D → D → Option D
  | .int i, .int j => some (.int (if j > i then j else i))
  | _, _ => none
def dMin2 : D → D → Option D
  | .int i, .int j => some (.int (if j < i then j else i))
  | _, _ => none
theorem fnd_max2 : FnD K (fun xs H Q => ∃ i j, xs = [V.int i, V.int j] ∧ Q (.int (if j > i then j else i)) H) (f2 dMax2) := by
  intro F H xs ds q Q sF hx hg k
  obtain ⟨d, e, rfl, hg⟩ := f2_some hg
  obtain ⟨v, w, rfl, hv, hw⟩ := preps2 hx
  cases d <;> cases e <;> try exact bad_none hg
  cases hg
  cases hv.int
  cases hw.int
  exact ⟨_, _, rfl, k _ F H (.refl sF) (.int _)⟩
theorem fnd_min2 : FnD K (fun xs H Q => ∃ i j, xs = [V.int i, V.int j] ∧ Q (.int (if j < i then j else i)) H) (f2 dMin2) := by
  intro F H xs ds q Q sF hx hg k
  obtain ⟨d, e, rfl, hg⟩ := f2_some hg
  obtain ⟨v, w, rfl, hv, hw⟩ := preps2 hx
  cases d <;> cases e <;> try exact bad_none hg
  cases hg
  cases hv.int
  cases hw.int
  exact ⟨_, _, rfl, k _ F H (.refl sF) (.int _)⟩
def dInt : D → Option D
  | .int i => some (.int i)
  | .bool b => some (.int (if b then 1 else 0))
  | _ => none
theorem fnd_int : FnD K (fun xs H Q => (∃ i, xs = [V.int i] ∧ Q (.int i) H) ∨ ∃ k, xs = [V.bl k] ∧ Q (.int (if k then 1 else 0)) H) (f1 dInt) := by
  intro F H xs ds q Q sF hx hg0 k
  obtain ⟨d, rfl, hg⟩ := f1_some hg0
  clear hg0
  obtain ⟨v, rfl, hv⟩ := preps1 hx
  cases d <;> try exact bad_none hg
  · cases hg
    cases hv.bool
    exact .inr ⟨_, rfl, k _ F H (.refl sF) (.int _)⟩
  · cases hg
    cases hv.int
    exact .inl ⟨_, rfl, k _ F H (.refl sF) (.int _)⟩
def dTuple : D → Option D
  | .list xs => some (.tuple xs)
  | .tuple xs => some (.tuple xs)
  | _ => none
theorem fnd_tuple : FnD K (fun xs H Q => ∃ p ys, xs = [V.ref p] ∧ ((SqL K H p ys ∧ ∀ l, H l = none → Q (.ref l) (upd H l (.tup ys))) ∨ (SqT K H p ys ∧ Q (.ref p) H))) (f1 dTuple) := by
  intro F H xs ds q Q sF hx hg0 k
  obtain ⟨d, rfl, hg⟩ := f1_some hg0
  clear hg0
  obtain ⟨v, rfl, hv⟩ := preps1 hx
  cases d <;> try exact bad_none hg
  · cases hg
    obtain ⟨p, vs, rfl, hs, r⟩ := hv.list sF
    refine ⟨p, vs, rfl, .inl ⟨hs, fun l nl => ?_⟩⟩
    have g := Grow.alloc (o := .tup vs) sF nl
    exact k _ _ _ g (.tup (.inl (.inl upd_same)) (r.mono g.f))
  · cases hg
    obtain ⟨p, vs, rfl, hs, r⟩ := hv.tup sF
    refine ⟨p, vs, rfl, .inr ⟨hs, ?_⟩⟩
    rcases hv with h | ⟨_, _, h⟩
    · exact k _ F H (.refl sF) h
    · exact h.elim
def dList : D → Option D
  | .list xs => some (.list xs)
  | .tuple xs => some (.list xs)
  | _ => none
theorem fnf_list : FnF K (fun xs H Q => ∃ p ys, xs = [V.ref p] ∧ (SqL K H p ys ∨ SqT K H p ys) ∧ ∀ l, H l = none → Q (.ref l) (upd H l (.lst ys))) (f1 dList) := by
  intro F H xs ds q Q sF hx hg
  obtain ⟨d, rfl, hg⟩ := f1_some hg
  obtain ⟨v, rfl, hv⟩ := preps1 hx
  cases d <;> try exact bad_none hg
  · cases hg
    obtain ⟨p, vs, rfl, hs, r⟩ := hv.list sF
    exact ⟨.lst vs, fun p H' h => ⟨_, h, r⟩, fun k => ⟨p, vs, rfl, .inl hs, k⟩⟩
  · cases hg
    obtain ⟨p, vs, rfl, hs, r⟩ := hv.tup sF
    exact ⟨.lst vs, fun p H' h => ⟨_, h, r⟩, fun k => ⟨p, vs, rfl, .inr hs, k⟩⟩
def bsD : List D → Option (List Bool)
  | [] => some []
  | .bool b :: ds => (bsD ds).bind fun r => some (b :: r)
  | _ => none
theorem bsD_reps : ∀ {ds : List D} {bs : List Bool} {vs : List V}, bsD ds = some bs → Reps K F vs ds → vs = bs.map V.bl
  | [], _, _, h, r => by cases h; cases r; rfl
  | .bool b :: ds, bs, vs, h, r => by
    obtain ⟨r', h1, h2⟩ := Option.bind_eq_some_iff.mp h
    cases h2
    cases r with
    | cons a t => cases a; rw [bsD_reps h1 t]; rfl
def isD : List D → Option (List Int)
  | [] => some []
  | .int b :: ds => (isD ds).bind fun r => some (b :: r)
  | _ => none
theorem isD_reps : ∀ {ds : List D} {bs : List Int} {vs : List V}, isD ds = some bs → Reps K F vs ds → vs = bs.map V.int
  | [], _, _, h, r => by cases h; cases r; rfl
  | .int b :: ds, bs, vs, h, r => by
    obtain ⟨r', h1, h2⟩ := Option.bind_eq_some_iff.mp h
    cases h2
    cases r with
    | cons a t => cases a; rw [isD_reps h1 t]; rfl
def dAll : D → Option D
  | .list xs => (bsD xs).bind fun bs => some (.bool (bs.all id))
  | _ => none
def dAny : D → Option D
  | .list xs => (bsD xs).bind fun bs => some (.bool (bs.any id))
  | _ => none
def dSum : D → Option D
  | .list xs => (isD xs).bind fun bs => some (.int bs.sum)
  | _ => none
theorem fnd_all : FnD K (rAll K) (f1 dAll) := by
  intro F H xs ds q Q sF hx hg0 k
  obtain ⟨d, rfl, hg⟩ := f1_some hg0
  clear hg0
  obtain ⟨v, rfl, hv⟩ := preps1 hx
  cases d <;> try exact bad_none hg
  obtain ⟨bs, h1, h2⟩ := Option.bind_eq_some_iff.mp hg
  cases h2
  obtain ⟨p, vs, rfl, hs, r⟩ := hv.list sF
  rw [bsD_reps h1 r] at hs
  exact ⟨p, bs, rfl, hs, k _ F H (.refl sF) (.bl _)⟩
theorem fnd_any : FnD K (rAny K) (f1 dAny) := by
  intro F H xs ds q Q sF hx hg0 k
  obtain ⟨d, rfl, hg⟩ := f1_some hg0
  clear hg0
  obtain ⟨v, rfl, hv⟩ := preps1 hx
  cases d <;> try exact bad_none hg
  obtain ⟨bs, h1, h2⟩ := Option.bind_eq_some_iff.mp hg
  cases h2
  obtain ⟨p, vs, rfl, hs, r⟩ := hv.list sF
  rw [bsD_reps h1 r] at hs
  exact ⟨p, bs, rfl, hs, k _ F H (.refl sF) (.bl _)⟩
theorem fnd_sum : FnD K (rSum K) (f1 dSum) := by
  intro F H xs ds q Q sF hx hg0 k
  obtain ⟨d, rfl, hg⟩ := f1_some hg0
  clear hg0
  obtain ⟨v, rfl, hv⟩ := preps1 hx
  cases d <;> try exact bad_none hg
  obtain ⟨bs, h1, h2⟩ := Option.bind_eq_some_iff.mp hg
  cases h2
  obtain ⟨p, vs, rfl, hs, r⟩ := hv.list sF
  rw [isD_reps h1 r] at hs
  exact ⟨p, bs, rfl, hs, k _ F H (.refl sF) (.int _)⟩
/-! ### isinstance -/
def tyD : D → String
  | .none => "NoneType"
  | .bool _ => "bool"
  | .int _ => "int"
  | .str _ => "str"
  | .list _ => "list"
  | .tuple _ => "tuple"
  | .dict _ => "dict"
theorem tyX_sq {a : Addr} {xs : List V} (h : SqL K H a xs) : TyX K H (.ref a) (.type "list") := by
  rcases h with (h | ⟨o, h⟩) | ⟨o, its, n, h, hc, _⟩
  · exact .base (.lst h)
  · exact .base (.frz h)
  · exact .kList h hc
theorem tyX_sqT {a : Addr} {xs : List V} (h : SqT K H a xs) : TyX K H (.ref a) (.type "tuple") := by
  rcases h with (h | ⟨o, h⟩) | ⟨o, its, n, h, hc, _⟩
  · exact .base (.tup h)
  · exact .fTuple h
  · exact .kTuple h hc
def noFT : D → Bool
  | .dict _ => false
  | _ => true
theorem tyX_of {v : V} {d : D} (sF : Same F H) (h : PRep K F H v d) (hd : noFT d = true) : TyX K H v (.type (tyD d)) := by
  cases d with
  | none => rw [h.non]; exact .base .non
  | bool b => rw [h.bool]; exact .base (.bl b)
  | int b => rw [h.int]; exact .base (.int b)
  | str b => rw [h.str]; exact .base (.str b)
  | list ds => obtain ⟨p, vs, rfl, hs, r⟩ := h.list sF; exact tyX_sq hs
  | tuple ds => obtain ⟨p, vs, rfl, hs, r⟩ := h.tup sF; exact tyX_sqT hs
  | dict ds => cases hd
def dIsi (T : String) (d : D) : Option D := if noFT d then (kitB (tyD d) T).bind fun b => some (.bool b) else none
def dIsi2 (T U : String) (d : D) : Option D := if noFT d then (kitB (tyD d) T).bind fun b => (kitB (tyD d) U).bind fun c => some (.bool (b || c)) else none
variable {W : WX} {a : Expr} {fa : Ev A} {p p2 p3 p4 pos : Pos}
theorem da_of_pe {e : Expr} {v : V} (h : PE X e (tC v)) (ha : DX X W a fa) (hs : starEach [a, e] X.env = (false, eval a X.env) :: starEach [e] X.env := by rfl) (hs2 : starEach [e] X.env = (false, eval e X.env) :: starEach [] X.env := by rfl) :
    ∃ t : TA, PA X [a, e] t ∧ ∀ (G : Gd) (en : En) (F H : Hp) (σ : L2.St) (Q : List V → Hp → Prop), Rel X.K G en F H σ → PostE X W G F σ (fun F' a u => ∃ w, u = [w, v] ∧ AOk X.K F' σ a w) (fa en) Q → t σ H Q := by
  obtain ⟨t, pt, q⟩ := ha.ex
  refine ⟨_, pa_cons pt (pa_cons h pa_nil hs2) hs, fun G en F H σ Q R k => q G en F H σ _ R ?_⟩
  cases z : fa en with
  | bad => rw [z] at k; exact k
  | ex x e => rw [z] at k; exact k
  | ok o e1 =>
    rw [z] at k
    intro w F' H' R' s' o'
    exact k [w, v] F' H' R' s' ⟨w, rfl, o'⟩
theorem dx_isi {T : Str} {Tn : String} (ha : DX X W a fa) (hm : X.mg "isinstance" = none) (hT : X.mg T = none) (hv : bootBuiltins T = some (.type Tn) := by decide +kernel) (hg : Gl X "isinstance" := by rfl) (hgT : Gl X T := by rfl)
    (hn : T ≠ "__name__" := by decide) (hd : (T == ("__debug__" : Str)) = false := by decide) (he : starEach [a, .Name T p2] X.env = (false, eval a X.env) :: starEach [.Name T p2] X.env := by rfl) (he2 : starEach [.Name T p2] X.env = (false, eval (.Name T p2) X.env) :: starEach [] X.env := by rfl) (hpl : (backTo pos (starEach [.Name T p2] X.env)).any (·.1) = false := by rfl) :
    DX X W (.Call (.Name "isinstance" p) [a, .Name T p2] [] pos) (eUn (dIsi Tn) fa) := by
  obtain ⟨t, pt, q⟩ := da_of_pe (W := W) (pe_bltn (v := .ty Tn) hgT hT hv rfl hn hd) ha he he2
  refine ⟨_, pe_callB call_isi hg hm (by decide +kernel) pt (by decide) (by decide) he hpl, fun G en F H σ Q R k => q G en F H σ _ R (k.bind fun o e1 u F1 H1 R1 s1 ou k1 => ?_)⟩
  obtain ⟨w, rfl, ow⟩ := ou
  obtain ⟨d, ed⟩ := fin_some k1
  obtain ⟨d1, e1', ed'⟩ := Option.bind_eq_some_iff.mp ed
  unfold dIsi at ed'
  split at ed'
  · rename_i hz
    obtain ⟨b, h1, h2⟩ := Option.bind_eq_some_iff.mp ed'
    cases h2
    exact ⟨w, .ty Tn, _, _, b, rfl, .ty Tn, tyX_of R1.fh (res_ok R1 ow e1') hz, kit_ty h1, fin_ok R1 k1 ed (.refl R1.fh) (.bl b)⟩
  · cases ed'
theorem dx_isi2 {T U : Str} {Tn Un : String} {k : Nat} (ha : DX X W a fa) (hm : X.mg "isinstance" = none) (hT : X.mg T = none) (hU : X.mg U = none) (hv : bootBuiltins T = some (.type Tn) := by decide +kernel) (hvU : bootBuiltins U = some (.type Un) := by decide +kernel) (hg : Gl X "isinstance" := by rfl) (hgT : Gl X T := by rfl) (hgU : Gl X U := by rfl)
    (hn : T ≠ "__name__" := by decide) (hd : (T == ("__debug__" : Str)) = false := by decide) (hnU : U ≠ "__name__" := by decide) (hdU : (U == ("__debug__" : Str)) = false := by decide)
    (hs1 : starEach [.Name T p2, .Name U p3] X.env = (false, eval (.Name T p2) X.env) :: starEach [.Name U p3] X.env := by rfl) (hs2 : starEach [.Name U p3] X.env = (false, eval (.Name U p3) X.env) :: starEach [] X.env := by rfl)
    (he : starEach [a, .Tuple [.Name T p2, .Name U p3] k p4] X.env = (false, eval a X.env) :: starEach [.Tuple [.Name T p2, .Name U p3] k p4] X.env := by rfl) (he2 : starEach [.Tuple [.Name T p2, .Name U p3] k p4] X.env = (false, eval (.Tuple [.Name T p2, .Name U p3] k p4) X.env) :: starEach [] X.env := by rfl) (hpl : (backTo pos (starEach [.Tuple [.Name T p2, .Name U p3] k p4] X.env)).any (·.1) = false := by rfl) :
    DX X W (.Call (.Name "isinstance" p) [a, .Tuple [.Name T p2, .Name U p3] k p4] [] pos) (eUn (dIsi2 Tn Un) fa) := by
  obtain ⟨t, pt, q⟩ := ha.ex
  have pT := pe_tup (x1 := k) (pos := p4) (pa_cons (pe_bltn (v := .ty Tn) (pos := p2) hgT hT hv rfl hn hd) (pa_cons (pe_bltn (v := .ty Un) (pos := p3) hgU hU hvU rfl hnU hdU) pa_nil hs2) hs1)
  refine ⟨_, pe_callB call_isiT hg hm (by decide +kernel) (pa_cons pt (pa_cons pT pa_nil he2) he) (by decide) (by decide) he hpl, fun G en F H σ Q R k => q G en F H σ _ R (k.bind fun o e1 w F1 H1 R1 s1 ow k1 => ?_)⟩
  obtain ⟨d, ed⟩ := fin_some k1
  obtain ⟨d1, e1', ed'⟩ := Option.bind_eq_some_iff.mp ed
  unfold dIsi2 at ed'
  split at ed'
  · rename_i hz
    obtain ⟨b, h1, h2⟩ := Option.bind_eq_some_iff.mp ed'
    obtain ⟨c, h3, h4⟩ := Option.bind_eq_some_iff.mp h2
    cases h4
    refine ⟨by show 2 ≤ sizeLine; decide, fun tp np => ?_⟩
    have g := Grow.alloc (o := .tup [.ty Tn, .ty Un]) R1.fh np
    refine ⟨w, tp, [.ty Tn, .ty Un], _, [.type Tn, .type Un], b || c, rfl, upd_same, .cons (.ty Tn) (.cons (.ty Un) .nil), tyX_of g.fh ((res_ok R1 ow e1').elim (fun h => .inl (h.mono g.f)) fun ⟨p, e, h⟩ => .inr ⟨p, e, h.mono g.f (by
      obtain ⟨o, ho⟩ := h.some
      rw [upd_ne (ne_of_none ho np)])⟩) hz, ?_, fin_ok R1 k1 ed g (.bl _)⟩
    refine kitAny_cons (kit_ty h1) (fun hb => ?_) fun hb => by rw [hb]; rfl
    rw [hb, Bool.false_or]
    refine kitAny_cons (kit_ty h3) (fun hc => ?_) fun hc => hc
    rw [hc]
    exact kitAny_nil
  · cases ed'
end
end
end M
set_option Elab.async false
set_option linter.all false
set_option maxRecDepth 100000
set_option autoImplicit false
/-! M9: texts of data, methods and stores that change lists, what loops walk. -/
namespace M
noncomputable section
open PySem PySem.Spec PyProof.Rows L2
/-! ### repr of a list or a tuple -/
def isSeqD : D → Bool
  | .list _ => true
  | .tuple _ => true
  | _ => false
def dRepr (d : D) : Option D := if isSeqD d && nd d && d.showable && decide (d.depth ≤ 60) && small d.shown.length then some (.str d.shown) else none
mutual
theorem nd_hasDict : ∀ d : D, nd d = true → d.hasDict = false
  | .none, _ => rfl
  | .bool _, _ => rfl
  | .int _, _ => rfl
  | .str _, _ => rfl
  | .list xs, h => by
    have := nds_hasDict xs h
    simpa [PyData.hasDict] using this
  | .tuple xs, h => by
    have := nds_hasDict xs h
    simpa [PyData.hasDict] using this
theorem nds_hasDict : ∀ ds : List D, nds ds = true → PyData.hasDictAll ds = false
  | [], _ => rfl
  | d :: ds, h => by
    have h' := Bool.and_eq_true_iff.mp h
    have a := nd_hasDict d h'.1
    have b := nds_hasDict ds h'.2
    simp [PyData.hasDictAll, a, b]
end
section
variable {X : Cx} {K : PySem.W.Frag} {F H : Hp}
def rRepr (K : PySem.W.Frag) : List V → Hp → VK → Prop := fun vs H Q => ∃ (a : Addr) (d : D), vs = [.ref a] ∧ Dp K H (.ref a) d ∧ d.hasDict = false ∧ d.showable = true ∧ d.depth ≤ 60 ∧ d.shown.length ≤ sizeLine ∧ Q (.str d.shown) H
theorem call_repr (gd : X.A.guards = some []) (hu : X.A.units + 64 < cLine) : CallR X (.builtin "repr") (rRepr X.K) := by
  intro pins s σ H vs us Q I r h
  obtain ⟨a, d, rfl, dp, h1, h2, h3, h4, q⟩ := h
  obtain ⟨u, rfl, rx⟩ := vals1 r
  cases (show u = Value.ref a from rx)
  obtain ⟨as, rd⟩ := Dp.reads I d (.ref a) (.ref a) dp rfl
  refine repr_of_reads' rd h2 (fun z => by rw [h1] at z; cases z) gd (by omega) (fun _ _ e => e) (fun h' u tk hk => ?_) h4
  have J : Inv X pins σ H { s with heap := h', toks := tk } := I.kept (t' := tk) fun b o e => hk b o e
  exact ⟨.str d.shown, H, J, ⟨u, rfl⟩, q⟩
theorem fnd_repr : FnD K (rRepr K) (f1 dRepr) := by
  intro F H xs ds q Q sF hx hg0 k
  obtain ⟨d, rfl, hg⟩ := f1_some hg0
  obtain ⟨v, rfl, hv⟩ := preps1 hx
  unfold dRepr at hg
  split at hg
  · rename_i hz
    cases hg
    simp only [Bool.and_eq_true] at hz
    obtain ⟨⟨⟨⟨z0, z1⟩, z2⟩, z3⟩, z4⟩ := hz
    have rp := hv.rep sF
    obtain ⟨a, rfl⟩ : ∃ a, v = .ref a := by
      cases d with
      | list ds => obtain ⟨p, vs, rfl, _⟩ := hv.list sF; exact ⟨p, rfl⟩
      | tuple ds => obtain ⟨p, vs, rfl, _⟩ := hv.tup sF; exact ⟨p, rfl⟩
      | _ => cases z0
    exact ⟨a, d, rfl, rp.dp z1, nd_hasDict d z1, z2, of_decide_eq_true z3, line_small z4, k _ F H (.refl sF) (.str _)⟩
  · cases hg
end
/-! ### methods of what is one's own -/
def MutD (K : PySem.W.Frag) (r : V → List V → Hp → VK → Prop) (g : D → List D → Option (D × D)) : Prop := ∀ (F H : Hp) (p : Addr) (vs : List V) (d d' q : D) (ds : List D) (Q : VK), Same F H → Own K F H p d → Reps K F vs ds → g d ds = some (d', q) → (∀ o v, Own K F (upd H p o) p d' → Rep K F v q → Q v (upd H p o)) → r (.ref p) vs H Q
def isLo : Sl → Bool
  | .ow _ (.list _) => true
  | _ => false
def methAt (i : Nat) (g : D → List D → Option (D × D)) (ds : List D) (e1 : En) : M.R A := match e1[i]? with
  | some (.ow b d) => match g d ds with
    | some (d', q) => .ok (.sh q) (e1.set i (.ow b d'))
    | none => .bad
  | _ => .bad
def eMeth (i : Nat) (g : D → List D → Option (D × D)) (fs : Ev (List A)) : Ev A := fun e => if (e[i]?.map isLo) = some true then (eHolds fs e).bind fun ds e1 => methAt i g ds e1 else .bad
section
variable {X : Cx} {W : WX} {e : Expr} {es : List Expr} {name x : Str} {apos cpos npos : Pos} {id : String} {r : V → List V → Hp → VK → Prop} {g : D → List D → Option (D × D)} {fs : Ev (List A)}
theorem holdsE_run {f : Ev (List A)} {t : TA} {G : Gd} {en : En} {F H : Hp} {σ : L2.St} {Q : List V → Hp → Prop} (q : ∀ (G : Gd) (en : En) (F H : Hp) (σ : L2.St) (Q : List V → Hp → Prop), Rel X.K G en F H σ → PA1 X W G F σ (f en) Q → t σ H Q) (R0 : Rel X.K G en F H σ)
    (h : PostE X W G F σ (fun F' d v => Reps X.K F' v d) (eHolds f en) Q) : t σ H Q := by
  refine q G en F H σ Q R0 ?_
  unfold eHolds at h
  cases z : f en with
  | bad => rw [z] at h; exact h
  | ex x e => rw [z] at h; exact h
  | ok o e =>
    rw [z] at h
    simp only [M.R.bind] at h
    intro v F' H' R' s' o'
    cases y : holds o e with
    | none => rw [y] at h; exact h.elim
    | some pr =>
      obtain ⟨d, e2⟩ := pr
      rw [y] at h
      obtain ⟨F2, R2, s2, r2⟩ := holds_ok R' o' y
      exact h v F2 H' R2 (s'.trans s2) r2
theorem isLo_at {en : En} {i : Nat} (h : (en[i]?.map isLo) = some true) : ∃ b xs, en[i]? = some (.ow b (.list xs)) := by
  cases e : en[i]? with
  | none => rw [e] at h; cases h
  | some s =>
    rw [e] at h
    cases s with
    | un => cases h
    | sh d => cases h
    | ow b d =>
      cases d with
      | list xs => exact ⟨b, xs, rfl⟩
      | _ => cases h
theorem methAt_ok {G : Gd} {e1 : En} {F1 H1 : Hp} {σ : L2.St} {Q : VK} {i : Nat} {p : Addr} {ds : List D} {vs : List V} (hg : MutD X.K r g) (R1 : Rel X.K G e1 F1 H1 σ) (hp : σ[i]? = some (some (.ref p))) (rv : Reps X.K F1 vs ds) (h : PE1 X W G F1 σ (methAt i g ds e1) Q) : r (.ref p) vs H1 Q := by
  unfold methAt at h
  cases z : e1[i]? with
  | none => rw [z] at h; exact h.elim
  | some s =>
    rw [z] at h
    cases s with
    | un => exact h.elim
    | sh d => exact h.elim
    | ow b d =>
      simp only at h
      obtain ⟨p', g1, g2, g3⟩ := R1.owV z
      rw [hp] at g1
      cases g1
      cases y : g d ds with
      | none => rw [y] at h; exact h.elim
      | some pr =>
        obtain ⟨d', q⟩ := pr
        rw [y] at h
        exact hg F1 H1 p vs d d' q ds Q R1.fh g3 rv y fun o v ow rq => h v F1 _ (R1.mut z hp ow) (.refl _) rq
/-- x.name(e, ..) of a list that is one's own -/
theorem dx_methL (i : Nat) (slot : Slot "list" name id) (hty : typeOf (.builtin id) = pure (.type "method_descriptor")) (hm : MtR X id r) (hg : MutD X.K r g) (ha : DA X W (e :: es) fs)
    (hN : X.N[i]? = some x := by rfl) (hv : Vis X.env.scope x := by first | exact Or.inl rfl | exact Or.inr (Or.inl rfl) | exact Or.inr (Or.inr rfl)) (hd : (x == ("__debug__" : Str)) = false := by decide) (hcd : (x == ("__classdict__" : Str)) = false := by decide)
    (hb : attributeBase (.Name x npos) name X.env (eval (.Name x npos) X.env) = eval (.Name x npos) X.env := by rfl)
    (hfew : ((backTo cpos (starEach (e :: es) X.env)).all (fun x => !x.1) && (backToKw cpos (keywordEach [] X.env)).all (fun x => x.1.isSome) && decide ((e :: es).length + ([] : List Keyword).length + (if ([] : List Keyword).isEmpty then 0 else 1) < 30)) = true := by rfl)
    (h1 : starEach (e :: es) X.env = (false, eval e X.env) :: starEach es X.env := by rfl) (hp : (backTo cpos (starEach es X.env)).any (·.1) = false := by rfl) (hln : (apos.endLine == cpos.line) = true := by rfl) :
    DX X W (.Call (.Attribute (.Name x npos) name apos) (e :: es) [] cpos) (eMeth i g fs) := by
  obtain ⟨t, pt, q⟩ := ha.ex
  refine ⟨_, pe_bm PySem.F.plainAttrs_list slot hty hm (pe_var hN hv hd hcd) pt hb hfew hln h1 hp, fun G en F H σ Q R h => ?_⟩
  unfold eMeth at h
  split at h
  · rename_i hl
    obtain ⟨b, xs, e0⟩ := isLo_at hl
    obtain ⟨p, g1, g2, g3⟩ := R.owV e0
    obtain ⟨ws, hw, _⟩ := g3
    refine ⟨.ref p, g1, .inl ⟨rfl, ws, .inl (.inl hw)⟩, holdsE_run q R (h.bind fun ds e1 vs F1 H1 R1 s1 o1 k1 => methAt_ok hg R1 g1 o1 k1)⟩
  · exact h.elim
theorem dx_methL0 (i : Nat) (slot : Slot "list" name id) (hty : typeOf (.builtin id) = pure (.type "method_descriptor")) (hm : MtR X id r) (hg : MutD X.K r g)
    (hN : X.N[i]? = some x := by rfl) (hv : Vis X.env.scope x := by first | exact Or.inl rfl | exact Or.inr (Or.inl rfl) | exact Or.inr (Or.inr rfl)) (hd : (x == ("__debug__" : Str)) = false := by decide) (hcd : (x == ("__classdict__" : Str)) = false := by decide)
    (hb : attributeBase (.Name x npos) name X.env (eval (.Name x npos) X.env) = eval (.Name x npos) X.env := by rfl) (hln : (apos.endLine == cpos.line) = true := by rfl) :
    DX X W (.Call (.Attribute (.Name x npos) name apos) [] [] cpos) (eMeth i g eNil) := by
  refine ⟨_, pe_bm0 PySem.F.plainAttrs_list slot hty hm (pe_var hN hv hd hcd) hb hln, fun G en F H σ Q R h => ?_⟩
  unfold eMeth at h
  split at h
  · rename_i hl
    obtain ⟨b, xs, e0⟩ := isLo_at hl
    obtain ⟨p, g1, g2, g3⟩ := R.owV e0
    obtain ⟨ws, hw, _⟩ := g3
    exact ⟨.ref p, g1, .inl ⟨rfl, ws, .inl (.inl hw)⟩, methAt_ok (W := W) hg R g1 (.nil : Reps X.K F [] []) h⟩
  · exact h.elim
end
def gAppend : D → List D → Option (D × D)
  | .list xs, [y] => if small xs.length then some (.list (xs ++ [y]), .none) else none
  | _, _ => none
def gPop : D → List D → Option (D × D)
  | .list xs, [] => (xs[xs.length - 1]?).bind fun y => some (.list xs.dropLast, y)
  | _, _ => none
def gPopAt : D → List D → Option (D × D)
  | .list xs, [.int i] => if in63 i then (seqIndex? i xs.length).bind fun k => (xs[k]?).bind fun y => some (.list (xs.eraseIdx k), y) else none
  | _, _ => none
def gReverse : D → List D → Option (D × D)
  | .list xs, [] => some (.list xs.reverse, .none)
  | _, _ => none
def gClear : D → List D → Option (D × D)
  | .list xs, [] => some (.list [], .none)
  | _, _ => none
def gInsert : D → List D → Option (D × D)
  | .list xs, [.int i, y] => if up63 i && small xs.length then some (.list (xs.take i.toNat ++ [y] ++ xs.drop i.toNat), .none) else none
  | _, _ => none
section
variable {K : PySem.W.Frag}
theorem Reps.one_of {F : Hp} {vs : List V} {d : D} (r : Reps K F vs [d]) : ∃ v, vs = [v] ∧ Rep K F v d := by
  cases r with
  | cons a t => cases t; exact ⟨_, rfl, a⟩
theorem Reps.dropLast {F : Hp} {vs : List V} {ds : List D} (r : Reps K F vs ds) : Reps K F vs.dropLast ds.dropLast := by
  rw [List.dropLast_eq_take, List.dropLast_eq_take, r.length]
  exact r.take _
theorem Reps.eraseIdx {F : Hp} : ∀ {vs : List V} {ds : List D} (k : Nat), Reps K F vs ds → Reps K F (vs.eraseIdx k) (ds.eraseIdx k)
  | _, _, _, .nil => .nil
  | _, _, 0, .cons _ t => t
  | _, _, k + 1, .cons a t => .cons a (Reps.eraseIdx k t)
theorem mut_append : MutD K rAppend gAppend := by
  intro F H p vs d d' q ds Q sF ow rv hg k
  cases d with
  | list xs =>
    obtain ⟨ws, hw, rw'⟩ := ow
    cases ds with
    | nil => cases hg
    | cons y ds => cases ds with
      | cons => cases hg
      | nil =>
        obtain ⟨v, rfl, r1⟩ := rv.one_of
        have hg : (if small xs.length = true then some (PyData.list (xs ++ [y]), PyData.none) else none) = some (d', q) := hg
        split at hg
        · rename_i hz
          cases hg
          exact ⟨p, ws, v, rfl, rfl, hw, by rw [rw'.length]; exact line_smallLt hz, k _ _ ⟨_, upd_same, rw'.append (.cons r1 .nil)⟩ .non⟩
        · cases hg
  | _ => cases hg
theorem mut_pop : MutD K rPop gPop := by
  intro F H p vs d d' q ds Q sF ow rv hg k
  cases d with
  | list xs =>
    obtain ⟨ws, hw, rw'⟩ := ow
    cases ds with
    | cons => cases hg
    | nil =>
      cases rv
      obtain ⟨y, h1, h2⟩ := Option.bind_eq_some_iff.mp hg
      cases h2
      obtain ⟨v, h3, h4⟩ := rw'.get h1
      exact ⟨p, ws, v, rfl, rfl, hw, by rw [rw'.length]; exact h3, k _ _ ⟨_, upd_same, rw'.dropLast⟩ h4⟩
  | _ => cases hg
theorem mut_popAt : MutD K rPopAt gPopAt := by
  intro F H p vs d d' q ds Q sF ow rv hg k
  cases d with
  | list xs =>
    obtain ⟨ws, hw, rw'⟩ := ow
    cases ds with
    | nil => cases hg
    | cons y ds => cases ds with
      | cons => cases y <;> cases hg
      | nil =>
        obtain ⟨v, rfl, r1⟩ := rv.one_of
        cases y with
        | int i =>
          cases r1
          have hg : (if in63 i = true then (seqIndex? i xs.length).bind fun k => (xs[k]?).bind fun y => some (PyData.list (xs.eraseIdx k), y) else none) = some (d', q) := hg
          split at hg
          · rename_i hz
            obtain ⟨b1, b2⟩ := of_decide_eq_true ((in63_d _).symm.trans hz)
            obtain ⟨j, h1, h2⟩ := Option.bind_eq_some_iff.mp hg
            obtain ⟨y, h3, h4⟩ := Option.bind_eq_some_iff.mp h2
            cases h4
            obtain ⟨v, h5, h6⟩ := rw'.get h3
            exact ⟨p, ws, i, j, v, rfl, rfl, hw, b1, b2, by rw [rw'.length]; exact h1, h5, k _ _ ⟨_, upd_same, rw'.eraseIdx j⟩ h6⟩
          · cases hg
        | _ => cases hg
  | _ => cases hg
theorem mut_reverse : MutD K rReverse gReverse := by
  intro F H p vs d d' q ds Q sF ow rv hg k
  cases d with
  | list xs =>
    obtain ⟨ws, hw, rw'⟩ := ow
    cases ds with
    | cons => cases hg
    | nil => cases rv; cases hg; exact ⟨p, ws, rfl, rfl, hw, k _ _ ⟨_, upd_same, rw'.reverse⟩ .non⟩
  | _ => cases hg
theorem mut_clear : MutD K rClear gClear := by
  intro F H p vs d d' q ds Q sF ow rv hg k
  cases d with
  | list xs =>
    obtain ⟨ws, hw, rw'⟩ := ow
    cases ds with
    | cons => cases hg
    | nil => cases rv; cases hg; exact ⟨p, ws, rfl, rfl, hw, k _ _ ⟨_, upd_same, .nil⟩ .non⟩
  | _ => cases hg
theorem mut_insert : MutD K (fun x vs H Q => ∃ (l : Addr) (xs : List V) (i : Int) (y : V), x = .ref l ∧ vs = [.int i, y] ∧ H l = some (.lst xs) ∧ xs.length < sizeLine ∧ 0 ≤ i ∧ i < 2 ^ 63 ∧ Q .non (upd H l (.lst (xs.take i.toNat ++ [y] ++ xs.drop i.toNat)))) gInsert := by
  intro F H p vs d d' q ds Q sF ow rv hg k
  cases d with
  | list xs =>
    obtain ⟨ws, hw, rw'⟩ := ow
    cases rv with
    | nil => cases hg
    | @cons v vs' y ds' r1 t =>
      cases t with
      | nil => cases y <;> cases hg
      | @cons v2 vs2 y2 ds2 r2 t =>
        cases t with
        | cons => cases y <;> cases hg
        | nil =>
          cases y with
          | int i =>
            cases r1
            have hg : (if (up63 i && small xs.length) = true then some (PyData.list (xs.take i.toNat ++ [y2] ++ xs.drop i.toNat), PyData.none) else none) = some (d', q) := hg
            split at hg
            · rename_i hz
              obtain ⟨z1, z2⟩ := Bool.and_eq_true_iff.mp hz
              obtain ⟨b1, b2⟩ := of_decide_eq_true ((up63_d _).symm.trans z1)
              cases hg
              exact ⟨p, ws, i, v2, rfl, rfl, hw, by rw [rw'.length]; exact line_smallLt z2, b1, b2, k _ _ ⟨_, upd_same, ((rw'.take _).append (.cons r2 .nil)).append (rw'.drop _)⟩ .non⟩
            · cases hg
          | _ => cases hg
  | _ => cases hg
end
/-! ### x[i] = e, x[i] op= e -/
def setAt (i : Nat) (d : D) (a : A) (e2 : En) : SR := match res e2 a, e2[i]? with
  | some (.int k), some (.ow b (.list xs)) => match ixN xs.length k with
    | some j => .nx (e2.set i (.ow b (.list (xs.set j d))))
    | none => .bad
  | _, _ => .bad
def sSetIx (i : Nat) (fe fi : Ev A) : En → SR := fun e => (eHold fe e).st fun d e1 => if (e1[i]?.map isLo) = some true then (fi e1).st fun a e2 => setAt i d a e2 else .bad
section
variable {X : Cx} {W : WX} {a ie : Expr} {x : Str} {pos tpos npos : Pos} {fa fi : Ev A}
theorem setAt_ok {G : Gd} {e2 : En} {F2 H2 : Hp} {σ : L2.St} {i : Nat} {p : Addr} {d : D} {v w : V} {o : A} {D' : Ends} (R2 : Rel X.K G e2 F2 H2 σ) (hp : σ[i]? = some (some (.ref p))) (rd : Rep X.K F2 v d) (ow : AOk X.K F2 σ o w) (h : PostS X W G F2 (setAt i d o e2) D') : rSetL (.ref p) w v H2 fun H3 => D'.nx σ H3 := by
  unfold setAt at h
  split at h
  · rename_i k b xs z1 z2
    obtain ⟨p', g1, g2, ws, g3, g4⟩ := R2.owV z2
    rw [hp] at g1
    cases g1
    cases y : ixN xs.length k with
    | none => rw [y] at h; exact h.elim
    | some j =>
      rw [y] at h
      exact ⟨p, ws, k, j, rfl, (res_ok R2 ow z1).int, g3, by rw [g4.length]; exact y, h F2 _ σ (R2.mut z2 hp ⟨_, upd_same, g4.set rd j⟩) (.refl _)⟩
  · exact h.elim
theorem ds_setIx (i : Nat) (ha : DX X W a fa) (hi : DX X W ie fi) (hN : X.N[i]? = some x := by rfl) (hv : Vis X.env.scope x := by first | exact Or.inl rfl | exact Or.inr (Or.inl rfl) | exact Or.inr (Or.inr rfl)) (hd : (x == ("__debug__" : Str)) = false := by decide) (hcd : (x == ("__classdict__" : Str)) = false := by decide)
    (hs : swapsWithSole [.Subscript (.Name x npos) ie tpos] a pos.line X.env = pure false := by rfl) (hw : swappedStores [.Subscript (.Name x npos) ie tpos] a X.env = pure none := by rfl) (h1 : (assignEach [.Subscript (.Name x npos) ie tpos] X.env).map (·.2) = [assign (.Subscript (.Name x npos) ie tpos) X.env] := by rfl)
    (has : ∀ v, assign (.Subscript (.Name x npos) ie tpos) X.env v = (do
      let ov ← holding [v] (eval (.Name x npos) X.env)
      let iv ← holding [v, ov] (eval ie X.env)
      standAt tpos
      holding [v, ov, iv] (setItem ov iv v)
      release [v, ov, iv] []) := by intro _; rfl) :
    DS X W (.Assign [.Subscript (.Name x npos) ie tpos] a pos) (sSetIx i fa fi) := by
  obtain ⟨t, pt, q⟩ := ha.ex
  obtain ⟨ti, pi, qi⟩ := hi.ex
  refine ⟨_, ps_asg pt (pg_sub (pe_var hN hv hd hcd) pi set_list has) hs hw h1, fun G en F H σ D R h => hold_run q R (h.of fun d e1 v F1 H1 R1 s1 o1 k1 => ?_)⟩
  split at k1
  · rename_i hl
    obtain ⟨b, xs, e0⟩ := isLo_at hl
    obtain ⟨p, g1, g2, g3⟩ := R1.owV e0
    exact ⟨.ref p, g1, qi G e1 F1 H1 σ _ R1 (k1.of fun o e2 w F2 H2 R2 s2 o2 k2 => setAt_ok (W := W) R2 g1 (o1.mono s2) o2 k2)⟩
  · exact k1.elim
end
end
end M
set_option Elab.async false
set_option linter.all false
set_option maxRecDepth 100000
set_option autoImplicit false
/-! M10: stores by an operator, what loops walk. -/
namespace M
noncomputable section
open PySem PySem.Spec PyProof.Rows L2
def rGetL (K : PySem.W.Frag) : V → V → Hp → VK → Prop := fun x y H Q => ∃ p xs i v, x = .ref p ∧ y = .int i ∧ H p = some (.lst xs) ∧ 0 ≤ i ∧ xs[i.toNat]? = some v ∧ Q v H
section
variable {X : Cx}
theorem get_list : PGet X (rGetL X.K) := by
  intro pins s σ H o i ov iv Q I ro ri h
  obtain ⟨p, xs, k, v, rfl, rfl, hp, h0, hx, q⟩ := h
  cases ro
  obtain ⟨t, rfl⟩ := ri
  obtain ⟨its, r, pl, hz⟩ := I.list (.inl (.inl hp))
  obtain ⟨u, hu, ru⟩ := r.get hx
  have hl := r.length
  have hn := line63
  have hlt : k.toNat < xs.length := (List.getElem?_eq_some_iff.mp hx).1
  exact wpAny_getItem_list pl.isList h0 (by omega) (by simpa using hu) ⟨v, H, I, ru, q⟩
end
def ipOp (g : D → D → Option D) (r : TIp) (K : PySem.W.Frag) : Prop := IpD K r g
theorem ipd_add {K : PySem.W.Frag} : IpD K (ipI fun i j => i + j) (fun a b => match a, b with | .int x, .int y => some (.int (x + y)) | _, _ => none) := by
  intro F H x y d e q Q sF hx hy hg k
  cases d <;> cases e <;> try exact bad_none hg
  cases hg
  exact ⟨_, _, hx.int, hy.int, k _ F H (.refl sF) (.int _)⟩
theorem ipd_sub {K : PySem.W.Frag} : IpD K (ipI fun i j => i - j) (fun a b => match a, b with | .int x, .int y => some (.int (x - y)) | _, _ => none) := by
  intro F H x y d e q Q sF hx hy hg k
  cases d <;> cases e <;> try exact bad_none hg
  cases hg
  exact ⟨_, _, hx.int, hy.int, k _ F H (.refl sF) (.int _)⟩
/-- any operator in the place of its own (for what is never changed: numbers, texts, tuples) -/
def gAdd (a b : D) : Option D := match a, b with | .int x, .int y => some (.int (x + y)) | _, _ => none
def gSub' (a b : D) : Option D := match a, b with | .int x, .int y => some (.int (x - y)) | _, _ => none
def augAt (i : Nat) (g : D → D → Option D) (k : A) (y : A) (old : D) (e3 : En) : SR := match (res e3 y).bind fun d => g old d with
  | some z => setAt i z k e3
  | none => .bad
def getAt (i : Nat) (k : A) (e2 : En) : Option D := match res e2 k, e2[i]? with
  | some (.int j), some (.ow _ (.list xs)) => if 0 ≤ j then xs[j.toNat]? else none
  | _, _ => none
def sAugIx (i : Nat) (g : D → D → Option D) (fi fe : Ev A) : En → SR := fun e => if (e[i]?.map isLo) = some true then (fi e).st fun k e1 => match getAt i k e1 with
  | some old => (fe e1).st fun y e2 => augAt i g k y old e2
  | none => .bad else .bad
section
variable {X : Cx} {W : WX} {a ie : Expr} {x : Str} {pos tpos npos : Pos} {fa fi : Ev A}
theorem ds_augIx (i : Nat) {op : Operator} {r : TIp} {g : D → D → Option D} (ho : PIp X op r) (hg : IpD X.K r g) (ha : DX X W a fa) (hi : DX X W ie fi) (hN : X.N[i]? = some x := by rfl) (hv : Vis X.env.scope x := by first | exact Or.inl rfl | exact Or.inr (Or.inl rfl) | exact Or.inr (Or.inr rfl)) (hd : (x == ("__debug__" : Str)) = false := by decide) (hcd : (x == ("__classdict__" : Str)) = false := by decide)
    (has : ∀ ov iv new, augStore ie ov iv new = (do holding [new, ov, iv] (setItem ov iv new); release [new, ov, iv] []; pure .next) := by intros; rfl) :
    DS X W (.AugAssign (.Subscript (.Name x npos) ie tpos) op a pos) (sAugIx i g fi fa) := by
  obtain ⟨t, pt, q⟩ := ha.ex
  obtain ⟨ti, pi, qi⟩ := hi.ex
  refine ⟨_, ps_augS (pe_var hN hv hd hcd) pi get_list pt ho set_list has, fun G en F H σ D R h => ?_⟩
  unfold sAugIx at h
  split at h
  · rename_i hl
    obtain ⟨b, xs, e0⟩ := isLo_at hl
    obtain ⟨p, g1, g2, g3⟩ := R.owV e0
    refine ⟨.ref p, g1, qi G en F H σ _ R (h.of fun k e1 w F1 H1 R1 s1 o1 k1 => ?_)⟩
    cases z : getAt i k e1 with
    | none => rw [z] at k1; exact k1.elim
    | some old =>
      rw [z] at k1
      unfold getAt at z
      split at z
      · rename_i j b' ys y1 y2
        split at z
        · rename_i h0
          obtain ⟨p', w1, w2, ws, w3, w4⟩ := R1.owV y2
          rw [g1] at w1
          cases w1
          obtain ⟨v, v1, v2⟩ := w4.get z
          refine ⟨p, ws, j, v, rfl, (res_ok R1 o1 y1).int, w3, h0, v1, q G e1 F1 H1 σ _ R1 (k1.of fun o e2 u F2 H2 R2 s2 o2 k2 => ?_)⟩
          unfold augAt at k2
          cases y : ((res e2 o).bind fun d => g old d) with
          | none => rw [y] at k2; exact k2.elim
          | some nw =>
            rw [y] at k2
            obtain ⟨d1, c1, c2⟩ := Option.bind_eq_some_iff.mp y
            refine hg F2 H2 v u old d1 nw _ R2.fh (.inl (v2.mono s2)) (res_ok R2 o2 c1) c2 fun nv F3 H3 gr r3 => ?_
            have R3 := R2.grow gr
            exact setAt_ok (W := W) R3 g1 r3 ((o1.mono s2).mono gr.f) (PostS.mono k2 gr.f)
        · cases z
      · cases z
  · exact h.elim
end
/-! ### what loops walk -/
def iL (fa : Ev A) : Ev (List D) := fun e => (eHold fa e).bind fun d e1 => match d with
  | .list ds => .ok ds e1
  | _ => .bad
def iT (fa : Ev A) : Ev (List D) := fun e => (eHold fa e).bind fun d e1 => match d with
  | .tuple ds => .ok ds e1
  | _ => .bad
def iS (fa : Ev A) : Ev (List D) := fun e => (eHold fa e).bind fun d e1 => match d with
  | .list ds => .ok ds e1
  | .tuple ds => .ok ds e1
  | _ => .bad
def rangeD (lo : Int) (n : Nat) : List D := (List.range n).map fun k => .int (lo + (k : Nat))
/-- sealed, that the kernel does not reckon here -/
noncomputable def okRS : {f : Int → Bool // ∀ i, f i = decide (-(2 ^ 62) ≤ i ∧ i < 2 ^ 62)} := Classical.choice ⟨⟨fun i => decide (-(2 ^ 62) ≤ i ∧ i < 2 ^ 62), fun _ => rfl⟩⟩
noncomputable def okR (i : Int) : Bool := okRS.1 i
theorem okR_d (i : Int) : okR i = decide (-(2 ^ 62) ≤ i ∧ i < 2 ^ 62) := okRS.2 i
noncomputable def iR1 (fs : Ev (List A)) : Ev (List D) := fun e => (fs e).bind fun as e1 => match ress e1 as with
  | some [.int n] => if okR n then .ok (rangeD 0 n.toNat) e1 else .bad
  | _ => .bad
noncomputable def iR2 (fs : Ev (List A)) : Ev (List D) := fun e => (fs e).bind fun as e1 => match ress e1 as with
  | some [.int m, .int n] => if okR m && okR n then .ok (rangeD m (n - m).toNat) e1 else .bad
  | _ => .bad
def enumD : Nat → List D → List D
  | _, [] => []
  | k, d :: ds => .tuple [.int k, d] :: enumD (k + 1) ds
def zipD : List D → List D → List D
  | x :: xs, y :: ys => .tuple [x, y] :: zipD xs ys
  | _, _ => []
def iE (fs : Ev (List A)) : Ev (List D) := fun e => (eHolds fs e).bind fun ds e1 => match ds with
  | [.list xs] => .ok (enumD 0 xs) e1
  | _ => .bad
def iZ (fs : Ev (List A)) : Ev (List D) := fun e => (eHolds fs e).bind fun ds e1 => match ds with
  | [.list xs, .list ys] => .ok (zipD xs ys) e1
  | [.tuple xs, .tuple ys] => .ok (zipD xs ys) e1
  | _ => .bad
section
variable {K : PySem.W.Frag} {F : Hp}
theorem itOk_l {a : Addr} {vs : List V} {ds : List D} (h : SqL K F a vs) (r : Reps K F vs ds) : ItOk K (Itl K a) F ds := by
  intro i F1 H1 s1 s2
  have hs : SqL K H1 a vs := (s1.trans s2).seq h
  refine ⟨fun d e => ?_, fun e => ⟨vs, hs, by rw [r.length]; exact List.getElem?_eq_none_iff.mp e⟩⟩
  obtain ⟨v, h1, h2⟩ := r.get e
  refine ⟨⟨vs, v, hs, h1⟩, fun x H2 hy => ?_⟩
  obtain ⟨rfl, hy⟩ := hy
  have ex := hy vs hs
  rw [h1] at ex
  cases ex
  exact ⟨F1, .refl s2, h2.mono s1⟩
theorem itOk_t {a : Addr} {vs : List V} {ds : List D} (h : SqT K F a vs) (r : Reps K F vs ds) : ItOk K (Itt K a) F ds := by
  intro i F1 H1 s1 s2
  have hs : SqT K H1 a vs := SqT.mono (s1.trans s2) h
  refine ⟨fun d e => ?_, fun e => ⟨vs, hs, by rw [r.length]; exact List.getElem?_eq_none_iff.mp e⟩⟩
  obtain ⟨v, h1, h2⟩ := r.get e
  refine ⟨⟨vs, v, hs, h1⟩, fun x H2 hy => ?_⟩
  obtain ⟨rfl, hy⟩ := hy
  have ex := hy vs hs
  rw [h1] at ex
  cases ex
  exact ⟨F1, .refl s2, h2.mono s1⟩
theorem rangeD_get {lo : Int} {n i : Nat} : (rangeD lo n)[i]? = if i < n then some (.int (lo + (i : Nat))) else none := by
  unfold rangeD
  rw [List.getElem?_map]
  by_cases h : i < n
  · rw [if_pos h, List.getElem?_range h]; rfl
  · rw [if_neg h, List.getElem?_eq_none (by rw [List.length_range]; omega)]; rfl
theorem itOk_r {lo : Int} {n : Nat} : ItOk K (Itr lo n) F (rangeD lo n) := by
  intro i F1 H1 s1 s2
  rw [rangeD_get]
  refine ⟨fun d e => ?_, fun e => ?_⟩
  · split at e
    · rename_i h
      cases e
      refine ⟨h, fun x H2 hy => ?_⟩
      obtain ⟨rfl, rfl⟩ := hy
      exact ⟨F1, .refl s2, .int _⟩
    · cases e
  · split at e
    · cases e
    · rename_i h; exact Nat.le_of_not_lt h
theorem enumD_get : ∀ (k : Nat) (ds : List D) (i : Nat), (enumD k ds)[i]? = (ds[i]?).map fun d => .tuple [.int ((k + i : Nat) : Int), d]
  | k, [], i => by simp [enumD]
  | k, d :: ds, 0 => by simp [enumD]
  | k, d :: ds, i + 1 => by
    show (enumD (k + 1) ds)[i]? = _
    rw [enumD_get (k + 1) ds i]
    have : k + 1 + i = k + (i + 1) := by omega
    rw [this]
    rfl
theorem zipD_get : ∀ (xs ys : List D) (i : Nat), (zipD xs ys)[i]? = (xs[i]?).bind fun x => (ys[i]?).bind fun y => some (.tuple [x, y])
  | [], ys, i => by simp [zipD]
  | x :: xs, [], i => by
    show ([] : List D)[i]? = _
    cases h : (x :: xs)[i]? <;> simp
  | x :: xs, y :: ys, 0 => by simp [zipD]
  | x :: xs, y :: ys, i + 1 => by
    show (zipD xs ys)[i]? = _
    rw [zipD_get xs ys i]
    rfl
theorem itOk_e {a : Addr} {vs : List V} {ds : List D} (h : SqL K F a vs) (r : Reps K F vs ds) : ItOk K (Ite K a) F (enumD 0 ds) := by
  intro i F1 H1 s1 s2
  have hs : SqL K H1 a vs := (s1.trans s2).seq h
  rw [enumD_get]
  refine ⟨fun d e => ?_, fun e => ⟨vs, hs, ?_⟩⟩
  · cases q : ds[i]? with
    | none => rw [q] at e; cases e
    | some d0 =>
      rw [q] at e
      cases e
      obtain ⟨v, h1, h2⟩ := r.get q
      refine ⟨⟨vs, v, hs, h1⟩, fun x H2 hy => ?_⟩
      obtain ⟨T, y, rfl, nT, rfl, hy⟩ := hy
      have ex := hy vs hs
      rw [h1] at ex
      cases ex
      have g := Grow.alloc (o := .tup [.int (i : Nat), v]) s2 nT
      refine ⟨_, g, .tup (.inl (.inl upd_same)) (.cons ?_ (.cons (h2.mono (s1.trans g.f)) .nil))⟩
      rw [Nat.zero_add]
      exact .int _
  · cases q : ds[i]? with
    | none => rw [r.length]; exact List.getElem?_eq_none_iff.mp q
    | some d0 => rw [q] at e; cases e
theorem itOk_z {a b : Addr} {vs ws : List V} {ds es : List D} (h : SqL K F a vs) (r : Reps K F vs ds) (h' : SqL K F b ws) (r' : Reps K F ws es) : ItOk K (Itz K a b) F (zipD ds es) := by
  intro i F1 H1 s1 s2
  have hs : SqL K H1 a vs := (s1.trans s2).seq h
  have hs' : SqL K H1 b ws := (s1.trans s2).seq h'
  rw [zipD_get]
  refine ⟨fun d e => ?_, fun e => ⟨vs, ws, hs, hs', ?_⟩⟩
  · obtain ⟨x, q1, e⟩ := Option.bind_eq_some_iff.mp e
    obtain ⟨y, q2, e⟩ := Option.bind_eq_some_iff.mp e
    cases e
    obtain ⟨v, h1, h2⟩ := r.get q1
    obtain ⟨w, h3, h4⟩ := r'.get q2
    refine ⟨⟨vs, ws, v, w, hs, hs', h1, h3⟩, fun x H2 hy => ?_⟩
    obtain ⟨T, y1, y2, rfl, nT, rfl, hy1, hy2⟩ := hy
    have ex := hy1 vs hs
    rw [h1] at ex
    cases ex
    have ey := hy2 ws hs'
    rw [h3] at ey
    cases ey
    have g := Grow.alloc (o := .tup [v, w]) s2 nT
    exact ⟨_, g, .tup (.inl (.inl upd_same)) (.cons (h2.mono (s1.trans g.f)) (.cons (h4.mono (s1.trans g.f)) .nil))⟩
  · rw [r.length, r'.length]
    cases q1 : ds[i]? with
    | none => exact .inl (List.getElem?_eq_none_iff.mp q1)
    | some x =>
      cases q2 : es[i]? with
      | none => exact .inr (List.getElem?_eq_none_iff.mp q2)
      | some y => rw [q1, q2] at e; cases e
theorem itOk_zT {a b : Addr} {vs ws : List V} {ds es : List D} (h : SqT K F a vs) (r : Reps K F vs ds) (h' : SqT K F b ws) (r' : Reps K F ws es) : ItOk K (RZ.ItzT K a b) F (zipD ds es) := by
  intro i F1 H1 s1 s2
  have hs : SqT K H1 a vs := SqT.mono (s1.trans s2) h
  have hs' : SqT K H1 b ws := SqT.mono (s1.trans s2) h'
  rw [zipD_get]
  refine ⟨fun d e => ?_, fun e => ⟨vs, ws, hs, hs', ?_⟩⟩
  · obtain ⟨x, q1, e⟩ := Option.bind_eq_some_iff.mp e
    obtain ⟨y, q2, e⟩ := Option.bind_eq_some_iff.mp e
    cases e
    obtain ⟨v, h1, h2⟩ := r.get q1
    obtain ⟨w, h3, h4⟩ := r'.get q2
    refine ⟨⟨vs, ws, v, w, hs, hs', h1, h3⟩, fun x H2 hy => ?_⟩
    obtain ⟨T, y1, y2, rfl, nT, rfl, hy1, hy2⟩ := hy
    have ex := hy1 vs hs
    rw [h1] at ex
    cases ex
    have ey := hy2 ws hs'
    rw [h3] at ey
    cases ey
    have g := Grow.alloc (o := .tup [v, w]) s2 nT
    exact ⟨_, g, .tup (.inl (.inl upd_same)) (.cons (h2.mono (s1.trans g.f)) (.cons (h4.mono (s1.trans g.f)) .nil))⟩
  · rw [r.length, r'.length]
    cases q1 : ds[i]? with
    | none => exact .inl (List.getElem?_eq_none_iff.mp q1)
    | some x =>
      cases q2 : es[i]? with
      | none => exact .inr (List.getElem?_eq_none_iff.mp q2)
      | some y => rw [q1, q2] at e; cases e
end
section
variable {X : Cx} {W : WX} {tg a b : Expr} {fa fb : Ev A} {fs : Ev (List A)} {p pos tpos : Pos}
theorem holdI_run {f : Ev A} {t : TE} {G : Gd} {en : En} {F H : Hp} {σ : L2.St} {Q : VK} {R' : It → Hp → Prop} {g : D → En → M.R (List D)} (q : ∀ (G : Gd) (en : En) (F H : Hp) (σ : L2.St) (Q : VK), Rel X.K G en F H σ → PE1 X W G F σ (f en) Q → t σ H Q) (R0 : Rel X.K G en F H σ)
    (h : PostE X W G F σ (fun F' ds J => ItOk X.K J F' ds) ((eHold f en).bind g) R') (k : ∀ d e v F' H', Rel X.K G e F' H' σ → Same F F' → Rep X.K F' v d → PostE X W G F' σ (fun F' ds J => ItOk X.K J F' ds) (g d e) R' → Q v H') : t σ H Q :=
  hold_run q R0 (PostE.bind h k)
theorem di_list (ha : DX X W a fa) : DI X W tg a (iL fa) := by
  obtain ⟨t, pt, q⟩ := ha.ex
  refine ⟨_, pi_list pt, fun G en F H σ R' R h => holdI_run q R h fun d e v F1 H1 R1 s1 rp k => ?_⟩
  cases d with
  | list ds =>
    cases rp with
    | lst hs r => exact ⟨_, rfl, ⟨_, R1.fh.seq hs⟩, k _ F1 H1 R1 (.refl _) (itOk_l hs r)⟩
  | _ => exact k.elim
theorem di_tup (ha : DX X W a fa) : DI X W tg a (iT fa) := by
  obtain ⟨t, pt, q⟩ := ha.ex
  refine ⟨_, pi_tup pt, fun G en F H σ R' R h => holdI_run q R h fun d e v F1 H1 R1 s1 rp k => ?_⟩
  cases d with
  | tuple ds =>
    cases rp with
    | tup hs r => exact ⟨_, rfl, ⟨_, SqT.mono R1.fh hs⟩, k _ F1 H1 R1 (.refl _) (itOk_t hs r)⟩
  | _ => exact k.elim
theorem di_r1 (ha : DA X W [a] fs) (hm : X.mg "range" = none) (hg : Gl X "range" := by rfl) (hs : starEach [a] X.env = [(false, eval a X.env)] := by rfl) : DI X W tg (.Call (.Name "range" p) [a] [] pos) (iR1 fs) := by
  obtain ⟨t, pt, q⟩ := ha.ex
  refine ⟨_, pi_range1 hg hm pt hs, fun G en F H σ R' R h => q G en F H σ _ R (PostE.bind h fun as e vs F1 H1 R1 s1 o1 k => ?_)⟩
  cases z : ress e as with
  | none => rw [z] at k; exact k.elim
  | some l =>
    rw [z] at k
    have pr := ress_ok R1 o1 z
    cases l with
    | nil => exact k.elim
    | cons d l =>
      cases l with
      | cons => cases d <;> exact k.elim
      | nil =>
        obtain ⟨v, rfl, hv⟩ := preps1 pr
        cases d with
        | int n =>
          simp only at k
          split at k
          · rename_i hz
            obtain ⟨b1, b2⟩ := of_decide_eq_true ((okR_d _).symm.trans hz)
            cases hv.int
            exact ⟨n, rfl, b1, b2, k _ F1 H1 R1 (.refl _) itOk_r⟩
          · exact k.elim
        | _ => exact k.elim
theorem di_r2 (ha : DA X W [a, b] fs) (hm : X.mg "range" = none) (hg : Gl X "range" := by rfl) (hs : starEach [a, b] X.env = [(false, eval a X.env), (false, eval b X.env)] := by rfl) (hs2 : starEach [b] X.env = [(false, eval b X.env)] := by rfl) : DI X W tg (.Call (.Name "range" p) [a, b] [] pos) (iR2 fs) := by
  obtain ⟨t, pt, q⟩ := ha.ex
  refine ⟨_, pi_range2 hg hm pt hs hs2, fun G en F H σ R' R h => q G en F H σ _ R (PostE.bind h fun as e vs F1 H1 R1 s1 o1 k => ?_)⟩
  unfold iR2 at *
  cases z : ress e as with
  | none => rw [z] at k; exact k.elim
  | some l =>
    rw [z] at k
    have pr := ress_ok R1 o1 z
    have key : ∃ m n, l = [.int m, .int n] ∧ (okR m && okR n) = true := by
      split at k
      · rename_i m n h1
        cases h1
        split at k
        · rename_i hz; exact ⟨m, n, rfl, hz⟩
        · exact k.elim
      · exact k.elim
    obtain ⟨m, n, rfl, hz⟩ := key
    simp only at k
    rw [if_pos hz] at k
    obtain ⟨v, w, rfl, hv, hw⟩ := preps2 pr
    cases hv.int
    cases hw.int
    obtain ⟨z1, z2⟩ := Bool.and_eq_true_iff.mp hz
    obtain ⟨b1, b2⟩ := of_decide_eq_true ((okR_d _).symm.trans z1)
    obtain ⟨b3, b4⟩ := of_decide_eq_true ((okR_d _).symm.trans z2)
    exact ⟨m, n, rfl, ⟨b1, b2, b3, b4⟩, k _ F1 H1 R1 (.refl _) itOk_r⟩
theorem holdsI_run {f : Ev (List A)} {t : TA} {G : Gd} {en : En} {F H : Hp} {σ : L2.St} {Q : List V → Hp → Prop} {R' : It → Hp → Prop} {g : List D → En → M.R (List D)} (q : ∀ (G : Gd) (en : En) (F H : Hp) (σ : L2.St) (Q : List V → Hp → Prop), Rel X.K G en F H σ → PA1 X W G F σ (f en) Q → t σ H Q) (R0 : Rel X.K G en F H σ)
    (h : PostE X W G F σ (fun F' ds J => ItOk X.K J F' ds) ((eHolds f en).bind g) R') (k : ∀ ds e vs F' H', Rel X.K G e F' H' σ → Same F F' → Reps X.K F' vs ds → PostE X W G F' σ (fun F' ds J => ItOk X.K J F' ds) (g ds e) R' → Q vs H') : t σ H Q :=
  holdsE_run q R0 (PostE.bind h k)
theorem di_enum {elts : List Expr} {kk : Nat} (ha : DA X W [a] fs) (hm : X.mg "enumerate" = none) (hg : Gl X "enumerate" := by rfl) (hs : starEach [a] X.env = [(false, eval a X.env)] := by rfl) : DI X W (.Tuple elts kk tpos) (.Call (.Name "enumerate" p) [a] [] pos) (iE fs) := by
  obtain ⟨t, pt, q⟩ := ha.ex
  refine ⟨_, pi_enum hg hm pt hs, fun G en F H σ R' R h => holdsI_run q R h fun ds e vs F1 H1 R1 s1 rp k => ?_⟩
  have key : ∃ xs, ds = [.list xs] := by
    split at k
    · exact ⟨_, rfl⟩
    · exact k.elim
  obtain ⟨xs, rfl⟩ := key
  obtain ⟨v, rfl, rv⟩ := rp.one_of
  cases rv with
  | lst hs r => exact ⟨_, _, rfl, R1.fh.seq hs, k _ F1 H1 R1 (.refl _) (itOk_e hs r)⟩
theorem di_zip {elts : List Expr} {kk : Nat} (ha : DA X W [a, b] fs) (hm : X.mg "zip" = none) (hg : Gl X "zip" := by rfl) (hs : starEach [a, b] X.env = (false, eval a X.env) :: starEach [b] X.env := by rfl) (hpl : (backTo pos (starEach [b] X.env)).any (·.1) = false := by rfl) : DI X W (.Tuple elts kk tpos) (.Call (.Name "zip" p) [a, b] [] pos) (iZ fs) := by
  obtain ⟨t, pt, q⟩ := ha.ex
  refine ⟨_, RZ.pi_zipA hg hm pt hs hpl, fun G en F H σ R' R h => holdsI_run q R h fun ds e vs F1 H1 R1 s1 rp k => ?_⟩
  split at k
  · rename_i xs ys
    cases rp with
    | cons r1 rp =>
      obtain ⟨w, rfl, r2⟩ := rp.one_of
      cases r1 with
      | lst h1 q1 =>
        cases r2 with
        | lst h2 q2 => exact ⟨_, _, _, _, rfl, .inl ⟨R1.fh.seq h1, R1.fh.seq h2, k _ F1 H1 R1 (.refl _) (itOk_z h1 q1 h2 q2)⟩⟩
  · rename_i xs ys
    cases rp with
    | cons r1 rp =>
      obtain ⟨w, rfl, r2⟩ := rp.one_of
      cases r1 with
      | tup h1 q1 =>
        cases r2 with
        | tup h2 q2 => exact ⟨_, _, _, _, rfl, .inr ⟨SqT.mono R1.fh h1, SqT.mono R1.fh h2, k _ F1 H1 R1 (.refl _) (itOk_zT h1 q1 h2 q2)⟩⟩
  · exact k.elim
end
end
end M
set_option Elab.async false
set_option linter.all false
set_option maxRecDepth 100000
set_option autoImplicit false
/-! M11: one rule for several kinds of data. -/
namespace M
noncomputable section
open PySem PySem.Spec PyProof.Rows L2
section
variable {K : PySem.W.Frag}
theorem OpD.or {r r' : R2} {g g' : D → D → Option D} (h : OpD K r g) (h' : OpD K r' g') : OpD K (fun x y H Q => r x y H Q ∨ r' x y H Q) (fun d e => (g d e).orElse fun _ => g' d e) := by
  intro F H x y d e q Q sF hx hy hg k
  dsimp only at hg
  cases z : g d e with
  | none => rw [z] at hg; exact .inr (h' F H x y d e q Q sF hx hy hg k)
  | some w => rw [z] at hg; cases hg; exact .inl (h F H x y d e _ Q sF hx hy z k)
theorem OpF.d {r : R2} {g : D → D → Option D} (h : OpF K r g) : OpD K r g := by
  intro F H x y d e q Q sF hx hy hg k
  obtain ⟨o, h1, h2⟩ := h F H x y d e q Q sF hx hy hg
  refine h2 fun p np => ?_
  have g := Grow.alloc (o := o) sF np
  exact k (.ref p) _ _ g ((h1 p (upd H p o) upd_same).rep g.f (upd_same.trans upd_same.symm))
end
def dAddU (d e : D) : Option D := match d, e with
  | .int a, .int b => some (.int (a + b))
  | .str a, .str b => if small (a.length + b.length) then some (.str (a ++ b)) else none
  | .tuple a, .tuple b => if small (a.length + b.length) then some (.tuple (a ++ b)) else none
  | .list a, .list b => if small (a.length + b.length) then some (.list (a ++ b)) else none
  | _, _ => none
theorem dAddU_eq (d e : D) : dAddU d e = (dAdd d e).orElse fun _ => dCat d e := by
  cases d <;> cases e <;> first | rfl | (simp only [dAddU, dAdd, dCat]; split <;> rfl)
def dMulU (d e : D) : Option D := match d, e with
  | .int a, .int b => if decide (a.natAbs.log2 + b.natAbs.log2 < 1000000) then some (.int (a * b)) else none
  | .list a, .int k => if in63 k && small (a.length * k.toNat) then some (.list (List.replicate k.toNat a).flatten) else none
  | _, _ => none
theorem dMulU_eq (d e : D) : dMulU d e = (dMul d e).orElse fun _ => dRep d e := by
  cases d <;> cases e <;> first | rfl | (simp only [dMulU, dMul, dRep]; split <;> rfl)
section
variable {X : Cx} {K : PySem.W.Frag}
abbrev rAddU (K : PySem.W.Frag) : R2 := fun x y H Q => (rI0 (fun i j => .int (i + j)) x y H Q ∨ ((∃ i j, x = .str i ∧ y = .str j ∧ i.length + j.length ≤ sizeLine ∧ Q (.str (i ++ j)) H) ∨ rCatA K x y H Q)) ∨ rCatS K x y H Q
theorem op_addU : OpR X (binaryOp .Add) (rAddU X.K) := (op_add.or (op_add_str.or op_catA)).or op_catS
theorem opd_addU : OpD K (rAddU K) dAddU := by
  have h := (opd_add (K := K)).or opf_cat.d
  intro F H x y d e q Q sF hx hy hg k
  exact h F H x y d e q Q sF hx hy ((dAddU_eq d e).symm.trans hg) k
abbrev rMulU (K : PySem.W.Frag) : R2 := fun x y H Q => rI CMulW (fun i j => .int (i * j)) x y H Q ∨ rRepS K x y H Q
theorem op_mulU : OpR X (binaryOp .Mult) (rMulU X.K) := op_mulW.or op_repS
theorem opd_mulU : OpD K (rMulU K) dMulU := by
  have h := (opd_mul (K := K)).or opf_rep.d
  intro F H x y d e q Q sF hx hy hg k
  exact h F H x y d e q Q sF hx hy ((dMulU_eq d e).symm.trans hg) k
end
/-! ### short names -/
section
variable {X : Cx} {W : WX} {a b : Expr} {pos : Pos} {fa fb : Ev A}
def eAdd := eBin dAddU
def eSub := eBin dSub
def eMul := eBin dMulU
def eFdiv := eBin dFdiv
def eMod := eBin dMod
def ePow := eBin dPow
def eLt := eBin dLt
def eLe := eBin dLe
def eGt := eBin dGt
def eGe := eBin dGe
def eEq := eBin dEq
def eNe := eBin dNe
def eIsN := eBin dIsN
def eNotN := eBin dNotN
def eIx := eBin dIx
theorem dx_add (ha : DX X W a fa) (hb : DX X W b fb) : DX X W (.BinOp a .Add b pos) (eAdd fa fb) := dx_op op_addU opd_addU ha hb
theorem dx_sub (ha : DX X W a fa) (hb : DX X W b fb) : DX X W (.BinOp a .Sub b pos) (eSub fa fb) := dx_op op_sub opd_sub ha hb
theorem dx_mul (ha : DX X W a fa) (hb : DX X W b fb) : DX X W (.BinOp a .Mult b pos) (eMul fa fb) := dx_op op_mulU opd_mulU ha hb
theorem dx_fdiv (ha : DX X W a fa) (hb : DX X W b fb) : DX X W (.BinOp a .FloorDiv b pos) (eFdiv fa fb) := dx_op op_fdivW opd_fdiv ha hb
theorem dx_mod (ha : DX X W a fa) (hb : DX X W b fb) : DX X W (.BinOp a .Mod b pos) (eMod fa fb) := dx_op op_mod opd_mod ha hb
theorem dx_pow (ha : DX X W a fa) (hb : DX X W b fb) : DX X W (.BinOp a .Pow b pos) (ePow fa fb) := dx_op op_powW opd_pow ha hb
theorem dx_neg (ha : DX X W a fa) : DX X W (.UnaryOp .USub a pos) (eUn dNeg fa) := dx_un un_neg und_neg ha
theorem dx_lt (ha : DX X W a fa) (hb : DX X W b fb) : DX X W (.Compare a [.Lt] [b] pos) (eLt fa fb) := dx_cmp op_lt opd_lt ha hb (nomark _)
theorem dx_le (ha : DX X W a fa) (hb : DX X W b fb) : DX X W (.Compare a [.LtE] [b] pos) (eLe fa fb) := dx_cmp op_le opd_le ha hb (nomark _)
theorem dx_gt (ha : DX X W a fa) (hb : DX X W b fb) : DX X W (.Compare a [.Gt] [b] pos) (eGt fa fb) := dx_cmp op_gt opd_gt ha hb (nomark _)
theorem dx_ge (ha : DX X W a fa) (hb : DX X W b fb) : DX X W (.Compare a [.GtE] [b] pos) (eGe fa fb) := dx_cmp op_ge opd_ge ha hb (nomark _)
theorem dx_isN (ha : DX X W a fa) (hb : DX X W b fb) : DX X W (.Compare a [.Is] [b] pos) (eIsN fa fb) := dx_cmp op_isN opd_isN ha hb (nomark _)
theorem dx_notN (ha : DX X W a fa) (hb : DX X W b fb) : DX X W (.Compare a [.IsNot] [b] pos) (eNotN fa fb) := dx_cmp op_notN opd_notN ha hb (nomark _)
theorem dx_eq (hu : X.A.units + 64 < cLine) (ha : DX X W a fa) (hb : DX X W b fb) : DX X W (.Compare a [.Eq] [b] pos) (eEq fa fb) := dx_cmp ((op_eqD hu).or op_eq) opd_eq ha hb (nomark _)
theorem dx_ne (hu : X.A.units + 64 < cLine) (ha : DX X W a fa) (hb : DX X W b fb) : DX X W (.Compare a [.NotEq] [b] pos) (eNe fa fb) := dx_cmp ((op_neD hu).or op_ne) opd_ne ha hb (nomark _)
theorem dx_item (ha : DX X W a fa) (hb : DX X W b fb) (hs : PlainIx b := by exact fun _ _ => rfl) : DX X W (.Subscript a b pos) (eIx fa fb) := dx_ix ix_seq opd_ix ha hb hs
theorem hbD {g : D → D → Option D} (h : ∀ x y, ∀ q, g x y = some q → ∃ k, q = .bool k) : ∀ x y q, g x y = some q → ∃ k, q = .bool k := h
theorem hb_i {g : Int → Int → Bool} {f : D → D → Option D} (h : ∀ x y, f x y = match x, y with | .int a, .int b => some (.bool (g a b)) | _, _ => none) : ∀ x y q, f x y = some q → ∃ k, q = .bool k := by
  intro x y q e
  rw [h] at e
  split at e
  · cases e; exact ⟨_, rfl⟩
  · cases e
theorem dt_lt (ha : DX X W a fa) (hb : DX X W b fb) : DT X W (.Compare a [.Lt] [b] pos) (tOf (eLt fa fb)) := dt_cmp op_lt opd_lt ha hb (nomark _) (hb_i (g := fun a b => decide (a < b)) fun x y => rfl)
theorem dt_le (ha : DX X W a fa) (hb : DX X W b fb) : DT X W (.Compare a [.LtE] [b] pos) (tOf (eLe fa fb)) := dt_cmp op_le opd_le ha hb (nomark _) (hb_i (g := fun a b => decide (a ≤ b)) fun x y => rfl)
theorem dt_gt (ha : DX X W a fa) (hb : DX X W b fb) : DT X W (.Compare a [.Gt] [b] pos) (tOf (eGt fa fb)) := dt_cmp op_gt opd_gt ha hb (nomark _) (hb_i (g := fun a b => decide (b < a)) fun x y => rfl)
theorem dt_ge (ha : DX X W a fa) (hb : DX X W b fb) : DT X W (.Compare a [.GtE] [b] pos) (tOf (eGe fa fb)) := dt_cmp op_ge opd_ge ha hb (nomark _) (hb_i (g := fun a b => decide (b ≤ a)) fun x y => rfl)
theorem hb_isN : ∀ x y q, dIsN x y = some q → ∃ k, q = .bool k := by
  intro x y q e
  cases y <;> first | (cases e; exact ⟨_, rfl⟩) | cases e
theorem hb_notN : ∀ x y q, dNotN x y = some q → ∃ k, q = .bool k := by
  intro x y q e
  cases y <;> first | (cases e; exact ⟨_, rfl⟩) | cases e
theorem hb_eq : ∀ x y q, dEq x y = some q → ∃ k, q = .bool k := by
  intro x y q e
  unfold dEq at e
  split at e
  · cases e; exact ⟨_, rfl⟩
  · unfold dEqN at e
    split at e
    · cases e; exact ⟨_, rfl⟩
    · cases e
theorem hb_ne : ∀ x y q, dNe x y = some q → ∃ k, q = .bool k := by
  intro x y q e
  unfold dNe at e
  split at e
  · cases e; exact ⟨_, rfl⟩
  · unfold dNeN at e
    split at e
    · cases e; exact ⟨_, rfl⟩
    · cases e
theorem dt_isN (ha : DX X W a fa) (hb : DX X W b fb) : DT X W (.Compare a [.Is] [b] pos) (tOf (eIsN fa fb)) := dt_cmp op_isN opd_isN ha hb (nomark _) hb_isN
theorem dt_notN (ha : DX X W a fa) (hb : DX X W b fb) : DT X W (.Compare a [.IsNot] [b] pos) (tOf (eNotN fa fb)) := dt_cmp op_notN opd_notN ha hb (nomark _) hb_notN
theorem dt_eq (hu : X.A.units + 64 < cLine) (ha : DX X W a fa) (hb : DX X W b fb) : DT X W (.Compare a [.Eq] [b] pos) (tOf (eEq fa fb)) := dt_cmp ((op_eqD hu).or op_eq) opd_eq ha hb (nomark _) hb_eq
theorem dt_ne (hu : X.A.units + 64 < cLine) (ha : DX X W a fa) (hb : DX X W b fb) : DT X W (.Compare a [.NotEq] [b] pos) (tOf (eNe fa fb)) := dt_cmp ((op_neD hu).or op_ne) opd_ne ha hb (nomark _) hb_ne
/-! built-in functions by name -/
variable {fs : Ev (List A)} {p : Pos} {es : List Expr}
theorem dx_len (ha : DX X W a fa) (hm : X.mg "len" = none) (hg : Gl X "len" := by rfl) (he : starEach [a] X.env = (false, eval a X.env) :: starEach [] X.env := by rfl) (hpl : (backTo pos (starEach [] X.env)).any (·.1) = false := by rfl) : DX X W (.Call (.Name "len" p) [a] [] pos) (eFn (f1 dLen) (eCons fa eNil)) :=
  dx_fnB call_len fnd_len hg hm PySem.boot_len (da_cons ha da_nil he) (by decide) (by decide) he hpl
theorem dx_abs (ha : DX X W a fa) (hm : X.mg "abs" = none) (hg : Gl X "abs" := by rfl) (he : starEach [a] X.env = (false, eval a X.env) :: starEach [] X.env := by rfl) (hpl : (backTo pos (starEach [] X.env)).any (·.1) = false := by rfl) : DX X W (.Call (.Name "abs" p) [a] [] pos) (eFn (f1 dAbs) (eCons fa eNil)) :=
  dx_fnB call_abs fnd_abs hg hm (by decide +kernel) (da_cons ha da_nil he) (by decide) (by decide) he hpl
theorem dx_max2 (hc : X.calm = true) (ha : DX X W a fa) (hb : DX X W b fb) (hm : X.mg "max" = none) (hg : Gl X "max" := by rfl) (he : starEach [a, b] X.env = (false, eval a X.env) :: starEach [b] X.env := by rfl) (he2 : starEach [b] X.env = (false, eval b X.env) :: starEach [] X.env := by rfl) (hpl : (backTo pos (starEach [b] X.env)).any (·.1) = false := by rfl) : DX X W (.Call (.Name "max" p) [a, b] [] pos) (eFn (f2 dMax2) (eCons fa (eCons fb eNil))) :=
  dx_fnB (call_max2 hc) fnd_max2 hg hm (by decide +kernel) (da_cons ha (da_cons hb da_nil he2) he) (by decide) (by decide) he hpl
theorem dx_min2 (hc : X.calm = true) (ha : DX X W a fa) (hb : DX X W b fb) (hm : X.mg "min" = none) (hg : Gl X "min" := by rfl) (he : starEach [a, b] X.env = (false, eval a X.env) :: starEach [b] X.env := by rfl) (he2 : starEach [b] X.env = (false, eval b X.env) :: starEach [] X.env := by rfl) (hpl : (backTo pos (starEach [b] X.env)).any (·.1) = false := by rfl) : DX X W (.Call (.Name "min" p) [a, b] [] pos) (eFn (f2 dMin2) (eCons fa (eCons fb eNil))) :=
  dx_fnB (call_min2 hc) fnd_min2 hg hm (by decide +kernel) (da_cons ha (da_cons hb da_nil he2) he) (by decide) (by decide) he hpl
theorem dx_int1 (ha : DX X W a fa) (hm : X.mg "int" = none) (hg : Gl X "int" := by rfl) (he : starEach [a] X.env = (false, eval a X.env) :: starEach [] X.env := by rfl) (hpl : (backTo pos (starEach [] X.env)).any (·.1) = false := by rfl) : DX X W (.Call (.Name "int" p) [a] [] pos) (eFn (f1 dInt) (eCons fa eNil)) :=
  dx_fnT call_int1 fnd_int hg hm (by decide +kernel) (da_cons ha da_nil he) (by decide) (by decide) he hpl
theorem dx_tuple (ha : DX X W a fa) (hm : X.mg "tuple" = none) (hg : Gl X "tuple" := by rfl) (he : starEach [a] X.env = (false, eval a X.env) :: starEach [] X.env := by rfl) (hpl : (backTo pos (starEach [] X.env)).any (·.1) = false := by rfl) : DX X W (.Call (.Name "tuple" p) [a] [] pos) (eFn (f1 dTuple) (eCons fa eNil)) :=
  dx_fnT call_tuple_of fnd_tuple hg hm (by decide +kernel) (da_cons ha da_nil he) (by decide) (by decide) he hpl
theorem dx_all (hc : X.calm = true) (ha : DX X W a fa) (hm : X.mg "all" = none) (hg : Gl X "all" := by rfl) (he : starEach [a] X.env = (false, eval a X.env) :: starEach [] X.env := by rfl) (hpl : (backTo pos (starEach [] X.env)).any (·.1) = false := by rfl) : DX X W (.Call (.Name "all" p) [a] [] pos) (eFn (f1 dAll) (eCons fa eNil)) :=
  dx_fnB (cr_all hc) fnd_all hg hm (by decide +kernel) (da_cons ha da_nil he) (by decide) (by decide) he hpl
theorem dx_any (hc : X.calm = true) (ha : DX X W a fa) (hm : X.mg "any" = none) (hg : Gl X "any" := by rfl) (he : starEach [a] X.env = (false, eval a X.env) :: starEach [] X.env := by rfl) (hpl : (backTo pos (starEach [] X.env)).any (·.1) = false := by rfl) : DX X W (.Call (.Name "any" p) [a] [] pos) (eFn (f1 dAny) (eCons fa eNil)) :=
  dx_fnB (cr_any hc) fnd_any hg hm (by decide +kernel) (da_cons ha da_nil he) (by decide) (by decide) he hpl
theorem dx_sum (hc : X.calm = true) (ha : DX X W a fa) (hm : X.mg "sum" = none) (hg : Gl X "sum" := by rfl) (he : starEach [a] X.env = (false, eval a X.env) :: starEach [] X.env := by rfl) (hpl : (backTo pos (starEach [] X.env)).any (·.1) = false := by rfl) : DX X W (.Call (.Name "sum" p) [a] [] pos) (eFn (f1 dSum) (eCons fa eNil)) :=
  dx_fnB (cr_sum hc) fnd_sum hg hm (by decide +kernel) (da_cons ha da_nil he) (by decide) (by decide) he hpl
theorem dx_repr (gd : X.A.guards = some []) (hu : X.A.units + 64 < cLine) (ha : DX X W a fa) (hm : X.mg "repr" = none) (hg : Gl X "repr" := by rfl) (he : starEach [a] X.env = (false, eval a X.env) :: starEach [] X.env := by rfl) (hpl : (backTo pos (starEach [] X.env)).any (·.1) = false := by rfl) : DX X W (.Call (.Name "repr" p) [a] [] pos) (eFn (f1 dRepr) (eCons fa eNil)) :=
  dx_fnB (call_repr gd hu) fnd_repr hg hm (by decide +kernel) (da_cons ha da_nil he) (by decide) (by decide) he hpl
theorem do_list (ha : DX X W a fa) (hm : X.mg "list" = none) (hg : Gl X "list" := by rfl) (he : starEach [a] X.env = (false, eval a X.env) :: starEach [] X.env := by rfl) (hpl : (backTo pos (starEach [] X.env)).any (·.1) = false := by rfl) : DO X W (.Call (.Name "list" p) [a] [] pos) (oFn (f1 dList) (eCons fa eNil)) :=
  do_fnT call_list_of fnf_list hg hm (by decide +kernel) (da_cons ha da_nil he) (by decide) (by decide) he hpl
theorem do_cat (ha : DX X W a fa) (hb : DX X W b fb) : DO X W (.BinOp a .Add b pos) (oBin dCat fa fb) := do_op op_catS opf_cat ha hb
theorem do_rep (ha : DX X W a fa) (hb : DX X W b fb) : DO X W (.BinOp a .Mult b pos) (oBin dRep fa fb) := do_op op_repS opf_rep ha hb
/-- a list or a tuple walked -/
theorem pi_or2 {tg l : Expr} {w1 w2 : TI} (h1 : PI X tg l w1) (h2 : PI X tg l w2) : PI X tg l (fun σ H R => w1 σ H R ∨ w2 σ H R) :=
  ⟨fun pins s σ H R I h => h.elim (h1.run pins s σ H R I) (h2.run pins s σ H R I)⟩
theorem di_seq {tg : Expr} (ha : DX X W a fa) : DI X W tg a (iS fa) := by
  obtain ⟨w1, p1, q1⟩ := (di_list (tg := tg) ha).ex
  obtain ⟨w2, p2, q2⟩ := (di_tup (tg := tg) ha).ex
  refine ⟨_, pi_or2 p1 p2, fun G en F H σ R' R h => ?_⟩
  unfold iS at h
  cases z : eHold fa en with
  | bad => rw [z] at h; exact h.elim
  | ex x e => rw [z] at h; exact .inl (q1 G en F H σ R' R (by unfold iL; rw [z]; exact h))
  | ok d e =>
    rw [z] at h
    cases d with
    | list ds => exact .inl (q1 G en F H σ R' R (by unfold iL; rw [z]; exact h))
    | tuple ds => exact .inr (q2 G en F H σ R' R (by unfold iT; rw [z]; exact h))
    | _ => exact h.elim
end
end
end M
set_option Elab.async false
set_option linter.all false
set_option maxRecDepth 100000
set_option autoImplicit false
/-! M12: defs by their names; the end of a law. -/
namespace M
noncomputable section
open PySem PySem.Spec PyProof.Rows L2
section
variable {P : Program} {w : World} {K : PySem.W.Frag} {mg : Str → Option Value} {bs : Heap}
/-- a def of the text by its name -/
structure FunAt (K : PySem.W.Frag) (mg : Str → Option Value) (x qual : Str) (st : Stmt) (ps : List Str) : Prop where
  ex : ∃ f fd, Fun K x qual st f fd ∧ mg x = some (.ref f) ∧ Binds K fd ps []
/-- a def that says what its meaning says -/
structure CallOk (P : Program) (w : World) (K : PySem.W.Frag) (mg : Str → Option Value) (bs : Heap) (k : Nat) (x : Str) (ps : List Str) (Fd : List Sl → Rt) : Prop where
  ex : ∃ f fd, FnG P w K mg bs CX0 k f fd ps (spD K mg ps.length Fd) ∧ mg x = some (.ref f) ∧ PySem.W.keepIn K (.ref f) = true ∧ Binds K fd ps []
theorem CallOk.mono {j k : Nat} {x : Str} {ps : List Str} {Fd : List Sl → Rt} (c : CallOk P w K mg bs j x ps Fd) (h : j ≤ k) : CallOk P w K mg bs k x ps Fd := by
  obtain ⟨f, fd, h1, h2, h3, h4⟩ := c.ex
  exact ⟨f, fd, h1.mono h, h2, h3, h4⟩
theorem fun_ok {x qual : Str} {st : Stmt} {N ps : List Str} {k : Nat} {body : En → SR} (F : FunAt K mg x qual st ps) (S : FnScope N ps (defScope st)) (hps : ps.length ≤ N.length)
    (hbody : ∀ (f : Addr) (cdv : Value) (A : Around) (out : List PySem.Env) (s : Shared) (H : Hp) (E : XK), Room k (A.deeper (envOfC qual (defScope st) s.heap.objs.size f cdv)) → (A.deeper (envOfC qual (defScope st) s.heap.objs.size f cdv)).guards = some [] →
      DSs (cxOf CX0 P w K mg bs N qual (defScope st) f cdv A out s H E).nox WX0 (defBody st) body) : CallOk P w K mg bs (k + 1) x ps (run0 N.length body) := by
  obtain ⟨f, fd, h1, h2, h3⟩ := F.ex
  exact ⟨f, fd, def_ok h1 S hps (fun cdv A out s H E hr gd => hbody f cdv A out s H E hr gd), h2, h1.kp, h3⟩
def badF : List Sl → Rt := fun _ => .bad
theorem fun_bad {x qual : Str} {st : Stmt} {ps : List Str} {k : Nat} (F : FunAt K mg x qual st ps) : CallOk P w K mg bs k x ps badF := by
  obtain ⟨f, fd, h1, h2, h3⟩ := F.ex
  refine ⟨f, fd, ⟨fun us H Q E h => h.1, fun A out s H ar us vs Q E _ _ _ _ _ h => ?_⟩, h2, h1.kp, h3⟩
  obtain ⟨_, F', as, As, _, _, z⟩ := h
  exact z.elim
theorem bad_keeps : Keeps badF := fun ss => ⟨fun o d as' h => (nomatch h), fun x as' h => (nomatch h)⟩
theorem bad_nox : NoX badF := fun ss y as' h => nomatch h
end
section
variable {X : Cx} {W : WX} {k : Nat} {ps : List Str} {x : Str} {p pos : Pos} {a : Expr} {es : List Expr} {fs : Ev (List A)} {Fd : List Sl → Rt}
theorem dx_callC (C : CallOk X.prog X.w X.K X.mg X.base k x ps Fd) (kp : Keeps Fd) (nx : NoX Fd) (hr : Room k X.A) (gd : X.A.guards = some []) (ha : DA X W (a :: es) fs) (hn : ∀ en as e1, fs en = .ok as e1 → as.length = ps.length) (hg : Gl X x := by rfl) (hdb : (x == ("__debug__" : Str)) = false := by decide)
    (he : starEach (a :: es) X.env = (false, eval a X.env) :: starEach es X.env := by rfl) (hpl : (backTo pos (starEach es X.env)).any (·.1) = false := by rfl) : DX X W (.Call (.Name x p) (a :: es) [] pos) (eCall Fd fs) := by
  obtain ⟨f, fd, h1, h2, h3, h4⟩ := C.ex
  exact dx_call h1 kp nx hr gd h2 h3 h4 ha hn hg hdb he hpl
theorem do_callC (C : CallOk X.prog X.w X.K X.mg X.base k x ps Fd) (kp : Keeps Fd) (nx : NoX Fd) (hr : Room k X.A) (gd : X.A.guards = some []) (ha : DA X W (a :: es) fs) (hn : ∀ en as e1, fs en = .ok as e1 → as.length = ps.length) (hg : Gl X x := by rfl) (hdb : (x == ("__debug__" : Str)) = false := by decide)
    (he : starEach (a :: es) X.env = (false, eval a X.env) :: starEach es X.env := by rfl) (hpl : (backTo pos (starEach es X.env)).any (·.1) = false := by rfl) : DO X W (.Call (.Name x p) (a :: es) [] pos) (oCall Fd fs) := by
  obtain ⟨f, fd, h1, h2, h3, h4⟩ := C.ex
  exact do_call h1 kp nx hr gd h2 h3 h4 ha hn hg hdb he hpl
end
theorem alen0 : ∀ en as e1, eNil en = .ok as e1 → as.length = 0 := fun _ _ _ h => alen_nil h
/-- slices of lists and tuples -/
def eSl (fa : Ev A) (lo hi : Po) : Ev A := fun e => (fa e).bind fun a e1 => (ePart lo e1).bind fun l e2 => (ePart hi e2).bind fun h e3 => match res e3 a with
  | some (.tuple xs) => .ok (.sh (.tuple (cutD xs l h))) e3
  | some (.list xs) => .ok (.sh (.list (cutD xs l h))) e3
  | _ => .bad
theorem dx_sl {X : Cx} {W : WX} {a : Expr} {pos p2 : Pos} {fa : Ev A} {lo hi : Option Expr} {pl ph : Po} (ha : DX X W a fa) (hl : DP X W lo pl) (hh : DP X W hi ph) : DX X W (.Subscript a (.Slice lo hi none p2) pos) (eSl fa pl ph) := by
  obtain ⟨ta, pa, qa⟩ := ha.ex
  obtain ⟨tl, p1, q1⟩ := hl.ex
  obtain ⟨th, p2, q2⟩ := hh.ex
  refine ⟨_, pe_slice (SlR.or sl_tupA sl_list) pa p1 p2, fun G en F H σ Q R q => qa G en F H σ _ R (q.bind fun x e1 v F1 H1 R1 s1 o1 k1 => q1 G e1 F1 H1 σ _ R1 (k1.bind fun l e2 l' F2 H2 R2 s2 ol k2 => q2 G e2 F2 H2 σ _ R2 (k2.bind fun h e3 h' F3 H3 R3 s3 oh k3 => ?_)))⟩
  subst ol oh
  have o3 : AOk X.K F3 σ x v := (o1.mono s2).mono s3
  cases z : res e3 x with
  | none => rw [z] at k3; exact k3.elim
  | some d =>
    rw [z] at k3
    cases d with
    | tuple xs =>
      obtain ⟨p, vs, rfl, hs, r⟩ := (res_ok R3 o3 z).tup R3.fh
      have len := r.length
      refine .inl ⟨p, vs, rfl, hs, fun hw => ?_, fun _ p np => ?_⟩
      · rw [len] at hw
        have e : cutD xs l h = xs := cut_whole hw
        dsimp only at k3
        rw [e] at k3
        have rp : Rep X.K F3 (.ref p) (.tuple xs) := by
          rcases res_ok R3 o3 z with q | ⟨_, _, q⟩
          · exact q
          · exact q.elim
        exact k3 (.ref p) F3 H3 R3 (.refl _) rp
      · have g := Grow.alloc (o := .tup (cutV vs l h)) R3.fh np
        exact k3 (.ref p) _ _ (R3.grow g) g.f (.tup (.inl (.inl upd_same)) ((r.cut l h).mono g.f))
    | list xs =>
      obtain ⟨p, vs, rfl, hs, r⟩ := (res_ok R3 o3 z).list R3.fh
      refine .inr ⟨p, vs, rfl, hs, fun p np => ?_⟩
      have g := Grow.alloc (o := .lst (cutV vs l h)) R3.fh np
      exact k3 (.ref p) _ _ (R3.grow g) g.f (.lst (.inl (.inl upd_same)) ((r.cut l h).mono g.f))
    | _ => exact k3.elim
theorem ipd_addG {K : PySem.W.Frag} : IpD K (ipI fun i j => i + j) gAdd := ipd_add
theorem ipd_subG {K : PySem.W.Frag} : IpD K (ipI fun i j => i - j) gSub' := ipd_sub
/-- the script as data -/
def scriptD (ns : List Int) : D := .list (ns.map .int)
theorem reps_ints {K : PySem.W.Frag} {F : Hp} : ∀ ns : List Int, Reps K F (ns.map V.int) (ns.map PyData.int)
  | [] => .nil
  | n :: ns => .cons (.int n) (reps_ints ns)
/-- THE END: the law's meaning is True at every script -/
theorem law_end {l : PySem.W.OpenLaw} {n k : Nat} {q : Program} {loose : List Str} {XP : (Str → Option Value) → Heap → Prop} {YP : World → Heap → Prop} {d : DefRec} {Kf : Params → PySem.W.Frag} {x : Str} {Fd : List Sl → Rt}
    (h1 : l.most = some n) (h2 : n ≤ sizeLine) (h3 : d.params.defaults = []) (h4 : Room k callerA) (h5 : ∀ (w : World) (h : Heap), YP w h → (Kf w.params).In h)
    (F : ∀ (w : World) (mg : Str → Option Value) (fa : Addr) (h : Heap), (Kf w.params).In h → h.Ns mainGlobals mg → mg d.name = some (.ref fa) →
      ∃ fd : FuncData, (∀ (s : Shared) (u : Value), BindsTo s fd ⟨[u], []⟩ [(x, u)]) ∧ ∀ bs : Heap, (Kf w.params).In bs → bs.Ns mainGlobals mg → FnG l.prog w (Kf w.params) mg bs CX0 k fa fd [x] (spD (Kf w.params) mg 1 Fd))
    (hp : ∀ ns : List Int, ns.length ≤ n → ∃ as', Fd [.sh (scriptD ns)] = .ret false (.bool true) as') :
    PySem.W.WalkO q loose XP YP l.row.toRowW d [] (fun f us => PySem.call f us) := by
  refine walk_ofG (sp := fun w mg => spD (Kf w.params) mg 1 Fd) h1 h2 h3 h4 h5 F fun w mg H a ns hl hO hS => ?_
  obtain ⟨as', hq⟩ := hp ns hl
  refine ⟨rfl, H, [.sh (scriptD ns)], [], rfl, ?_, ?_⟩
  · refine ⟨rfl, fun i s e => ?_, fun i j b c d e p z => ?_, fun i b d p z => ?_, .refl _, .refl _, fun a o e => .inl e, fun a o e _ => e, fun a z => ?_, fun i d z => rfl⟩
    · cases i with
      | zero => cases e; exact ⟨.ref a, rfl, .lst hS (reps_ints ns)⟩
      | succ i => simp at e
    · cases i <;> simp at z
    · cases i <;> simp at z
    · simp at z
  · rw [hq]
    intro v F' H' R' s' ro
    unfold RtOk at ro
    rw [if_neg Bool.false_ne_true] at ro
    cases ro
    rfl
end
end M
set_option Elab.async false
set_option linter.all false
set_option maxRecDepth 100000
set_option autoImplicit false
/-! M13: what is one's own, lent to be read while an expression runs that tells a number, a truth or a text. -/
namespace M
noncomputable section
open PySem PySem.Spec PyProof.Rows L2
def flatD : D → Bool
  | .none => true
  | .bool _ => true
  | .int _ => true
  | .str _ => true
  | _ => false
def flatO : D → Bool
  | .list xs => xs.all flatD
  | _ => false
def okSl (s : Sl) : Sl → Prop
  | .sh d => s = .sh d
  | .ow _ d => flatO d = true
  | .un => True
def okE : Nat → En → En → Prop
  | _, [], [] => True
  | 0, _ :: e, _ :: e2 => okEA e e2
  | i + 1, s :: e, s2 :: e2 => okSl s s2 ∧ okE i e e2
  | _, _, _ => False
where okEA : En → En → Prop
  | [], [] => True
  | s :: e, s2 :: e2 => okSl s s2 ∧ okEA e e2
  | _, _ => False
theorem okEA_at : ∀ {e e2 : En} {j : Nat} {s2 : Sl}, okE.okEA e e2 → e2[j]? = some s2 → ∃ s, e[j]? = some s ∧ okSl s s2
  | [], [], j, s2, _, h => by simp at h
  | s :: e, t :: e2, 0, s2, ⟨h1, _⟩, h => by simp at h; subst h; exact ⟨s, rfl, h1⟩
  | s :: e, t :: e2, j + 1, s2, ⟨_, h2⟩, h => by
    obtain ⟨u, g1, g2⟩ := okEA_at (j := j) h2 (by simpa using h)
    exact ⟨u, by simpa using g1, g2⟩
  | [], _ :: _, _, _, h0, _ => h0.elim
  | _ :: _, [], _, _, h0, _ => h0.elim
theorem okE_at : ∀ {i : Nat} {e e2 : En} {j : Nat} {s2 : Sl}, okE i e e2 → j ≠ i → e2[j]? = some s2 → ∃ s, e[j]? = some s ∧ okSl s s2
  | i, [], [], j, s2, _, _, h => by simp at h
  | 0, s :: e, t :: e2, 0, s2, _, n, h => (n rfl).elim
  | 0, s :: e, t :: e2, j + 1, s2, h0, _, h => by
    obtain ⟨u, g1, g2⟩ := okEA_at (j := j) h0 (by simpa using h)
    exact ⟨u, by simpa using g1, g2⟩
  | i + 1, s :: e, t :: e2, 0, s2, ⟨h1, _⟩, _, h => by simp at h; subst h; exact ⟨s, rfl, h1⟩
  | i + 1, s :: e, t :: e2, j + 1, s2, ⟨_, h2⟩, n, h => by
    obtain ⟨u, g1, g2⟩ := okE_at (j := j) h2 (by omega) (by simpa using h)
    exact ⟨u, by simpa using g1, g2⟩
  | 0, [], _ :: _, _, _, h0, _, _ => h0.elim
  | 0, _ :: _, [], _, _, h0, _, _ => h0.elim
  | _ + 1, [], _ :: _, _, _, h0, _, _ => h0.elim
  | _ + 1, _ :: _, [], _, _, h0, _, _ => h0.elim
open Classical in
noncomputable def viewEnd (i : Nat) (b : Bool) (d : D) (e : En) (a : A) (e2 : En) : M.R A := match a with
  | .sh q => if flatD q = true ∧ okE i e e2 then .ok (.sh q) (e2.set i (.ow b d)) else if b = false then .ok (.sh q) e2 else .bad
  | _ => .bad
noncomputable def eView (i : Nat) (f : Ev A) : Ev A := fun e => match e[i]? with
  | some (.ow b d) => (f (e.set i (.sh d))).nox.bind fun a e2 => viewEnd i b d e a e2
  | _ => f e
section
variable {K : PySem.W.Frag} {G : Gd} {en : En} {F F' H H' : Hp} {σ : L2.St} {i : Nat}
theorem flat_rep {v : V} {d : D} (h : Rep K F v d) (hf : flatD d = true) (F2 : Hp) : Rep K F2 v d := by
  cases h with
  | non => exact .non
  | bl b => exact .bl b
  | int i => exact .int i
  | str s => exact .str s
  | lst _ _ => cases hf
  | tup _ _ => cases hf
  | dK _ _ => cases hf
  | dT _ _ => cases hf
theorem flatReps : ∀ {vs : List V} {ds : List D}, Reps K F vs ds → ds.all flatD = true → ∀ F2 : Hp, Reps K F2 vs ds
  | _, _, .nil, _, _ => .nil
  | _, _, .cons h r, hf, F2 => by
    rw [List.all_cons, Bool.and_eq_true] at hf
    exact .cons (flat_rep h hf.1 F2) (flatReps r hf.2 F2)
theorem flat_own {p : Addr} {d : D} (h : Own K F H p d) (hf : flatO d = true) (F2 : Hp) : Own K F2 H p d := by
  cases d with
  | list ds => obtain ⟨vs, h1, h2⟩ := h; exact ⟨vs, h1, flatReps h2 hf F2⟩
  | _ => cases hf
/-- without p -/
def hidA (H : Hp) (p : Addr) : Hp := fun a => if a = p then none else H a
theorem hidA_ne {p a : Addr} (h : a ≠ p) : hidA H p a = H a := if_neg h
theorem hidA_self {p : Addr} : hidA H p p = none := if_pos rfl
def Gd.lendR (G : Gd) (p : Addr) : Gd := { G with H0 := hidA G.H0 p }
theorem Rel.lendR {b : Bool} {d : D} {p : Addr} {o : HO} (R : Rel K G en F H σ) (e : en[i]? = some (.ow b d)) (hp : σ[i]? = some (some (.ref p))) (hH : H p = some o) : Rel K (G.lendR p) (en.set i (.sh d)) (upd F p o) H σ ∧ Same F (upd F p o) := by
  obtain ⟨p', h1, h2, h3⟩ := R.owV e
  rw [hp] at h1
  cases h1
  have hlen : i < en.length := (List.getElem?_eq_some_iff.mp e).1
  have sF : Same F (upd F p o) := fun a u q => by
    have ne : a ≠ p := fun z => by rw [z, h2] at q; cases q
    rw [upd_ne ne]; exact q
  have other : ∀ {j : Nat} {c : Bool} {d' : D} {q : Addr}, j ≠ i → en[j]? = some (.ow c d') → σ[j]? = some (some (.ref q)) → q ≠ p := fun {j c d' q} hj g1 g2 z => by
    subst z
    exact hj (R.dj j i c b d' d q g1 e g2 hp)
  have at_ : ∀ {j : Nat} {s : Sl}, (en.set i (.sh d))[j]? = some s → (j = i ∧ s = .sh d) ∨ (j ≠ i ∧ en[j]? = some s) := fun {j s} z => by
    by_cases h : i = j
    · subst h
      rw [List.getElem?_set_self hlen] at z
      cases z
      exact .inl ⟨rfl, rfl⟩
    · rw [List.getElem?_set_ne h] at z
      exact .inr ⟨fun q => h q.symm, z⟩
  refine ⟨⟨by rw [List.length_set, R.len], fun j s z => ?_, fun j k c c' d1 d2 q h1 h2 h3 h4 => ?_, fun j c d1 q h1 h3 => ?_, fun a u q => ?_, R.f0.trans sF, fun a u q => ?_, fun a u q hA => ?_, R.as, fun j d1 h1 => ?_⟩, sF⟩
  · rcases at_ z with ⟨rfl, rfl⟩ | ⟨hj, z⟩
    · exact ⟨.ref p, by rw [hp]; rfl, h3.rep sF (by rw [upd_same, hH])⟩
    · have y := R.sl j s z
      cases s with
      | un => trivial
      | sh d => obtain ⟨v, g1, g2⟩ := y; exact ⟨v, g1, g2.mono sF⟩
      | ow c d' =>
        obtain ⟨q, g1, g2, g3⟩ := y
        exact ⟨q, g1, by rw [upd_ne (other hj z (join_some g1))]; exact g2, g3.mono sF rfl⟩
  · rcases at_ h1 with ⟨_, h1⟩ | ⟨_, h1⟩
    · cases h1
    · rcases at_ h2 with ⟨_, h2⟩ | ⟨_, h2⟩
      · cases h2
      · exact R.dj j k c c' d1 d2 q h1 h2 h3 h4
  · rcases at_ h1 with ⟨_, h1⟩ | ⟨hj, h1⟩
    · cases h1
    · have m := R.mn j c d1 q h1 h3
      show if c = true then q ∈ G.As else hidA G.H0 p q = none
      rw [hidA_ne (other hj h1 h3)]
      exact m
  · by_cases h : a = p
    · rw [h, upd_same] at q; cases q; rw [h]; exact hH
    · rw [upd_ne h] at q; exact R.fh _ _ q
  · by_cases h : a = p
    · rw [h]; exact .inr hidA_self
    · rw [upd_ne h] at q
      show G.F0 a = some u ∨ hidA G.H0 p a = none
      rw [hidA_ne h]
      exact R.nw a u q
  · have q' : hidA G.H0 p a = some u := q
    by_cases h : a = p
    · rw [h, hidA_self] at q'; cases q'
    · rw [hidA_ne h] at q'; exact R.bs a u q' hA
  · rcases at_ h1 with ⟨_, h1⟩ | ⟨_, h1⟩
    · cases h1
    · exact R.ar j d1 h1
theorem Rel.backR {b : Bool} {d : D} {p : Addr} {o : HO} {e2 : En} {F2 H2 : Hp} (R : Rel K G en F H σ) (e : en[i]? = some (.ow b d)) (hp : σ[i]? = some (some (.ref p))) (hH : H p = some o) (R2 : Rel K (G.lendR p) e2 F2 H2 σ) (s2 : Same (upd F p o) F2) (ok : okE i en e2) :
    Rel K G (e2.set i (.ow b d)) (hidA F2 p) H2 σ ∧ Same F (hidA F2 p) := by
  obtain ⟨p', h1, h2, h3⟩ := R.owV e
  rw [hp] at h1
  cases h1
  have hFp : F2 p = some o := s2 p o upd_same
  have hHp : H2 p = some o := R2.fh _ _ hFp
  have sF : Same F (hidA F2 p) := fun a u q => by
    have ne : a ≠ p := fun z => by rw [z, h2] at q; cases q
    rw [hidA_ne ne]
    exact s2 a u (by rw [upd_ne ne]; exact q)
  have hlen : i < e2.length := by
    rw [R2.len, ← R.len]
    exact (List.getElem?_eq_some_iff.mp e).1
  have at_ : ∀ {j : Nat} {s : Sl}, (e2.set i (.ow b d))[j]? = some s → (j = i ∧ s = .ow b d) ∨ (j ≠ i ∧ e2[j]? = some s) := fun {j s} z => by
    by_cases h : i = j
    · subst h
      rw [List.getElem?_set_self hlen] at z
      cases z
      exact .inl ⟨rfl, rfl⟩
    · rw [List.getElem?_set_ne h] at z
      exact .inr ⟨fun q => h q.symm, z⟩
  -- an own thing of e2 is not p
  have ownNe : ∀ {j : Nat} {c : Bool} {d' : D} {q : Addr}, e2[j]? = some (.ow c d') → σ[j]? = some (some (.ref q)) → q ≠ p := fun {j c d' q} z y w => by
    subst w
    obtain ⟨q', g1, g2, _⟩ := R2.owV z
    rw [y] at g1
    cases g1
    rw [hFp] at g2; cases g2
  refine ⟨⟨by rw [List.length_set, R2.len], fun j s z => ?_, fun j k c c' d1 d2 q h1 h2 h3 h4 => ?_, fun j c d1 q h1 h3 => ?_, fun a u q => ?_, R.f0.trans sF, fun a u q => ?_, fun a u q hA => ?_, R2.as, fun j d1 h1 => ?_⟩, sF⟩
  · rcases at_ z with ⟨rfl, rfl⟩ | ⟨hj, z⟩
    · exact ⟨p, by rw [hp]; rfl, hidA_self, h3.mono sF (hHp.trans hH.symm)⟩
    · obtain ⟨s0, g1, g2⟩ := okE_at ok hj z
      cases s with
      | un => trivial
      | sh d1 =>
        cases (show s0 = .sh d1 from g2)
        obtain ⟨v, w1, w2⟩ := R.sl j _ g1
        exact ⟨v, w1, w2.mono sF⟩
      | ow c d1 =>
        obtain ⟨q, w1, w2, w3⟩ := R2.sl j _ z
        have ne := ownNe z (join_some w1)
        exact ⟨q, w1, by rw [hidA_ne ne]; exact w2, flat_own w3 g2 _⟩
  · rcases at_ h1 with ⟨ej, x1⟩ | ⟨hj, x1⟩
    · rcases at_ h2 with ⟨ek, x2⟩ | ⟨hk, x2⟩
      · rw [ej, ek]
      · rw [ej, hp] at h3
        cases h3
        exact (ownNe x2 h4 rfl).elim
    · rcases at_ h2 with ⟨ek, x2⟩ | ⟨hk, x2⟩
      · rw [ek, hp] at h4
        cases h4
        exact (ownNe x1 h3 rfl).elim
      · exact R2.dj j k c c' d1 d2 q x1 x2 h3 h4
  · rcases at_ h1 with ⟨ej, x1⟩ | ⟨hj, x1⟩
    · cases x1
      rw [ej] at h3
      exact R.mn i b d q e h3
    · have m : if c = true then q ∈ G.As else hidA G.H0 p q = none := R2.mn j c d1 q x1 h3
      rw [hidA_ne (ownNe x1 h3)] at m
      exact m
  · by_cases h : a = p
    · rw [h, hidA_self] at q; cases q
    · rw [hidA_ne h] at q; exact R2.fh _ _ q
  · by_cases h : a = p
    · rw [h, hidA_self] at q; cases q
    · rw [hidA_ne h] at q
      have m : G.F0 a = some u ∨ hidA G.H0 p a = none := R2.nw a u q
      rw [hidA_ne h] at m
      exact m
  · by_cases h : a = p
    · subst h
      have := R.bs a u q hA
      rw [hH] at this
      cases this
      exact hHp
    · exact R2.bs a u (by show hidA G.H0 p a = some u; rw [hidA_ne h]; exact q) hA
  · rcases at_ h1 with ⟨ej, x1⟩ | ⟨hj, x1⟩
    · cases x1
      rw [ej]
      exact R.ar i _ e
    · exact R2.ar j d1 x1
/-- what was lent is frozen -/
theorem Rel.keepR {d : D} {p : Addr} {e2 : En} {F2 H2 : Hp} (R : Rel K G en F H σ) (e : en[i]? = some (.ow false d)) (hp : σ[i]? = some (some (.ref p))) (R2 : Rel K (G.lendR p) e2 F2 H2 σ) : Rel K G e2 F2 H2 σ := by
  have m := R.mn i false d p e hp
  have m' : G.H0 p = none := by simpa using m
  have eG : G.lendR p = G := by
    have : hidA G.H0 p = G.H0 := by
      funext a
      by_cases h : a = p
      · rw [h, hidA_self, m']
      · exact hidA_ne h
    unfold Gd.lendR
    rw [this]
  rw [eG] at R2
  exact R2
end
theorem dx_view (i : Nat) {X : Cx} {a : Expr} {f : Ev A} (h : DX X WX0 a f) : DX X WX0 a (eView i f) := by
  obtain ⟨t, p, q⟩ := h.ex
  refine ⟨t, p, fun G en F H σ Q R k => ?_⟩
  unfold eView at k
  split at k
  · rename_i b d e
    obtain ⟨pa, h1, h2, h3⟩ := R.owV e
    obtain ⟨o, ho⟩ := h3.some
    obtain ⟨R1, s1⟩ := R.lendR e h1 ho
    refine q (G.lendR pa) _ _ H σ Q R1 ?_
    cases z : f (en.set i (.sh d)) with
    | bad => rw [z] at k; exact k
    | ex x e2 => rw [z] at k; exact (show False from k).elim
    | ok a e2 =>
      rw [z] at k
      intro v F2 H2 R2 s2 o2
      cases a with
      | bor j => exact k.elim
      | sh qd =>
        have k' : PE1 X WX0 G F σ (viewEnd i b d en (.sh qd) e2) Q := k
        unfold viewEnd at k'
        dsimp only at k'
        split at k'
        · rename_i hz
          obtain ⟨z1, z2⟩ := hz
          obtain ⟨R3, s3⟩ := Rel.backR R e h1 ho R2 s2 z2
          exact k' v _ H2 R3 s3 (flat_rep o2 z1 _)
        · split at k'
          · rename_i hb
            subst hb
            exact k' v F2 H2 (Rel.keepR R e h1 R2) (s1.trans s2) o2
          · exact k'.elim
  · exact q G en F H σ Q R k
end
end M
set_option Elab.async false
set_option linter.all false
set_option maxRecDepth 100000
set_option autoImplicit false
/-! M14: reckoning with meanings: an operand ahead of what follows it. -/
namespace M
noncomputable section
open PySem PySem.Spec L2
theorem cR {α β : Type} {r r' : M.R α} {g : α → En → M.R β} (h : r = r') : r.bind g = r'.bind g := by rw [h]
theorem cSt {α : Type} {r r' : M.R α} {g : α → En → SR} (h : r = r') : r.st g = r'.st g := by rw [h]
theorem cSR {r r' : SR} {g : En → SR} (h : r = r') : r.bind g = r'.bind g := by rw [h]
theorem cOB {α β : Type} {r r' : Option α} {g : α → Option β} (h : r = r') : r.bind g = r'.bind g := by rw [h]
section
variable {α β : Type}
@[simp] theorem R_ok (a : α) (e : En) (g : α → En → M.R β) : (M.R.ok a e).bind g = g a e := rfl
@[simp] theorem R_bad (g : α → En → M.R β) : (M.R.bad).bind g = .bad := rfl
@[simp] theorem st_ok (a : α) (e : En) (g : α → En → SR) : (M.R.ok a e).st g = g a e := rfl
@[simp] theorem nox_ok (a : α) (e : En) : (M.R.ok a e).nox = .ok a e := rfl
@[simp] theorem SR_nx (e : En) (g : En → SR) : (SR.nx e).bind g = g e := rfl
@[simp] theorem SR_rt (o : Bool) (d : D) (e : En) (g : En → SR) : (SR.rt o d e).bind g = .rt o d e := rfl
@[simp] theorem SR_bk (e : En) (g : En → SR) : (SR.bk e).bind g = .bk e := rfl
@[simp] theorem SR_ct (e : En) (g : En → SR) : (SR.ct e).bind g = .ct e := rfl
@[simp] theorem fin_s (d : D) (e : En) : fin (some d) e = .ok (.sh d) e := rfl
@[simp] theorem res_sh (e : En) (d : D) : res e (.sh d) = some d := rfl
def getSl : Option Sl → Option D
  | some (.sh d) => some d
  | some (.ow _ d) => some d
  | _ => none
@[simp] theorem res_bor (e : En) (i : Nat) : res e (.bor i) = getSl e[i]? := by unfold res getSl; rfl
@[simp] theorem getSl_sh (d : D) : getSl (some (.sh d)) = some d := rfl
@[simp] theorem getSl_ow (b : Bool) (d : D) : getSl (some (.ow b d)) = some d := rfl
def varSl (i : Nat) (e : En) : Option Sl → M.R A
  | some (.sh d) => .ok (.sh d) e
  | some (.ow _ _) => .ok (.bor i) e
  | _ => .bad
@[simp] theorem eVar_r (i : Nat) (e : En) : eVar i e = varSl i e e[i]? := by unfold eVar varSl; rfl
@[simp] theorem varSl_sh (i : Nat) (e : En) (d : D) : varSl i e (some (.sh d)) = .ok (.sh d) e := rfl
@[simp] theorem varSl_ow (i : Nat) (e : En) (b : Bool) (d : D) : varSl i e (some (.ow b d)) = .ok (.bor i) e := rfl
@[simp] theorem eC_r (d : D) (e : En) : eC d e = .ok (.sh d) e := rfl
@[simp] theorem eUn_r (g : D → Option D) (fa : Ev A) (e : En) : eUn g fa e = (fa e).bind fun a e1 => fin ((res e1 a).bind g) e1 := rfl
@[simp] theorem eBin_r (g : D → D → Option D) (fa fb : Ev A) (e : En) : eBin g fa fb e = (fa e).bind fun a e1 => (fb e1).bind fun b e2 => fin ((res e2 a).bind fun x => (res e2 b).bind fun y => g x y) e2 := rfl
@[simp] theorem eAdd_r (fa fb : Ev A) (e : En) : eAdd fa fb e = eBin dAddU fa fb e := rfl
@[simp] theorem eSub_r (fa fb : Ev A) (e : En) : eSub fa fb e = eBin dSub fa fb e := rfl
@[simp] theorem eMul_r (fa fb : Ev A) (e : En) : eMul fa fb e = eBin dMulU fa fb e := rfl
@[simp] theorem eFdiv_r (fa fb : Ev A) (e : En) : eFdiv fa fb e = eBin dFdiv fa fb e := rfl
@[simp] theorem eMod_r (fa fb : Ev A) (e : En) : eMod fa fb e = eBin dMod fa fb e := rfl
@[simp] theorem ePow_r (fa fb : Ev A) (e : En) : ePow fa fb e = eBin dPow fa fb e := rfl
@[simp] theorem eLt_r (fa fb : Ev A) (e : En) : eLt fa fb e = eBin dLt fa fb e := rfl
@[simp] theorem eLe_r (fa fb : Ev A) (e : En) : eLe fa fb e = eBin dLe fa fb e := rfl
@[simp] theorem eGt_r (fa fb : Ev A) (e : En) : eGt fa fb e = eBin dGt fa fb e := rfl
@[simp] theorem eGe_r (fa fb : Ev A) (e : En) : eGe fa fb e = eBin dGe fa fb e := rfl
@[simp] theorem eEq_r (fa fb : Ev A) (e : En) : eEq fa fb e = eBin dEq fa fb e := rfl
@[simp] theorem eNe_r (fa fb : Ev A) (e : En) : eNe fa fb e = eBin dNe fa fb e := rfl
@[simp] theorem eIsN_r (fa fb : Ev A) (e : En) : eIsN fa fb e = eBin dIsN fa fb e := rfl
@[simp] theorem eNotN_r (fa fb : Ev A) (e : En) : eNotN fa fb e = eBin dNotN fa fb e := rfl
@[simp] theorem eIx_r (fa fb : Ev A) (e : En) : eIx fa fb e = eBin dIx fa fb e := rfl
@[simp] theorem eNil_r (e : En) : eNil e = .ok [] e := rfl
@[simp] theorem eCons_r (fa : Ev A) (fs : Ev (List A)) (e : En) : eCons fa fs e = (fa e).bind fun a e1 => (fs e1).bind fun as e2 => .ok (a :: as) e2 := rfl
@[simp] theorem eFn_r (g : List D → Option D) (fs : Ev (List A)) (e : En) : eFn g fs e = (fs e).bind fun as e1 => fin ((ress e1 as).bind g) e1 := rfl
@[simp] theorem eOwn_r (f : Ev D) (e : En) : eOwn f e = (f e).bind fun d e1 => .ok (.sh d) e1 := rfl
def okOr {α : Type} : Option (α × En) → M.R α
  | some (d, e) => .ok d e
  | none => .bad
@[simp] theorem okOr_s (d : α) (e : En) : okOr (some (d, e)) = .ok d e := rfl
@[simp] theorem eHold_r (f : Ev A) (e : En) : eHold f e = (f e).bind fun a e1 => okOr (hold1 e1 a) := by
  unfold eHold; refine congrArg _ ?_; funext a e1; cases hold1 e1 a <;> rfl
@[simp] theorem eHolds_r (f : Ev (List A)) (e : En) : eHolds f e = (f e).bind fun a e1 => okOr (holds a e1) := by
  unfold eHolds; refine congrArg _ ?_; funext a e1; cases holds a e1 <;> rfl
@[simp] theorem hold1_sh (e : En) (d : D) : hold1 e (.sh d) = some (d, e) := rfl
def holdSl (i : Nat) (e : En) : Option Sl → Option (D × En)
  | some (.sh d) => some (d, e)
  | some (.ow false d) => some (d, e.set i (.sh d))
  | _ => none
@[simp] theorem hold1_bor (e : En) (i : Nat) : hold1 e (.bor i) = holdSl i e e[i]? := by unfold hold1 holdSl; rfl
@[simp] theorem holdSl_sh (i : Nat) (e : En) (d : D) : holdSl i e (some (.sh d)) = some (d, e) := rfl
@[simp] theorem holdSl_ow (i : Nat) (e : En) (d : D) : holdSl i e (some (.ow false d)) = some (d, e.set i (.sh d)) := rfl
@[simp] theorem holds_nil (e : En) : holds [] e = some ([], e) := rfl
@[simp] theorem holds_cons (a : A) (as : List A) (e : En) : holds (a :: as) e = (hold1 e a).bind fun p => (holds as p.2).bind fun q => some (p.1 :: q.1, q.2) := rfl
@[simp] theorem ress_nil (e : En) : ress e [] = some [] := rfl
@[simp] theorem ress_cons (e : En) (a : A) (as : List A) : ress e (a :: as) = (res e a).bind fun d => (ress e as).bind fun ds => some (d :: ds) := rfl
@[simp] theorem eFrz_r (f : Ev A) (e : En) : eFrz f e = (eHold f e).bind fun d e1 => .ok (.sh d) e1 := rfl
@[simp] theorem eTup_r (f : Ev (List A)) (e : En) : eTup f e = (eHolds f e).bind fun ds e1 => if small ds.length then .ok (.sh (.tuple ds)) e1 else .bad := rfl
@[simp] theorem oLst_r (f : Ev (List A)) (e : En) : oLst f e = (eHolds f e).bind fun ds e1 => if small ds.length then .ok (.list ds) e1 else .bad := rfl
@[simp] theorem eIf_r (c : Ev Bool) (fa fb : Ev A) (e : En) : eIf c fa fb e = (c e).bind fun b e1 => if b = true then fa e1 else fb e1 := rfl
@[simp] theorem bOf_b (b : Bool) : bOf (.bool b) = some b := rfl
def okB : Option Bool → En → M.R Bool
  | some b, e => .ok b e
  | none, _ => .bad
@[simp] theorem okB_s (b : Bool) (e : En) : okB (some b) e = .ok b e := rfl
@[simp] theorem tOf_r (f : Ev A) (e : En) : tOf f e = (f e).bind fun a e1 => okB ((res e1 a).bind bOf) e1 := by
  unfold tOf; refine congrArg _ ?_; funext a e1; cases (res e1 a).bind bOf <;> rfl
@[simp] theorem tAnd2_r (fa fb : Ev Bool) (e : En) : tAnd2 fa fb e = (fa e).bind fun b e1 => if b = true then fb e1 else .ok false e1 := rfl
@[simp] theorem tOr2_r (fa fb : Ev Bool) (e : En) : tOr2 fa fb e = (fa e).bind fun b e1 => if b = true then .ok true e1 else fb e1 := rfl
@[simp] theorem tNo_r (fa : Ev Bool) (e : En) : tNo fa e = (fa e).bind fun b e1 => .ok (!b) e1 := rfl
@[simp] theorem tYes1_r (e : En) : tYes1 e = .ok true e := rfl
def andB (g : En → M.R A) (e : En) : Option Bool → M.R A
  | some true => g e
  | some false => .ok (.sh (.bool false)) e
  | none => .bad
def orB (g : En → M.R A) (e : En) : Option Bool → M.R A
  | some true => .ok (.sh (.bool true)) e
  | some false => g e
  | none => .bad
@[simp] theorem andB_t (g : En → M.R A) (e : En) : andB g e (some true) = g e := rfl
@[simp] theorem andB_f (g : En → M.R A) (e : En) : andB g e (some false) = .ok (.sh (.bool false)) e := rfl
@[simp] theorem orB_t (g : En → M.R A) (e : En) : orB g e (some true) = .ok (.sh (.bool true)) e := rfl
@[simp] theorem orB_f (g : En → M.R A) (e : En) : orB g e (some false) = g e := rfl
@[simp] theorem eAnd_r (fa fb : Ev A) (e : En) : eAnd fa fb e = (fa e).bind fun a e1 => andB fb e1 ((res e1 a).bind bOf) := by
  unfold eAnd; refine congrArg _ ?_; funext a e1; cases (res e1 a).bind bOf with
  | none => rfl
  | some b => cases b <;> rfl
@[simp] theorem eOr_r (fa fb : Ev A) (e : En) : eOr fa fb e = (fa e).bind fun a e1 => orB fb e1 ((res e1 a).bind bOf) := by
  unfold eOr; refine congrArg _ ?_; funext a e1; cases (res e1 a).bind bOf with
  | none => rfl
  | some b => cases b <;> rfl
def notB (e : En) : Option Bool → M.R A
  | some b => .ok (.sh (.bool (!b))) e
  | none => .bad
@[simp] theorem notB_s (e : En) (b : Bool) : notB e (some b) = .ok (.sh (.bool (!b))) e := rfl
@[simp] theorem eNot_r (fa : Ev A) (e : En) : eNot fa e = (fa e).bind fun a e1 => notB e1 ((res e1 a).bind bOf) := by
  unfold eNot; refine congrArg _ ?_; funext a e1; cases (res e1 a).bind bOf <;> rfl
/-! ### calls -/
@[simp] theorem argOf_sh (e : En) (d : D) : argOf e (.sh d) = some (.sh d) := rfl
def argSl : Option Sl → Option Sl
  | some (.sh d) => some (.sh d)
  | some (.ow _ d) => some (.ow true d)
  | _ => none
@[simp] theorem argOf_bor (e : En) (i : Nat) : argOf e (.bor i) = argSl e[i]? := by unfold argOf argSl; rfl
@[simp] theorem argSl_sh (d : D) : argSl (some (.sh d)) = some (.sh d) := rfl
@[simp] theorem argSl_ow (b : Bool) (d : D) : argSl (some (.ow b d)) = some (.ow true d) := rfl
@[simp] theorem argsOf_nil (e : En) : argsOf e [] = some [] := rfl
@[simp] theorem argsOf_cons (e : En) (a : A) (as : List A) : argsOf e (a :: as) = (argOf e a).bind fun d => (argsOf e as).bind fun ds => some (d :: ds) := rfl
@[simp] theorem bors_nil : bors [] = [] := rfl
@[simp] theorem bors_sh (d : D) (as : List A) : bors (.sh d :: as) = bors as := rfl
@[simp] theorem bors_bor (i : Nat) (as : List A) : bors (.bor i :: as) = i :: bors as := rfl
def retRt (as : List A) (e : En) : Rt → M.R (Bool × D)
  | .bad => .bad
  | .ret o d as' => .ok (o, d) (back as as' e)
  | .exc x as' => .ex x (back as as' e)
@[simp] theorem retRt_ret (as : List A) (e : En) (o : Bool) (d : D) (as' : List Sl) : retRt as e (.ret o d as') = .ok (o, d) (back as as' e) := rfl
def runSl (Fd : List Sl → Rt) (as : List A) (e : En) : Option (List Sl) → M.R (Bool × D)
  | some ss => retRt as e (Fd ss)
  | none => .bad
@[simp] theorem runSl_s (Fd : List Sl → Rt) (as : List A) (e : En) (ss : List Sl) : runSl Fd as e (some ss) = retRt as e (Fd ss) := rfl
@[simp] theorem callRt_r (Fd : List Sl → Rt) (as : List A) (e : En) : callRt Fd as e = if (bors as).Nodup then runSl Fd as e (argsOf e as) else .bad := by
  unfold callRt
  by_cases h : (bors as).Nodup
  · rw [if_pos h, if_pos h]
    cases argsOf e as with
    | none => rfl
    | some ss => show _ = retRt as e (Fd ss); cases q : Fd ss <;> simp [retRt, q]
  · rw [if_neg h, if_neg h]
@[simp] theorem eCall_r (Fd : List Sl → Rt) (fs : Ev (List A)) (e : En) : eCall Fd fs e = (fs e).bind fun as e1 => (callRt Fd as e1).bind fun p e2 => .ok (.sh p.2) e2 := rfl
@[simp] theorem oCall_r (Fd : List Sl → Rt) (fs : Ev (List A)) (e : En) : oCall Fd fs e = (fs e).bind fun as e1 => (callRt Fd as e1).bind fun p e2 => if p.1 = true then .ok p.2 e2 else .bad := rfl
@[simp] theorem back_nil (ss : List Sl) (e : En) : back [] ss e = e := by cases ss <;> rfl
@[simp] theorem back_sh (d : D) (as : List A) (s : Sl) (ss : List Sl) (e : En) : back (.sh d :: as) (s :: ss) e = back as ss e := rfl
def backSl (i : Nat) (s : Sl) (e : En) : Option Sl → En
  | some (.ow b _) => e.set i (match s with
    | .ow true d => .ow b d
    | _ => .un)
  | _ => e
@[simp] theorem back_bor (i : Nat) (as : List A) (s : Sl) (ss : List Sl) (e : En) : back (.bor i :: as) (s :: ss) e = back as ss (backSl i s e e[i]?) := by
  show back as ss _ = back as ss _
  congr 1
@[simp] theorem backSl_ow (i : Nat) (e : En) (b : Bool) (d d' : D) : backSl i (.ow true d') e (some (.ow b d)) = e.set i (.ow b d') := rfl
@[simp] theorem backSl_sh (i : Nat) (s : Sl) (e : En) (d : D) : backSl i s e (some (.sh d)) = e := rfl
@[simp] theorem outs_nil (e : En) : outs [] e = some [] := by cases e <;> rfl
@[simp] theorem outs_ow (d d' : D) (as : List Sl) (e : En) : outs (.ow true d :: as) (.ow true d' :: e) = (outs as e).bind fun r => some (.ow true d' :: r) := rfl
@[simp] theorem outs_sh (d : D) (as : List Sl) (s : Sl) (e : En) : outs (.sh d :: as) (s :: e) = (outs as e).bind fun r => some (.un :: r) := rfl
@[simp] theorem okArgs_nil : okArgs [] = true := rfl
@[simp] theorem okArgs_ow (d : D) (as : List Sl) : okArgs (.ow true d :: as) = okArgs as := rfl
@[simp] theorem okArgs_sh (d : D) (as : List Sl) : okArgs (.sh d :: as) = okArgs as := rfl
def retSR (as : List Sl) : SR → Rt
  | .nx e => match outs as e with
    | some r => .ret false .none r
    | none => .bad
  | .rt o d e => match outs as e with
    | some r => .ret o d r
    | none => .bad
  | _ => .bad
def retO (o : Bool) (d : D) : Option (List Sl) → Rt
  | some r => .ret o d r
  | none => .bad
@[simp] theorem retO_s (o : Bool) (d : D) (r : List Sl) : retO o d (some r) = .ret o d r := rfl
@[simp] theorem retSR_nx (as : List Sl) (e : En) : retSR as (.nx e) = retO false .none (outs as e) := by
  show (match outs as e with | some r => Rt.ret false .none r | none => .bad) = _
  cases outs as e <;> rfl
@[simp] theorem retSR_rt (as : List Sl) (o : Bool) (d : D) (e : En) : retSR as (.rt o d e) = retO o d (outs as e) := by
  show (match outs as e with | some r => Rt.ret o d r | none => .bad) = _
  cases outs as e <;> rfl
theorem run0_r (n : Nat) (body : En → SR) (as : List Sl) (h : okArgs as = true) : run0 n body as = retSR as (body (as ++ List.replicate (n - as.length) .un)) := by
  unfold run0 runDef
  rw [if_pos h]
  cases body (as ++ List.replicate (n - as.length) .un) with
  | bad => rfl
  | nx e => show (match (match outs as e with | some r => Rt.ret false .none r | none => .bad) with | .exc _ _ => Rt.bad | r => r) = retSR as (.nx e); rw [retSR_nx]; cases outs as e <;> rfl
  | bk e => rfl
  | ct e => rfl
  | rt o d e => show (match (match outs as e with | some r => Rt.ret o d r | none => .bad) with | .exc _ _ => Rt.bad | r => r) = retSR as (.rt o d e); rw [retSR_rt]; cases outs as e <;> rfl
  | ex x e => show (match (match outs as e with | some r => Rt.exc x r | none => .bad) with | .exc _ _ => Rt.bad | r => r) = Rt.bad; cases outs as e <;> rfl
/-! ### statements -/
@[simp] theorem sNil_r (e : En) : sNil e = .nx e := rfl
@[simp] theorem sSeq_r (f g : En → SR) (e : En) : sSeq f g e = (f e).bind g := rfl
@[simp] theorem sIf_r (c : Ev Bool) (f g : En → SR) (e : En) : sIf c f g e = (c e).st fun b e1 => if b = true then f e1 else g e1 := rfl
@[simp] theorem sExpr_r (f : Ev A) (e : En) : sExpr f e = (f e).st fun _ e1 => .nx e1 := rfl
@[simp] theorem sRet_r (f : Ev A) (e : En) : sRet f e = (eHold f e).st fun d e1 => .rt false d e1 := rfl
@[simp] theorem sRetO_r (f : Ev D) (e : En) : sRetO f e = (f e).st fun d e1 => .rt true d e1 := rfl
@[simp] theorem sRetN_r (e : En) : sRetN e = .rt false .none e := rfl
def retSl (i : Nat) (e : En) : Option Sl → SR
  | some (.sh d) => .rt false d e
  | some (.ow false d) => .rt true d (e.set i .un)
  | _ => .bad
@[simp] theorem sRetV_r (i : Nat) (e : En) : sRetV i e = retSl i e e[i]? := by unfold sRetV retSl; rfl
@[simp] theorem retSl_sh (i : Nat) (e : En) (d : D) : retSl i e (some (.sh d)) = .rt false d e := rfl
@[simp] theorem retSl_ow (i : Nat) (e : En) (d : D) : retSl i e (some (.ow false d)) = .rt true d (e.set i .un) := rfl
def nxO : Option En → SR
  | some e => .nx e
  | none => .bad
@[simp] theorem nxO_s (e : En) : nxO (some e) = .nx e := rfl
@[simp] theorem sAsg_r (g : Gt) (f : Ev A) (e : En) : sAsg g f e = (eHold f e).st fun d e1 => nxO (g d e1) := by
  unfold sAsg; refine congrArg _ ?_; funext d e1; cases g d e1 <;> rfl
@[simp] theorem gN_r (i : Nat) (d : D) (e : En) : gN i d e = some (e.set i (.sh d)) := rfl
@[simp] theorem gT_r (gs : List Gt) (ds : List D) (e : En) : gT gs (.tuple ds) e = gTs gs ds e := rfl
@[simp] theorem gTs_nil (e : En) : gTs [] [] e = some e := rfl
@[simp] theorem gTs_cons (g : Gt) (gs : List Gt) (d : D) (ds : List D) (e : En) : gTs (g :: gs) (d :: ds) e = (g d e).bind fun e1 => gTs gs ds e1 := rfl
@[simp] theorem sSetO_r (i : Nat) (f : Ev D) (e : En) : sSetO i f e = (f e).st fun d e1 => .nx (e1.set i (.ow false d)) := rfl
@[simp] theorem isLo_ow (b : Bool) (xs : List D) : isLo (.ow b (.list xs)) = true := rfl
@[simp] theorem sSetIx_r (i : Nat) (fe fi : Ev A) (e : En) : sSetIx i fe fi e = (eHold fe e).st fun d e1 => if (e1[i]?.map isLo) = some true then (fi e1).st fun a e2 => setAt i d a e2 else .bad := rfl
def setSl (i : Nat) (d : D) (e2 : En) : Option D → Option Sl → SR
  | some (.int k), some (.ow b (.list xs)) => match ixN xs.length k with
    | some j => .nx (e2.set i (.ow b (.list (xs.set j d))))
    | none => .bad
  | _, _ => .bad
@[simp] theorem setAt_r (i : Nat) (d : D) (a : A) (e2 : En) : setAt i d a e2 = setSl i d e2 (res e2 a) e2[i]? := by unfold setAt setSl; rfl
theorem setSl_l (i : Nat) (d : D) (e2 : En) (k : Int) (b : Bool) (xs : List D) (j : Nat) (h : ixN xs.length k = some j) : setSl i d e2 (some (.int k)) (some (.ow b (.list xs))) = .nx (e2.set i (.ow b (.list (xs.set j d)))) := by
  unfold setSl; simp [h]
@[simp] theorem eMeth_r (i : Nat) (g : D → List D → Option (D × D)) (fs : Ev (List A)) (e : En) : eMeth i g fs e = if (e[i]?.map isLo) = some true then (eHolds fs e).bind fun ds e1 => methAt i g ds e1 else .bad := rfl
def methO (i : Nat) (b : Bool) (e1 : En) : Option (D × D) → M.R A
  | some (d', q) => .ok (.sh q) (e1.set i (.ow b d'))
  | none => .bad
def methSl (i : Nat) (g : D → List D → Option (D × D)) (ds : List D) (e1 : En) : Option Sl → M.R A
  | some (.ow b d) => methO i b e1 (g d ds)
  | _ => .bad
@[simp] theorem methAt_r (i : Nat) (g : D → List D → Option (D × D)) (ds : List D) (e1 : En) : methAt i g ds e1 = methSl i g ds e1 e1[i]? := by
  unfold methAt methSl
  cases e1[i]? with
  | none => rfl
  | some s => cases s with
    | ow b d => simp only; cases g d ds with
      | none => rfl
      | some p => rfl
    | _ => rfl
@[simp] theorem methSl_ow (i : Nat) (g : D → List D → Option (D × D)) (ds : List D) (e1 : En) (b : Bool) (d : D) : methSl i g ds e1 (some (.ow b d)) = methO i b e1 (g d ds) := rfl
@[simp] theorem methO_s (i : Nat) (b : Bool) (e1 : En) (d q : D) : methO i b e1 (some (d, q)) = .ok (.sh q) (e1.set i (.ow b d)) := rfl
@[simp] theorem gAppend_l (xs : List D) (y : D) : gAppend (.list xs) [y] = if small xs.length then some (.list (xs ++ [y]), .none) else none := rfl
@[simp] theorem gReverse_l (xs : List D) : gReverse (.list xs) [] = some (.list xs.reverse, .none) := rfl
@[simp] theorem sFor_r (fi : Ev (List D)) (g : Gt) (body : En → SR) (e : En) : sFor fi g body e = (fi e).st fun ds e1 => forD g body ds e1 := rfl
def listOf : D → En → M.R (List D)
  | .list ds, e => .ok ds e
  | .tuple ds, e => .ok ds e
  | _, _ => .bad
@[simp] theorem iS_r (fa : Ev A) (e : En) : iS fa e = (eHold fa e).bind fun d e1 => listOf d e1 := by
  unfold iS; refine congrArg _ ?_; funext d e1; cases d <;> rfl
@[simp] theorem listOf_l (ds : List D) (e : En) : listOf (.list ds) e = .ok ds e := rfl
@[simp] theorem listOf_t (ds : List D) (e : En) : listOf (.tuple ds) e = .ok ds e := rfl
noncomputable def rngOf : Option (List D) → En → M.R (List D)
  | some [.int n], e => if okR n then .ok (rangeD 0 n.toNat) e else .bad
  | _, _ => .bad
@[simp] theorem iR1_r (fs : Ev (List A)) (e : En) : iR1 fs e = (fs e).bind fun as e1 => rngOf (ress e1 as) e1 := by
  unfold iR1; refine congrArg _ ?_; funext as e1; unfold rngOf; generalize ress e1 as = q; revert q; intro q; rcases q with _ | ds; · rfl
  rcases ds with _ | ⟨d, ds⟩; · rfl
  rcases ds with _ | ⟨d2, ds⟩
  · cases d <;> rfl
  · cases d <;> rfl
theorem rngOf_i (n : Int) (e : En) (h : okR n = true) : rngOf (some [.int n]) e = .ok (rangeD 0 n.toNat) e := by
  unfold rngOf; simp [h]
def zipOf : List D → En → M.R (List D)
  | [.list xs, .list ys], e => .ok (zipD xs ys) e
  | [.tuple xs, .tuple ys], e => .ok (zipD xs ys) e
  | _, _ => .bad
@[simp] theorem iZ_r (fs : Ev (List A)) (e : En) : iZ fs e = (eHolds fs e).bind fun ds e1 => zipOf ds e1 := by
  unfold iZ; refine congrArg _ ?_; funext ds e1; unfold zipOf
  rcases ds with _ | ⟨d, ds⟩; · rfl
  rcases ds with _ | ⟨d2, ds⟩; · cases d <;> rfl
  rcases ds with _ | ⟨d3, ds⟩
  · cases d <;> cases d2 <;> rfl
  · cases d <;> cases d2 <;> rfl
@[simp] theorem zipOf_l (xs ys : List D) (e : En) : zipOf [.list xs, .list ys] e = .ok (zipD xs ys) e := rfl
@[simp] theorem zipOf_t (xs ys : List D) (e : En) : zipOf [.tuple xs, .tuple ys] e = .ok (zipD xs ys) e := rfl
@[simp] theorem oLc_r (fi : Ev (List D)) (g : Gt) (t : Ev Bool) (f : Ev A) (own : List Nat) (e : En) : oLc fi g t f own e = (fi e).bind fun ds e1 => lcD g t f own ds [] e1 := rfl
@[simp] theorem f1_r (g : D → Option D) (d : D) : f1 g [d] = g d := rfl
@[simp] theorem f2_r (g : D → D → Option D) (d e : D) : f2 g [d, e] = g d e := rfl
/-! ### on data -/
@[simp] theorem dAddU_i (a b : Int) : dAddU (.int a) (.int b) = some (.int (a + b)) := rfl
@[simp] theorem dSub_i (a b : Int) : dSub (.int a) (.int b) = some (.int (a - b)) := rfl
theorem dMulU_i (a b : Int) (h : a.natAbs.log2 + b.natAbs.log2 < 1000000) : dMulU (.int a) (.int b) = some (.int (a * b)) := by simp [dMulU, h]
theorem dFdiv_i (a b : Int) (h : 0 < b) (h2 : b.natAbs.log2 < 9000) : dFdiv (.int a) (.int b) = some (.int (a / b)) := by simp [dFdiv, h, h2]
theorem dMod_i (a b : Int) (h : 0 < b) : dMod (.int a) (.int b) = some (.int (a % b)) := by simp [dMod, h]
theorem dPow_i (a b : Int) (h : 0 ≤ b ∧ b ≤ 100 ∧ a.natAbs.log2 < 100000) : dPow (.int a) (.int b) = some (.int (a ^ b.toNat)) := by simp [dPow, h]
@[simp] theorem dLt_i (a b : Int) : dLt (.int a) (.int b) = some (.bool (decide (a < b))) := rfl
@[simp] theorem dLe_i (a b : Int) : dLe (.int a) (.int b) = some (.bool (decide (a ≤ b))) := rfl
@[simp] theorem dGt_i (a b : Int) : dGt (.int a) (.int b) = some (.bool (decide (b < a))) := rfl
@[simp] theorem dGe_i (a b : Int) : dGe (.int a) (.int b) = some (.bool (decide (b ≤ a))) := rfl
@[simp] theorem dEq_i (a b : Int) : dEq (.int a) (.int b) = some (.bool (a == b)) := by simp [dEq, dEqN, nd, SeqAt.shaped, PyData.canLay0, PyData.depth, PyData.eqv]
@[simp] theorem dNe_i (a b : Int) : dNe (.int a) (.int b) = some (.bool (!(a == b))) := by simp [dNe, dNeN, nd, SeqAt.shaped, PyData.canLay0, PyData.depth, PyData.eqv]
@[simp] theorem dEq_b (a b : Bool) : dEq (.bool a) (.bool b) = some (.bool (a == b)) := by simp [dEq, dEqN, nd, SeqAt.shaped, PyData.canLay0, PyData.depth, PyData.eqv]
@[simp] theorem dNe_b (a b : Bool) : dNe (.bool a) (.bool b) = some (.bool (!(a == b))) := by simp [dNe, dNeN, nd, SeqAt.shaped, PyData.canLay0, PyData.depth, PyData.eqv]
@[simp] theorem dEq_s (a b : Str) : dEq (.str a) (.str b) = some (.bool (a == b)) := rfl
@[simp] theorem dNe_s (a b : Str) : dNe (.str a) (.str b) = some (.bool (!(a == b))) := rfl
@[simp] theorem dIsN_r (d : D) : dIsN d .none = some (.bool (isN d)) := rfl
@[simp] theorem dNotN_r (d : D) : dNotN d .none = some (.bool (!isN d)) := rfl
@[simp] theorem isN_int (i : Int) : isN (.int i) = false := rfl
@[simp] theorem isN_list (i : List D) : isN (.list i) = false := rfl
@[simp] theorem isN_tup (i : List D) : isN (.tuple i) = false := rfl
@[simp] theorem isN_none : isN .none = true := rfl
@[simp] theorem dIx_l (xs : List D) (i : Int) : dIx (.list xs) (.int i) = atI xs i := rfl
@[simp] theorem dIx_t (xs : List D) (i : Int) : dIx (.tuple xs) (.int i) = atI xs i := rfl
theorem ixN_nat (n j : Nat) : ixN n (j : Int) = if j < n then some j else none := by
  unfold ixN
  by_cases h : j < n
  · simp [h]
  · simp [h]
theorem atI_natE (xs : List D) (j : Nat) : atI xs (j : Int) = xs[j]? := by
  unfold atI
  rw [ixN_nat]
  by_cases h : j < xs.length
  · rw [if_pos h]; rfl
  · rw [if_neg h, List.getElem?_eq_none (by omega)]; rfl
@[simp] theorem atI_0 (x : D) (xs : List D) : atI (x :: xs) 0 = some x := atI_natE (x :: xs) 0
@[simp] theorem atI_1 (x y : D) (xs : List D) : atI (x :: y :: xs) 1 = some y := atI_natE (x :: y :: xs) 1
@[simp] theorem atI_2 (x y z : D) (xs : List D) : atI (x :: y :: z :: xs) 2 = some z := atI_natE (x :: y :: z :: xs) 2
@[simp] theorem atI_3 (x y z u : D) (xs : List D) : atI (x :: y :: z :: u :: xs) 3 = some u := atI_natE (x :: y :: z :: u :: xs) 3
@[simp] theorem atI_4 (x y z u v : D) (xs : List D) : atI (x :: y :: z :: u :: v :: xs) 4 = some v := atI_natE (x :: y :: z :: u :: v :: xs) 4
@[simp] theorem set_0 (i : Nat) (d x : D) (e2 : En) (b : Bool) (xs : List D) : setSl i d e2 (some (.int 0)) (some (.ow b (.list (x :: xs)))) = .nx (e2.set i (.ow b (.list (d :: xs)))) := setSl_l i d e2 0 b _ 0 (ixN_nat _ 0)
@[simp] theorem set_1 (i : Nat) (d x y : D) (e2 : En) (b : Bool) (xs : List D) : setSl i d e2 (some (.int 1)) (some (.ow b (.list (x :: y :: xs)))) = .nx (e2.set i (.ow b (.list (x :: d :: xs)))) := setSl_l i d e2 1 b _ 1 (by rw [show (1 : Int) = ((1 : Nat) : Int) from rfl, ixN_nat]; simp)
@[simp] theorem set_2 (i : Nat) (d x y z : D) (e2 : En) (b : Bool) (xs : List D) : setSl i d e2 (some (.int 2)) (some (.ow b (.list (x :: y :: z :: xs)))) = .nx (e2.set i (.ow b (.list (x :: y :: d :: xs)))) := setSl_l i d e2 2 b _ 2 (by rw [show (2 : Int) = ((2 : Nat) : Int) from rfl, ixN_nat]; simp)
@[simp] theorem dLen_l (xs : List D) : dLen (.list xs) = some (.int xs.length) := rfl
@[simp] theorem dLen_t (xs : List D) : dLen (.tuple xs) = some (.int xs.length) := rfl
@[simp] theorem dMax2_i (i j : Int) : dMax2 (.int i) (.int j) = some (.int (if j > i then j else i)) := rfl
@[simp] theorem dMin2_i (i j : Int) : dMin2 (.int i) (.int j) = some (.int (if j < i then j else i)) := rfl
@[simp] theorem dInt_b (b : Bool) : dInt (.bool b) = some (.int (if b then 1 else 0)) := rfl
@[simp] theorem dTuple_l (xs : List D) : dTuple (.list xs) = some (.tuple xs) := rfl
@[simp] theorem dTuple_t (xs : List D) : dTuple (.tuple xs) = some (.tuple xs) := rfl
@[simp] theorem small_lit (n : Nat) : small n = decide (n ≤ 1000000) := small_d n
/-- a loop keeps its invariant -/
theorem for_inv {g : Gt} {body : En → SR} (I : Nat → En → Prop) : ∀ (ds : List D) (n : Nat) (e : En), I n e →
    (∀ j d e, ds[j]? = some d → I (n + j) e → ∃ e1 e2, g d e = some e1 ∧ (body e1 = .nx e2 ∨ body e1 = .ct e2) ∧ I (n + j + 1) e2) → ∃ e', forD g body ds e = .nx e' ∧ I (n + ds.length) e'
  | [], n, e, h0, _ => ⟨e, rfl, h0⟩
  | d :: ds, n, e, h0, h => by
    obtain ⟨e1, e2, a, b, c⟩ := h 0 d e rfl h0
    obtain ⟨e', q, r⟩ := for_inv I ds (n + 1) e2 c fun j d e hj hi => by
      have := h (j + 1) d e (by simpa using hj) (by rw [show n + (j + 1) = n + 1 + j by omega]; exact hi)
      rw [show n + (j + 1) + 1 = n + 1 + j + 1 by omega] at this
      exact this
    refine ⟨e', ?_, by rw [show n + (d :: ds).length = n + 1 + ds.length by simp; omega]; exact r⟩
    rw [← q]; unfold forD; rw [a]; rcases b with b | b <;> simp only [b] <;> (cases ds <;> rfl)
theorem range_at {lo : Int} {n j : Nat} {d : D} (h : (rangeD lo n)[j]? = some d) : d = .int (lo + j) ∧ j < n := by
  unfold rangeD at h
  rw [List.getElem?_map] at h
  by_cases q : j < n
  · rw [List.getElem?_range q] at h; simp at h; exact ⟨h.symm, q⟩
  · rw [List.getElem?_eq_none (by simp; omega)] at h; simp at h
@[simp] theorem range_len (lo : Int) (n : Nat) : (rangeD lo n).length = n := by simp [rangeD]
end
end
end M
set_option Elab.async false
set_option linter.all false
set_option maxRecDepth 100000
set_option autoImplicit false
/-! M15: how long a shown datum can be -/
namespace M
noncomputable section
open PySem PySem.Spec PyProof.Rows L2
mutual
def wt : D → Nat
  | .none => 4
  | .bool _ => 5
  | .int _ => 1921
  | .str s => (PyData.str s).shown.length
  | .list xs => 2 + wts xs
  | .tuple xs => 3 + wts xs
  | .dict kvs => (PyData.dict kvs).shown.length
def wts : List D → Nat
  | [] => 0
  | x :: xs => wt x + 2 + wts xs
end
theorem textFrom_le : ∀ (ts : List Str) (k : Nat) (acc : Str), (textFrom k acc ts).length ≤ acc.length + (ts.map fun t => t.length + 2).sum
  | [], _, acc => by simp [textFrom]
  | t :: ts, k, acc => by
    unfold textFrom
    refine Nat.le_trans (textFrom_le ts _ _) ?_
    rw [strLen_append, strLen_append]
    have : (Str.ofString (if k > 0 then ", " else "")).length ≤ 2 := by rw [PySem.ofString_length]; split <;> decide
    simp only [List.map_cons, List.sum_cons]
    omega
theorem join_le : ∀ (ts : List Str), ((Str.ofString ", ").join ts).length ≤ (ts.map fun t => t.length + 2).sum
  | [] => by simp [Str.join, Str.empty, Str.length]
  | [t] => by simp [Str.join]
  | t :: u :: ts => by
    have := join_le (u :: ts)
    unfold Str.join
    rw [strLen_append, strLen_append, PySem.ofString_length]
    simp only [List.map_cons, List.sum_cons] at *
    have : (", " : String).length = 2 := by decide
    omega
mutual
theorem shown_le : ∀ d : D, d.showable = true → d.shown.length ≤ wt d
  | .none, _ => by simp [PyData.shown, wt, PySem.ofString_length]; decide
  | .bool b, _ => by cases b <;> simp [PyData.shown, wt, PySem.ofString_length] <;> decide
  | .int i, h => by
    simp only [PyData.showable, decide_eq_true_eq] at h
    simp only [PyData.shown, wt]; exact int_text_len_1921 h
  | .str s, _ => by unfold wt; exact Nat.le_refl _
  | .dict s, _ => by unfold wt; exact Nat.le_refl _
  | .list xs, h => by
    simp only [PyData.showable] at h
    simp only [PyData.shown, wt, listText]
    rw [strLen_append, PySem.ofString_length]
    have := textFrom_le (PyData.shownAll xs) 0 (Str.ofString "[")
    have := shownAll_le xs h
    have : (Str.ofString "[").length = 1 := by rw [PySem.ofString_length]; decide
    have : ("]" : String).length = 1 := by decide
    omega
  | .tuple xs, h => by
    simp only [PyData.showable] at h
    simp only [PyData.shown, wt, tupleText]
    rw [strLen_append, strLen_append, PySem.ofString_length, PySem.ofString_length]
    have := join_le (PyData.shownAll xs)
    have := shownAll_le xs h
    have : ("(" : String).length = 1 := by decide
    have : (if ((PyData.shownAll xs).length == 1) = true then ",)" else ")" : String).length ≤ 2 := by split <;> decide
    omega
theorem shownAll_le : ∀ xs : List D, PyData.showableAll xs = true → ((PyData.shownAll xs).map fun t => t.length + 2).sum ≤ wts xs
  | [], _ => by simp [PyData.shownAll, wts]
  | x :: xs, h => by
    simp only [PyData.showableAll, Bool.and_eq_true] at h
    have a := shown_le x h.1
    have b := shownAll_le xs h.2
    simp only [PyData.shownAll, wts, List.map_cons, List.sum_cons]
    omega
end
theorem dRepr_ok {d : D} (h1 : isSeqD d = true) (h2 : nd d = true) (h3 : d.showable = true) (h4 : d.depth ≤ 60) (h5 : wt d ≤ 1000000) : dRepr d = some (.str d.shown) := by
  unfold dRepr
  have := shown_le d h3
  rw [if_pos]
  simp [h1, h2, h3, h4, small_lit]; omega
theorem wts_le {n : Nat} : ∀ {xs : List D}, (∀ x ∈ xs, wt x ≤ n) → wts xs ≤ (n + 2) * xs.length
  | [], _ => by simp [wts]
  | x :: xs, h => by
    have := wts_le (n := n) (xs := xs) fun y hy => h y (List.mem_cons_of_mem _ hy)
    have := h x (List.mem_cons_self ..)
    simp only [wts, List.length_cons, Nat.mul_succ]; omega
theorem showableAll_all : ∀ {xs : List D}, (∀ x ∈ xs, x.showable = true) → PyData.showableAll xs = true
  | [], _ => rfl
  | x :: xs, h => by
    simp only [PyData.showableAll, Bool.and_eq_true]
    exact ⟨h x (List.mem_cons_self ..), showableAll_all fun y hy => h y (List.mem_cons_of_mem _ hy)⟩
theorem nds_all : ∀ {xs : List D}, (∀ x ∈ xs, nd x = true) → nds xs = true
  | [], _ => rfl
  | x :: xs, h => by
    simp only [nds, Bool.and_eq_true]
    exact ⟨h x (List.mem_cons_self ..), nds_all fun y hy => h y (List.mem_cons_of_mem _ hy)⟩
theorem depthAll_le {n : Nat} : ∀ {xs : List D}, (∀ x ∈ xs, x.depth ≤ n) → PyData.depthAll xs ≤ n
  | [], _ => by simp [PyData.depthAll]
  | x :: xs, h => by
    have := h x (List.mem_cons_self ..)
    have := depthAll_le (n := n) (xs := xs) fun y hy => h y (List.mem_cons_of_mem _ hy)
    simp only [PyData.depthAll]; omega
theorem layAll_all : ∀ {xs : List D}, (∀ x ∈ xs, x.canLay0 = true) → PyData.canLayAll0 xs = true
  | [], _ => rfl
  | x :: xs, h => by
    simp only [PyData.canLayAll0, Bool.and_eq_true]
    exact ⟨h x (List.mem_cons_self ..), layAll_all fun y hy => h y (List.mem_cons_of_mem _ hy)⟩
theorem okR_of {n : Int} (h0 : -1000000 ≤ n) (h : n ≤ 1000000) : okR n = true := by
  rw [okR_d, decide_eq_true_eq]; constructor
  · exact Int.le_trans (by decide) h0
  · exact Int.lt_of_le_of_lt h (by decide)
/-- a comprehension that leaves its places as they were -/
theorem lc_map {g : Gt} {t : Ev Bool} {f : Ev A} {own : List Nat} {e : En} (φ : D → D) : ∀ (ds : List D) (acc : List D), acc.length + ds.length ≤ 1000000 →
    (∀ d ∈ ds, ∃ e1 e2 e3, g d (wipeE own e) = some e1 ∧ t e1 = .ok true e2 ∧ eHold f e2 = .ok (φ d) e3 ∧ restE own e e3 = e) → lcD g t f own ds acc e = .ok (.list (acc ++ ds.map φ)) e
  | [], acc, _, _ => by simp [lcD]
  | d :: ds, acc, h, k => by
    obtain ⟨e1, e2, e3, a, b, c, r⟩ := k d (List.mem_cons_self ..)
    have ih := lc_map φ ds (acc ++ [φ d]) (by simp at *; omega) fun d h => k d (List.mem_cons_of_mem _ h)
    have hs : acc.length + 1 ≤ 1000000 := by simp at h; omega
    unfold lcD
    rw [a]
    simp only [b, nox_ok, R_ok, if_true, c, small_lit, decide_eq_true_eq, if_pos hs, r, ih]
    simp
noncomputable def viewSl (i : Nat) (f : Ev A) (e : En) : Option Sl → M.R A
  | some (.ow b d) => (f (e.set i (.sh d))).nox.bind fun a e2 => viewEnd i b d e a e2
  | _ => f e
@[simp] theorem eView_r (i : Nat) (f : Ev A) (e : En) : eView i f e = viewSl i f e e[i]? := by unfold eView viewSl; rfl
@[simp] theorem viewSl_ow (i : Nat) (f : Ev A) (e : En) (b : Bool) (d : D) : viewSl i f e (some (.ow b d)) = (f (e.set i (.sh d))).nox.bind fun a e2 => viewEnd i b d e a e2 := rfl
@[simp] theorem viewSl_sh (i : Nat) (f : Ev A) (e : En) (d : D) : viewSl i f e (some (.sh d)) = f e := rfl
theorem viewEnd_ok (i : Nat) (b : Bool) (d : D) (e : En) (q : D) (e2 : En) (hf : flatD q = true) (h : okE i e e2) : viewEnd i b d e (.sh q) e2 = .ok (.sh q) (e2.set i (.ow b d)) := if_pos ⟨hf, h⟩
theorem kb_il : kitB "int" "list" = some false := by decide +kernel
theorem kb_it : kitB "int" "tuple" = some false := by decide +kernel
theorem kb_ib : kitB "int" "bool" = some false := by decide +kernel
theorem kb_ll : kitB "list" "list" = some true := by decide +kernel
theorem kb_lt : kitB "list" "tuple" = some false := by decide +kernel
theorem kb_lb : kitB "list" "bool" = some false := by decide +kernel
theorem kb_tl : kitB "tuple" "list" = some false := by decide +kernel
theorem kb_tt : kitB "tuple" "tuple" = some true := by decide +kernel
theorem kb_tb : kitB "tuple" "bool" = some false := by decide +kernel
theorem kb_bl : kitB "bool" "list" = some false := by decide +kernel
theorem kb_bt : kitB "bool" "tuple" = some false := by decide +kernel
theorem kb_bb : kitB "bool" "bool" = some true := by decide +kernel
end
end M
set_option Elab.async false
set_option linter.all false
set_option maxRecDepth 100000
set_option autoImplicit false
/-! M16: a call whose one argument is a fresh own thing -/
namespace M
noncomputable section
open PySem PySem.Spec PyProof.Rows L2
section
variable {K : PySem.W.Frag} {G : Gd} {en : En} {F H : Hp} {σ : L2.St} {d : D} {v : V}
theorem snoc_at {α : Type} {xs : List α} {x y : α} {i : Nat} (h : (xs ++ [x])[i]? = some y) : xs[i]? = some y ∨ (i = xs.length ∧ y = x) := by
  rcases Nat.lt_trichotomy i xs.length with q | q | q
  · rw [List.getElem?_append_left q] at h; exact .inl h
  · subst q; simp at h; exact .inr ⟨rfl, h.symm⟩
  · rw [List.getElem?_eq_none (by simp; omega)] at h; cases h
/-- a fresh own thing gets a place of its own beside the frame -/
theorem Rel.ext (R : Rel K G en F H σ) (n : NewAt G en K F H σ d v) : Rel K G (en ++ [.ow false d]) F H (σ ++ [some v]) := by
  obtain ⟨p, rfl, fp, ow, hp, nd⟩ := n
  have lft : ∀ {i : Nat} {s : Sl}, en[i]? = some s → (σ ++ [some (.ref p)])[i]? = σ[i]? := fun {i s} z => by
    have := (List.getElem?_eq_some_iff.1 z).1
    rw [List.getElem?_append_left (by rw [← R.len]; exact this)]
  have lst : (σ ++ [some (V.ref p)])[en.length]? = some (some (.ref p)) := by rw [R.len]; simp
  refine ⟨by simp [R.len], fun i s z => ?_, fun i j b c d1 d2 q h1 h2 h3 h4 => ?_, fun i b d1 q h1 h2 => ?_, R.fh, R.f0, R.nw, R.bs, R.as, fun i d1 z => ?_⟩
  · rcases snoc_at z with z | ⟨rfl, rfl⟩
    · rw [lft z]; exact R.sl i s z
    · rw [lst]; exact ⟨p, rfl, fp, ow⟩
  · rcases snoc_at h1 with h1 | ⟨rfl, e1⟩
    · rw [lft h1] at h3
      rcases snoc_at h2 with h2 | ⟨rfl, e2⟩
      · rw [lft h2] at h4; exact R.dj i j b c d1 d2 q h1 h2 h3 h4
      · rw [lst] at h4; cases h4; exact (nd i b d1 h1 h3).elim
    · rw [lst] at h3; cases h3
      rcases snoc_at h2 with h2 | ⟨rfl, e2⟩
      · rw [lft h2] at h4; exact (nd j c d2 h2 h4).elim
      · rfl
  · rcases snoc_at h1 with h1 | ⟨rfl, e1⟩
    · rw [lft h1] at h2; exact R.mn i b d1 q h1 h2
    · cases e1; rw [lst] at h2; cases h2; exact hp
  · rcases snoc_at z with z | ⟨_, e1⟩
    · rw [lft z]; exact R.ar i d1 z
    · cases e1
theorem Rel.cut {e2 : En} {x : Option V} (R : Rel K G e2 F H (σ ++ [x])) : Rel K G (e2.take σ.length) F H σ := by
  have l : e2.length = σ.length + 1 := by rw [R.len]; simp
  have at' : ∀ {i : Nat} {s : Sl}, (e2.take σ.length)[i]? = some s → e2[i]? = some s ∧ (σ ++ [x])[i]? = σ[i]? := fun {i s} z => by
    have hi : i < σ.length := by have := (List.getElem?_eq_some_iff.1 z).1; simp at this; omega
    rw [List.getElem?_take_of_lt hi] at z
    exact ⟨z, List.getElem?_append_left hi⟩
  refine ⟨by simp; omega, fun i s z => ?_, fun i j b c d1 d2 q h1 h2 h3 h4 => ?_, fun i b d1 q h1 h2 => ?_, R.fh, R.f0, R.nw, R.bs, R.as, fun i d1 z => ?_⟩
  · obtain ⟨a, b⟩ := at' z; rw [← b]; exact R.sl i s a
  · obtain ⟨a1, b1⟩ := at' h1; obtain ⟨a2, b2⟩ := at' h2
    exact R.dj i j b c d1 d2 q a1 a2 (b1.trans h3) (b2.trans h4)
  · obtain ⟨a1, b1⟩ := at' h1; exact R.mn i b d1 q a1 (b1.trans h2)
  · obtain ⟨a1, b1⟩ := at' z; rw [← b1]; exact R.ar i d1 a1
end
def eCallO (Fd : List Sl → Rt) (f : Ev D) : Ev A := fun e => (f e).bind fun d e1 => (callRt Fd [.bor e1.length] (e1 ++ [.ow false d])).bind fun p e2 => .ok (.sh p.2) (e2.take e1.length)
@[simp] theorem eCallO_r (Fd : List Sl → Rt) (f : Ev D) (e : En) : eCallO Fd f e = (f e).bind fun d e1 => (callRt Fd [.bor e1.length] (e1 ++ [.ow false d])).bind fun p e2 => .ok (.sh p.2) (e2.take e1.length) := rfl
section
variable {X : Cx} {W : WX} {CX : CXT} {k : Nat} {f : Addr} {fd : FuncData} {ps : List Str} {x : Str} {p pos : Pos} {a : Expr} {fa : Ev D} {Fd : List Sl → Rt}
theorem dx_callO (hF : FnG X.prog X.w X.K X.mg X.base CX0 k f fd ps (spD X.K X.mg ps.length Fd)) (kp : Keeps Fd) (nx : NoX Fd) (hr : Room k X.A) (gd : X.A.guards = some []) (hm : X.mg x = some (.ref f)) (hk : PySem.W.keepIn X.K (.ref f) = true) (hb : Binds X.K fd ps [])
    (ha : DO X W a fa) (hn : 1 = ps.length) (hg : Gl X x := by rfl) (hdb : (x == ("__debug__" : Str)) = false := by decide) (he : starEach [a] X.env = (false, eval a X.env) :: starEach [] X.env := by rfl) (hpl : (backTo pos (starEach [] X.env)).any (·.1) = false := by rfl) :
    DX X W (.Call (.Name x p) [a] [] pos) (eCallO Fd fa) := by
  obtain ⟨t, pt, q⟩ := ha.ex
  refine ⟨_, pe_callG hF hr gd hg hm hk hb (pa_cons pt pa_nil he) hdb he hpl, fun G en F H σ Q R h => q G en F H σ _ R ?_⟩
  unfold eCallO at h
  cases z : fa en with
  | bad => rw [z] at h; exact h
  | ex y e1 => rw [z] at h; exact h
  | ok d e1 =>
    rw [z] at h
    intro v F1 H1 R1 s1 n1
    have hlen : e1.length = σ.length := R1.len
    have o1 : AsOk X.K F1 (σ ++ [some v]) [.bor e1.length] [v] := ⟨v, [], rfl, by show (σ ++ [some v])[e1.length]? = _; rw [hlen]; simp, rfl⟩
    refine call_run (Post := fun _ r => PE1 X W G F σ r Q) (as := [.bor e1.length]) kp hn (R1.ext n1) o1 (fun w => w) h (fun o d' e2 v' F' H' R' s' ro w => ?_) (fun y e2 cls dd F' H' w => ?_)
    · obtain ⟨F2, R2, s2, r2⟩ := rt_frz R' ro
      have R3 := R2.cut
      rw [← hlen] at R3
      exact w v' F2 H' R3 (s1.trans (s'.trans s2)) r2
    · obtain ⟨ss, as', w⟩ := w
      exact (nx ss y as' w).elim
theorem dx_callCO (C : CallOk X.prog X.w X.K X.mg X.base k x ps Fd) (kp : Keeps Fd) (nx : NoX Fd) (hr : Room k X.A) (gd : X.A.guards = some []) (ha : DO X W a fa) (hn : 1 = ps.length) (hg : Gl X x := by rfl) (hdb : (x == ("__debug__" : Str)) = false := by decide)
    (he : starEach [a] X.env = (false, eval a X.env) :: starEach [] X.env := by rfl) (hpl : (backTo pos (starEach [] X.env)).any (·.1) = false := by rfl) : DX X W (.Call (.Name x p) [a] [] pos) (eCallO Fd fa) := by
  obtain ⟨f, fd, h1, h2, h3, h4⟩ := C.ex
  exact dx_callO h1 kp nx hr gd h2 h3 h4 ha hn hg hdb he hpl
end
end
end M
set_option Elab.async false
set_option linter.all false
set_option maxRecDepth 100000
set_option autoImplicit false
/-! M17: arguments by name, all parameters given in their order -/
namespace M
noncomputable section
open PySem PySem.Spec PyProof.Rows L2
/-- j by position, the rest by name -/
def KwB (fd : FuncData) (ps : List Str) (j : Nat) : Prop := ∀ us ws : List Value, us.length = j → ws.length = ps.length - j → bindArgs fd ⟨us, (ps.drop j).zip ws⟩ = pure (ps.zip (us ++ ws))
section
variable {P : Program} {w : World} {K : PySem.W.Frag} {mg : Str → Option Value} {bs : Heap}
structure FunKw (K : PySem.W.Frag) (mg : Str → Option Value) (x qual : Str) (st : Stmt) (ps : List Str) (j : Nat) : Prop where
  ex : ∃ f fd, Fun K x qual st f fd ∧ mg x = some (.ref f) ∧ Binds K fd ps [] ∧ KwB fd ps j
structure CallKw (P : Program) (w : World) (K : PySem.W.Frag) (mg : Str → Option Value) (bs : Heap) (k : Nat) (x : Str) (ps : List Str) (j : Nat) (Fd : List Sl → Rt) : Prop where
  ex : ∃ f fd, FnG P w K mg bs CX0 k f fd ps (spD K mg ps.length Fd) ∧ mg x = some (.ref f) ∧ PySem.W.keepIn K (.ref f) = true ∧ Binds K fd ps [] ∧ KwB fd ps j
theorem CallKw.toCall {j k : Nat} {x : Str} {ps : List Str} {Fd : List Sl → Rt} (c : CallKw P w K mg bs k x ps j Fd) : CallOk P w K mg bs k x ps Fd := by
  obtain ⟨f, fd, h1, h2, h3, h4, _⟩ := c.ex
  exact ⟨f, fd, h1, h2, h3, h4⟩
theorem fun_okK {x qual : Str} {st : Stmt} {N ps : List Str} {j k : Nat} {body : En → SR} (F : FunKw K mg x qual st ps j) (S : FnScope N ps (defScope st)) (hps : ps.length ≤ N.length)
    (hbody : ∀ (f : Addr) (cdv : Value) (A : Around) (out : List PySem.Env) (s : Shared) (H : Hp) (E : XK), Room k (A.deeper (envOfC qual (defScope st) s.heap.objs.size f cdv)) → (A.deeper (envOfC qual (defScope st) s.heap.objs.size f cdv)).guards = some [] →
      DSs (cxOf CX0 P w K mg bs N qual (defScope st) f cdv A out s H E).nox WX0 (defBody st) body) : CallKw P w K mg bs (k + 1) x ps j (run0 N.length body) := by
  obtain ⟨f, fd, h1, h2, h3, h4⟩ := F.ex
  exact ⟨f, fd, def_ok h1 S hps (fun cdv A out s H E hr gd => hbody f cdv A out s H E hr gd), h2, h1.kp, h3, h4⟩
end
section
variable {X : Cx} {W : WX} {k : Nat} {f : Addr} {fd : FuncData} {ps : List Str} {x : Str} {p pos kpos : Pos} {a e : Expr} {es : List Expr} {kws : List Keyword} {fa : Ev A} {fs gs : Ev (List A)} {Fd : List Sl → Rt} {sp : Sp} {t tk : TA} {nm : Option Str} {j : Nat}
theorem runKG {pins : List (Addr × Obj)} {σ : L2.St} {H : Hp} {s : Shared} {Q : VK} {us ws : List Value} {vs zs : List V} (F : FnG X.prog X.w X.K X.mg X.base CX0 k f fd ps sp) (r : Room k X.A) (gd : X.A.guards = some []) (hb : KwB fd ps j) (hj : vs.length = j)
    (I : Inv X pins σ H s) (rv : Vals vs us) (rz : Vals zs ws) (h : sp (vs ++ zs) H Q E0) : wpAny (model X.prog X.w) X.A (call (.ref f) us ((ps.drop j).zip ws)) (EP X pins σ Q) X.xe s := by
  have r2 : Vals (vs ++ zs) (us ++ ws) := rv.append rz
  have l1 : (us ++ ws).length = ps.length := by rw [← r2.length]; exact F.len _ _ _ _ h
  have l2 : us.length = j := by rw [← rv.length]; exact hj
  have b1 : BindsTo s fd ⟨us, (ps.drop j).zip ws⟩ (ps.zip (us ++ ws)) := .of_eq (hb us ws l2 (by rw [List.length_append] at l1; omega))
  refine wpAny_call (codeAny_mono (F.run X.A X.stack s H ⟨us, (ps.drop j).zip ws⟩ (us ++ ws) (vs ++ zs) Q E0 r gd I.env0 b1 r2 h) fun res s1 q => ?_)
  cases res with
  | error e => exact False.elim q
  | ok fl =>
    cases fl with
    | ret u => exact I.after q
    | _ => exact False.elim q
theorem pe_callKG0 (F : FnG X.prog X.w X.K X.mg X.base CX0 k f fd ps sp) (r : Room k X.A) (gd : X.A.guards = some []) (hg : Gl X x) (hm : X.mg x = some (.ref f)) (hk : PySem.W.keepIn X.K (.ref f) = true) (hb : KwB fd ps 0)
    (hkw : PK X kws tk) (hall : (backToKw pos (keywordEach kws X.env)).all (·.1.isSome) = true := by rfl) (hks : (backToKw pos (keywordEach kws X.env)).filterMap (·.1) = ps := by rfl)
    (hdb : (x == ("__debug__" : Str)) = false := by decide) (hpl : ((backTo pos (starEach [] X.env)).any (·.1) || (backToKw pos (keywordEach kws X.env)).any (·.1.isNone)) = false := by rfl) :
    PE X (.Call (.Name x p) [] kws pos) (fun σ H Q => tk σ H fun zs H1 => sp zs H1 Q E0) := by
  refine ⟨fun pins s σ H Q I h => ?_⟩
  refine wpAny_Call_Name_kw (ld_glob I hg hm ?_ hdb)
  refine PySem.W.callWith_KW0 (h₀ := X.base) I.ok.mod.kin hk hall (thn (hkw.run pos pins s σ H _ I h) fun ws s2 ⟨zs, H2, I2, rz, q2⟩ => ⟨I2.kIn, ?_⟩) hpl
  rw [hks]
  exact runKG (us := []) (vs := []) F r gd hb rfl I2 .nil rz q2
/-- the keywords' values -/
structure DK (X : Cx) (W : WX) (kws : List Keyword) (f : Ev (List A)) : Prop where
  ex : ∃ t : TA, PK X kws t ∧ ∀ (G : Gd) (en : En) (F H : Hp) (σ : L2.St) (Q : List V → Hp → Prop), Rel X.K G en F H σ → PA1 X W G F σ (f en) Q → t σ H Q
theorem dk_nil : DK X W [] eNil := ⟨_, pk_nil, fun G en F H σ Q R q => q [] F H R (.refl _) rfl⟩
theorem dk_cons (ha : DX X W a fa) (hr : DK X W kws fs) : DK X W (⟨nm, a, kpos⟩ :: kws) (eCons fa fs) := by
  obtain ⟨ta, pa, qa⟩ := ha.ex
  obtain ⟨tb, pb, qb⟩ := hr.ex
  refine ⟨_, pk_cons pa pb, fun G en F H σ Q R q => qa G en F H σ _ R (q.bind fun x e1 v F1 H1 R1 s1 o1 q1 => qb G e1 F1 H1 σ _ R1 (q1.bind fun y e2 w F2 H2 R2 s2 o2 q2 => ?_))⟩
  exact q2 (v :: w) F2 H2 R2 (.refl _) ⟨v, w, rfl, o1.mono s2, o2⟩
theorem dx_callK0 (hF : FnG X.prog X.w X.K X.mg X.base CX0 k f fd ps (spD X.K X.mg ps.length Fd)) (kp : Keeps Fd) (nx : NoX Fd) (hr : Room k X.A) (gd : X.A.guards = some []) (hm : X.mg x = some (.ref f)) (hk : PySem.W.keepIn X.K (.ref f) = true) (hb : KwB fd ps 0)
    (ha : DK X W kws fs) (hn : ∀ en as e1, fs en = .ok as e1 → as.length = ps.length) (hg : Gl X x := by rfl) (hall : (backToKw pos (keywordEach kws X.env)).all (·.1.isSome) = true := by rfl) (hks : (backToKw pos (keywordEach kws X.env)).filterMap (·.1) = ps := by rfl)
    (hdb : (x == ("__debug__" : Str)) = false := by decide) (hpl : ((backTo pos (starEach [] X.env)).any (·.1) || (backToKw pos (keywordEach kws X.env)).any (·.1.isNone)) = false := by rfl) :
    DX X W (.Call (.Name x p) [] kws pos) (eCall Fd fs) := by
  obtain ⟨t, pt, q⟩ := ha.ex
  refine ⟨_, pe_callKG0 hF hr gd hg hm hk hb pt hall hks hdb hpl, fun G en F H σ Q R h => q G en F H σ _ R ?_⟩
  unfold eCall at h
  cases z : fs en with
  | bad => rw [z] at h; exact h
  | ex y e1 => rw [z] at h; exact h
  | ok as e1 =>
    rw [z] at h
    intro vs F1 H1 R1 s1 o1
    refine call_run (Post := fun _ r => PE1 X W G F σ r Q) kp (hn en as e1 z) R1 o1 (fun w => w) h (fun o d e2 v F' H' R' s' ro w => ?_) (fun y e2 cls dd F' H' w => ?_)
    · obtain ⟨F2, R2, s2, r2⟩ := rt_frz R' ro
      exact w v F2 H' R2 (s1.trans (s'.trans s2)) r2
    · obtain ⟨ss, as', w⟩ := w
      exact (nx ss y as' w).elim
theorem dx_callCK (C : CallKw X.prog X.w X.K X.mg X.base k x ps 0 Fd) (kp : Keeps Fd) (nx : NoX Fd) (hr : Room k X.A) (gd : X.A.guards = some []) (ha : DK X W kws fs) (hn : ∀ en as e1, fs en = .ok as e1 → as.length = ps.length) (hg : Gl X x := by rfl)
    (hall : (backToKw pos (keywordEach kws X.env)).all (·.1.isSome) = true := by rfl) (hks : (backToKw pos (keywordEach kws X.env)).filterMap (·.1) = ps := by rfl)
    (hdb : (x == ("__debug__" : Str)) = false := by decide) (hpl : ((backTo pos (starEach [] X.env)).any (·.1) || (backToKw pos (keywordEach kws X.env)).any (·.1.isNone)) = false := by rfl) : DX X W (.Call (.Name x p) [] kws pos) (eCall Fd fs) := by
  obtain ⟨f, fd, h1, h2, h3, h4, h5⟩ := C.ex
  exact dx_callK0 h1 kp nx hr gd h2 h3 h5 ha hn hg hall hks hdb hpl
end
end
end M
set_option Elab.async false
set_option linter.all false
set_option maxRecDepth 100000
set_option maxHeartbeats 4000000
set_option autoImplicit false
/-! M18: a tuple so many times; is, of truths -/
namespace M
noncomputable section
open PySem PySem.Spec PyProof.Rows L2
theorem tuple_once (l : Addr) (items : Array Value) (n : Nat) (dd : Option Addr) (sl : Array (Option Value)) (u : Tok) :
    Meets (Builtin.«tuple.__mul__» ⟨[.ref l, .int 1 u], []⟩) (fun _ R s => s.heap.get? l = some { cls := .type "tuple", dict := dd, data := .seq items n, slots := sl } ∧ R (.ok (.ret (Value.ref l))) s) :=
  .of_wp fun prog w A R s h => by
    obtain ⟨hp, g, d, tk, os⟩ := s
    obtain ⟨hl, h⟩ := h
    have f1 := AutoSeq1.idx_int
    have c0 : (decide ((1 : Int) < -(2 ^ 63)) || decide ((1 : Int) ≥ 2 ^ 63)) = false := by decide
    have c1 : (items.isEmpty || (1 : Int) == 1) = true := by simp
    wp_walk using wpAny_loadPart' hl
    repeat (first
      | (refine wpAny_ite_false (decide_eq_false (by rw [c0]; exact Bool.false_ne_true)) ?_; wp_walk using wpAny_loadPart' hl)
      | (refine wpAny_ite_true (decide_eq_true c1) ?_; wp_walk using wpAny_loadPart' hl))
    exact ⟨_, rfl, h⟩
section
variable {X : Cx} {K : PySem.W.Frag}
theorem op_onceT : OpR X (binaryOp .Mult) (fun x y H Q => ∃ l xs, x = V.ref l ∧ y = V.int 1 ∧ SqT X.K H l xs ∧ Q (.ref l) H) := by
  intro pins s σ H x y v u Q I rx ry h
  obtain ⟨l, xs, rfl, rfl, hT, q⟩ := h
  cases rx
  obtain ⟨t, rfl⟩ := ry
  obtain ⟨its, r, ⟨⟨cls, dd, data, sl⟩, ho, hc, n, hd⟩, hs⟩ := I.tuple hT
  simp only at hc hd
  subst hc hd
  refine wpAny_binaryOp_repeat_ref (T := "tuple") (U := "int") (by decide) ⟨_, ho, rfl⟩ (fun s' => typeIs_int s' 1 t) noFill_tuple_mul F.fills_int_mul F.slot_int_rmul repeat_tuple F.slot_int_index.lookup
    (call_meets F.slot_int_rmul (typeIs_int s 1 t) F.entry_int_rmul (F.args_int_rmul_2 _ _) (int_rmul_tuple 1 t l its.toArray n dd sl)
      ⟨ho, rfl, ⟨_, ho, rfl⟩, call_meets F.slot_tuple_mul ⟨_, ho, rfl⟩ F.entry_tuple_mul (F.args_tuple_mul_2 _ _) (tuple_once l its.toArray n dd sl t) ⟨ho, ?_⟩⟩)
  exact ⟨.ref l, H, I, rfl, q⟩
theorem Reps.times {F : Hp} {vs : List V} {ds : List D} (r : Reps K F vs ds) : ∀ n : Nat, Reps K F (List.replicate n vs).flatten (List.replicate n ds).flatten
  | 0 => .nil
  | n + 1 => by rw [List.replicate_succ, List.replicate_succ, List.flatten_cons, List.flatten_cons]; exact r.append (Reps.times r n)
def dMulT : D → D → Option D
  | .tuple xs, .int k => if k = 1 then some (.tuple xs) else if xs ≠ [] ∧ 2 ≤ k ∧ k ≤ 1000 ∧ xs.length ≤ 1000 then some (.tuple (List.replicate k.toNat xs).flatten) else none
  | _, _ => none
theorem dMulT_i (xs : List D) (k : Int) (h : xs ≠ [] ∧ 1 ≤ k ∧ k ≤ 1000 ∧ xs.length ≤ 1000) : dMulT (.tuple xs) (.int k) = some (.tuple (List.replicate k.toNat xs).flatten) := by
  unfold dMulT
  by_cases h1 : k = 1
  · subst h1; simp
  · simp only; rw [if_neg h1, if_pos ⟨h.1, by omega, h.2.2.1, h.2.2.2⟩]
abbrev rMulT (K : PySem.W.Frag) : R2 := fun x y H Q => (∃ l xs, x = V.ref l ∧ y = V.int 1 ∧ SqT K H l xs ∧ Q (.ref l) H) ∨ rRepT K x y H Q
theorem op_mulT : OpR X (binaryOp .Mult) (rMulT X.K) := op_onceT.or op_repT
theorem opd_mulT : OpD K (rMulT K) dMulT := by
  intro F H x y d e q Q sF hx hy hg k
  unfold dMulT at hg
  split at hg
  · rename_i xs i
    obtain ⟨l, vs, rfl, hs, r⟩ := hx.tup sF
    rw [hy.int]
    by_cases h1 : i = 1
    · rw [if_pos h1] at hg; cases hg; subst h1
      have rp : Rep K F (.ref l) (.tuple xs) := by
        rcases hx with q | ⟨_, _, q⟩
        · exact q
        · exact q.elim
      exact .inl ⟨l, vs, rfl, rfl, hs, k _ F H (.refl sF) rp⟩
    · rw [if_neg h1] at hg
      split at hg
      · rename_i hz
        cases hg
        have len := r.length
        refine .inr ⟨l, i, vs, rfl, rfl, hs, fun z => hz.1 (List.eq_nil_of_length_eq_zero (by rw [← len, z]; rfl)), hz.2.1, hz.2.2.1, by rw [len]; exact hz.2.2.2, fun p np => ?_⟩
        have g := Grow.alloc (o := .tup (List.replicate i.toNat vs).flatten) sF np
        exact k (.ref p) _ _ g (.tup (.inl (.inl upd_same)) ((r.times i.toNat).mono g.f))
      · cases hg
  · cases hg
def dIsB : D → D → Option D
  | .bool a, .bool b => some (.bool (decide (a = b)))
  | _, _ => none
def dNotB : D → D → Option D
  | .bool a, .bool b => some (.bool (!decide (a = b)))
  | _, _ => none
@[simp] theorem dIsB_r (a b : Bool) : dIsB (.bool a) (.bool b) = some (.bool (decide (a = b))) := rfl
@[simp] theorem dNotB_r (a b : Bool) : dNotB (.bool a) (.bool b) = some (.bool (!decide (a = b))) := rfl
theorem opd_isB : OpD K (fun x y H Q => ∃ a b, x = .bl a ∧ y = .bl b ∧ Q (.bl (decide (a = b))) H) dIsB := by
  intro F H x y d e q Q sF hx hy hg k
  unfold dIsB at hg
  split at hg
  · cases hg
    rw [hx.bool, hy.bool]
    exact ⟨_, _, rfl, rfl, k _ F H (.refl sF) (.bl _)⟩
  · cases hg
theorem opd_notB : OpD K (fun x y H Q => ∃ a b, x = .bl a ∧ y = .bl b ∧ Q (.bl (!decide (a = b))) H) dNotB := by
  intro F H x y d e q Q sF hx hy hg k
  unfold dNotB at hg
  split at hg
  · cases hg
    rw [hx.bool, hy.bool]
    exact ⟨_, _, rfl, rfl, k _ F H (.refl sF) (.bl _)⟩
  · cases hg
theorem hb_isB : ∀ x y q, dIsB x y = some q → ∃ k, q = .bool k := by
  intro x y q e; unfold dIsB at e; split at e <;> cases e; exact ⟨_, rfl⟩
theorem hb_notB : ∀ x y q, dNotB x y = some q → ∃ k, q = .bool k := by
  intro x y q e; unfold dNotB at e; split at e <;> cases e; exact ⟨_, rfl⟩
end
section
variable {X : Cx} {W : WX} {a b : Expr} {pos : Pos} {fa fb : Ev A}
theorem dx_mulT (ha : DX X W a fa) (hb : DX X W b fb) : DX X W (.BinOp a .Mult b pos) (eBin dMulT fa fb) := dx_op op_mulT opd_mulT ha hb
theorem dx_isB (ha : DX X W a fa) (hb : DX X W b fb) : DX X W (.Compare a [.Is] [b] pos) (eBin dIsB fa fb) := dx_cmp op_is_bl opd_isB ha hb (nomark _)
theorem dx_notB (ha : DX X W a fa) (hb : DX X W b fb) : DX X W (.Compare a [.IsNot] [b] pos) (eBin dNotB fa fb) := dx_cmp op_isnot_bl opd_notB ha hb (nomark _)
theorem dt_isB (ha : DX X W a fa) (hb : DX X W b fb) : DT X W (.Compare a [.Is] [b] pos) (tOf (eBin dIsB fa fb)) := dt_cmp op_is_bl opd_isB ha hb (nomark _) hb_isB
theorem dt_notB (ha : DX X W a fa) (hb : DX X W b fb) : DT X W (.Compare a [.IsNot] [b] pos) (tOf (eBin dNotB fa fb)) := dt_cmp op_isnot_bl opd_notB ha hb (nomark _) hb_notB
end
/-! ### a < b < c -/
def chainB (g' : D → D → Option D) (b : A) (fc : Ev A) (e2 : En) : Option Bool → M.R A
  | none => .bad
  | some false => .ok (.sh (.bool false)) e2
  | some true => (fc e2).bind fun c e3 => fin ((res e3 b).bind fun y => (res e3 c).bind fun z => g' y z) e3
def eChain (g g' : D → D → Option D) (fa fb fc : Ev A) : Ev A := fun e => (fa e).bind fun a e1 => (fb e1).bind fun b e2 => chainB g' b fc e2 (((res e2 a).bind fun x => (res e2 b).bind fun y => g x y).bind bOf)
@[simp] theorem eChain_r (g g' : D → D → Option D) (fa fb fc : Ev A) (e : En) : eChain g g' fa fb fc e = (fa e).bind fun a e1 => (fb e1).bind fun b e2 => chainB g' b fc e2 (((res e2 a).bind fun x => (res e2 b).bind fun y => g x y).bind bOf) := rfl
@[simp] theorem chainB_f (g' : D → D → Option D) (b : A) (fc : Ev A) (e2 : En) : chainB g' b fc e2 (some false) = .ok (.sh (.bool false)) e2 := rfl
@[simp] theorem chainB_t (g' : D → D → Option D) (b : A) (fc : Ev A) (e2 : En) : chainB g' b fc e2 (some true) = (fc e2).bind fun c e3 => fin ((res e3 b).bind fun y => (res e3 c).bind fun z => g' y z) e3 := rfl
theorem chainB_if (g' : D → D → Option D) (b : A) (fc : Ev A) (e2 : En) (k : Bool) : chainB g' b fc e2 (some k) = if k = true then (fc e2).bind fun c e3 => fin ((res e3 b).bind fun y => (res e3 c).bind fun z => g' y z) e3 else .ok (.sh (.bool false)) e2 := by cases k <;> rfl
section
variable {X : Cx} {W : WX} {a b c : Expr} {pos : Pos} {fa fb fc : Ev A} {op op' : CmpOp} {r r' : R2} {g g' : D → D → Option D}
theorem PostE.weak {G : Gd} {F F' : Hp} {σ : L2.St} {α β : Type} {ok : Hp → α → β → Prop} {r : M.R α} {Q : β → Hp → Prop} (h : PostE X W G F σ ok r Q) (s : Same F F') : PostE X W G F' σ ok r Q := by
  cases r with
  | bad => exact h
  | ok a e => exact fun v F2 H2 R2 s2 o => h v F2 H2 R2 (s.trans s2) o
  | ex x e => exact fun cls dd F2 H2 R2 s2 o => h cls dd F2 H2 R2 (s.trans s2) o
theorem bOf_some {d : D} {k : Bool} (h : bOf d = some k) : d = .bool k := by
  cases d <;> first | (cases h; rfl) | cases h
theorem chain_ex (hg : OpD X.K r g) (hg' : OpD X.K r' g') (ha : DX X W a fa) (hb : DX X W b fb) (hc : DX X W c fc) :
    ∃ ta tb tc, PE X a ta ∧ PE X b tb ∧ PE X c tc ∧ ∀ (G : Gd) (en : En) (F H : Hp) (σ : L2.St) (Q : VK), Rel X.K G en F H σ → PE1 X W G F σ (eChain g g' fa fb fc en) Q → tChain r r' ta tb tc σ H Q := by
  obtain ⟨ta, pa, qa⟩ := ha.ex
  obtain ⟨tb, pb, qb⟩ := hb.ex
  obtain ⟨tc, pc, qc⟩ := hc.ex
  refine ⟨ta, tb, tc, pa, pb, pc, fun G en F H σ Q R q => qa G en F H σ _ R (q.bind fun x e1 v F1 H1 R1 s1 o1 q1 => qb G e1 F1 H1 σ _ R1 (q1.bind fun y e2 w F2 H2 R2 s2 o2 q2 => ?_))⟩
  cases ed : ((res e2 x).bind fun x => (res e2 y).bind fun y => g x y) with
  | none => rw [ed] at q2; exact q2.elim
  | some d =>
    rw [ed] at q2
    obtain ⟨d1, e1', ed'⟩ := Option.bind_eq_some_iff.mp ed
    obtain ⟨d2, e2', ed''⟩ := Option.bind_eq_some_iff.mp ed'
    cases eb : bOf d with
    | none => rw [show (some d).bind bOf = none from eb] at q2; exact q2.elim
    | some k =>
      rw [show (some d).bind bOf = some k from eb] at q2
      have := bOf_some eb
      subst this
      refine hg F2 H2 v w d1 d2 _ _ R2.fh (res_ok R2 (o1.mono s2) e1') (res_ok R2 o2 e2') ed'' fun v3 F3 H3 gr rp => ?_
      cases rp
      refine ⟨k, rfl, ?_⟩
      have R3 := R2.grow gr
      cases k with
      | false => rw [if_neg Bool.false_ne_true]; exact q2 (.bl false) F3 H3 R3 gr.f (.bl _)
      | true =>
        rw [if_pos rfl]
        have q3 : PE1 X W G F3 σ ((fc e2).bind fun c e3 => fin ((res e3 y).bind fun y => (res e3 c).bind fun z => g' y z) e3) Q := PostE.weak q2 gr.f
        refine qc G e2 F3 H3 σ _ R3 (q3.bind fun z e4 u F4 H4 R4 s4 o4 q4 => ?_)
        obtain ⟨dd, ed3⟩ := fin_some q4
        obtain ⟨y1, f1, f2⟩ := Option.bind_eq_some_iff.mp ed3
        obtain ⟨z1, f3, f4⟩ := Option.bind_eq_some_iff.mp f2
        exact hg' F4 H4 w u y1 z1 dd Q R4.fh (res_ok R4 ((o2.mono gr.f).mono s4) f1) (res_ok R4 o4 f3) f4 fun v F' H' g r => fin_ok R4 q4 ed3 g r
theorem dx_chain (ho : OpR X (compareOp op) r) (hg : OpD X.K r g) (ho' : OpR X (compareOp op') r') (hg' : OpD X.K r' g') (ha : DX X W a fa) (hb : DX X W b fb) (hc : DX X W c fc)
    (hm : lastMarks [op, op'] [b, c] = false := by with_unfolding_all rfl) : DX X W (.Compare a [op, op'] [b, c] pos) (eChain g g' fa fb fc) := by
  obtain ⟨ta, tb, tc, pa, pb, pc, q⟩ := chain_ex hg hg' ha hb hc
  exact ⟨_, pe_chain ho ho' pa pb pc hm, q⟩
theorem dt_chain (ho : OpR X (compareOp op) r) (hg : OpD X.K r g) (ho' : OpR X (compareOp op') r') (hg' : OpD X.K r' g') (ha : DX X W a fa) (hb : DX X W b fb) (hc : DX X W c fc)
    (hm : lastMarks [op, op'] [b, c] = false := by with_unfolding_all rfl) : DT X W (.Compare a [op, op'] [b, c] pos) (tOf (eChain g g' fa fb fc)) := by
  obtain ⟨ta, tb, tc, pa, pb, pc, q⟩ := chain_ex hg hg' ha hb hc
  refine ⟨_, pt_chain ho ho' pa pb pc hm, fun G en F H σ Q R k => q G en F H σ _ R (k.bind fun o e1 v F1 H1 R1 s1 o1 q1 => ?_)⟩
  cases z : (res e1 o).bind bOf with
  | none => rw [z] at q1; exact q1.elim
  | some b => rw [z] at q1; exact ⟨b, res_bool R1 o1 z, q1 b F1 H1 R1 (.refl _) rfl⟩
end
/-! ### a, b = x, y -/
def parTo (i j : Nat) (e : En) : Option (List D × En) → SR
  | some ([d1, d2], e2) => .nx ((e2.set i (.sh d1)).set j (.sh d2))
  | _ => .bad
def sPar (i j : Nat) (fs : Ev (List A)) : En → SR := fun e => (fs e).st fun as e1 => parTo i j e1 (holds as e1)
@[simp] theorem sPar_r (i j : Nat) (fs : Ev (List A)) (e : En) : sPar i j fs e = (fs e).st fun as e1 => parTo i j e1 (holds as e1) := rfl
@[simp] theorem parTo_2 (i j : Nat) (e e2 : En) (d1 d2 : D) : parTo i j e (some ([d1, d2], e2)) = .nx ((e2.set i (.sh d1)).set j (.sh d2)) := rfl
section
variable {X : Cx} {W : WX} {a b : Expr} {pos px py pt pt2 : Pos} {x y : Str} {kt k2 : Nat} {fs : Ev (List A)}
theorem ds_par (i j : Nat) (ha : DA X W [a, b] fs) (hc : X.calm = true) (hN : X.N.Nodup) (hij : i ≠ j := by decide) (hi : X.N[i]? = some x := by rfl) (hj : X.N[j]? = some y := by rfl)
    (hx : X.env.scope.names.lookup x = some .local := by rfl) (hy : X.env.scope.names.lookup y = some .local := by rfl)
    (hw : swappedStores [.Tuple [.Name x px, .Name y py] kt pt] (.Tuple [a, b] k2 pt2) X.env = pure (some [x, y]) := by rfl)
    (hs : swapsWithSole [.Tuple [.Name x px, .Name y py] kt pt] (.Tuple [a, b] k2 pt2) pos.line X.env = pure false := by rfl) :
    DS X W (.Assign [.Tuple [.Name x px, .Name y py] kt pt] (.Tuple [a, b] k2 pt2) pos) (sPar i j fs) := by
  obtain ⟨t, p, q⟩ := ha.ex
  refine ⟨_, ps_par hc hN hi hj hij hx hy p hw hs, fun G en F H σ D R h => q G en F H σ _ R ?_⟩
  refine PostS.of h fun as e1 vs F1 H1 R1 s1 o1 h1 => ?_
  cases z : holds as e1 with
  | none => rw [z] at h1; exact h1.elim
  | some pr =>
    obtain ⟨ds, e2⟩ := pr
    rw [z] at h1
    obtain ⟨F2, R2, s2, r2⟩ := holds_ok R1 o1 z
    match ds, r2, h1 with
    | [d1, d2], .cons q1 (.cons q2 .nil), h1 =>
      refine ⟨_, _, rfl, ?_⟩
      have R3 := (R2.putSh (i := i) q1).putSh (i := j) q2
      exact (PostS.mono h1 s2) F2 H1 _ R3 (.refl _)
end
/-- a comprehension that keeps an invariant -/
theorem lc_inv {g : Gt} {t : Ev Bool} {f : Ev A} {own : List Nat} (I : Nat → List D → En → Prop) : ∀ (ds : List D) (n : Nat) (acc : List D) (e : En), I n acc e → acc.length + ds.length ≤ 1000000 →
    (∀ j d acc e, ds[j]? = some d → I (n + j) acc e → ∃ e1 e2 e3 x, g d (wipeE own e) = some e1 ∧ t e1 = .ok true e2 ∧ eHold f e2 = .ok x e3 ∧ I (n + j + 1) (acc ++ [x]) (restE own e e3)) →
    ∃ acc' e', lcD g t f own ds acc e = .ok (.list acc') e' ∧ acc'.length = acc.length + ds.length ∧ I (n + ds.length) acc' e'
  | [], n, acc, e, h0, _, _ => ⟨acc, e, rfl, rfl, h0⟩
  | d :: ds, n, acc, e, h0, hs, k => by
    obtain ⟨e1, e2, e3, x, a, b, c, h1⟩ := k 0 d acc e rfl h0
    obtain ⟨acc', e', q, l, z⟩ := lc_inv I ds (n + 1) (acc ++ [x]) (restE own e e3) h1 (by simp at *; omega) fun j d acc e hj hi => by
      have := k (j + 1) d acc e (by simpa using hj) (by rw [show n + (j + 1) = n + 1 + j by omega]; exact hi)
      rw [show n + (j + 1) + 1 = n + 1 + j + 1 by omega] at this
      exact this
    have hs2 : acc.length + 1 ≤ 1000000 := by simp at hs; omega
    refine ⟨acc', e', ?_, by rw [l]; simp; omega, by rw [show n + (d :: ds).length = n + 1 + ds.length by simp; omega]; exact z⟩
    unfold lcD
    rw [a]
    simp only [b, nox_ok, R_ok, if_true, c, small_lit, decide_eq_true_eq, if_pos hs2, q]
def enumOf : List D → En → M.R (List D)
  | [.list xs], e => .ok (enumD 0 xs) e
  | _, _ => .bad
@[simp] theorem iE_r (fs : Ev (List A)) (e : En) : iE fs e = (eHolds fs e).bind fun ds e1 => enumOf ds e1 := by
  unfold iE; refine congrArg _ ?_; funext ds e1; unfold enumOf
  rcases ds with _ | ⟨d, ds⟩; · rfl
  rcases ds with _ | ⟨d2, ds⟩
  · cases d <;> rfl
  · cases d <;> rfl
@[simp] theorem enumOf_l (xs : List D) (e : En) : enumOf [.list xs] e = .ok (enumD 0 xs) e := rfl
theorem enum_at : ∀ (xs : List D) (n j : Nat) (d : D), (enumD n xs)[j]? = some d → ∃ x, xs[j]? = some x ∧ d = .tuple [.int ((n + j : Nat) : Int), x]
  | [], n, j, d, h => by simp [enumD] at h
  | x :: xs, n, 0, d, h => by simp [enumD] at h; exact ⟨x, by simp, by rw [← h]; simp⟩
  | x :: xs, n, j + 1, d, h => by
    simp only [enumD, List.getElem?_cons_succ] at h
    obtain ⟨y, a, b⟩ := enum_at xs (n + 1) j d h
    exact ⟨y, by simpa using a, by rw [b, show n + 1 + j = n + (j + 1) by omega]⟩
@[simp] theorem gAdd_i (x y : Int) : gAdd (.int x) (.int y) = some (.int (x + y)) := rfl
end
end M
set_option Elab.async false
set_option linter.all false
set_option maxRecDepth 100000
set_option autoImplicit false
/-! M19: what is never reached; targets with a star -/
namespace M
noncomputable section
open PySem PySem.Spec PyProof.Rows L2
section
variable {X : Cx} {W : WX}
/-- a statement that is never reached -/
def sBad : En → SR := fun _ => .bad
def eBad : Ev A := fun _ => .bad
theorem ds_bad {st : Stmt} : DS X W st sBad := ⟨fun _ _ _ => False, ⟨fun _ _ _ _ _ _ h => h.elim⟩, fun _ _ _ _ _ _ _ h => h⟩
theorem dx_bad {e : Expr} : DX X W e eBad := ⟨fun _ _ _ => False, ⟨fun _ _ _ _ _ _ h => h.elim⟩, fun _ _ _ _ _ _ _ h => h⟩
end
/-! ### in a list -/
section
variable {X : Cx} {W : WX} {K : PySem.W.Frag} {a b : Expr} {pos : Pos} {fa fb : Ev A}
def dInL (a b : D) : Option D := match b with
  | .list ds => if nd a && nds ds && SeqAt.shaped a && SeqAt.shaped (.list ds) then some (.bool (ds.any fun z => PyData.eqv z a)) else none
  | _ => none
def dNotInL (a b : D) : Option D := match b with
  | .list ds => if nd a && nds ds && SeqAt.shaped a && SeqAt.shaped (.list ds) then some (.bool (!ds.any fun z => PyData.eqv z a)) else none
  | _ => none
theorem opd_inL : OpD K (rInD K) dInL := by
  intro F H x y d e q Q sF hx hy hg k
  cases e with
  | list ds =>
    unfold dInL at hg
    simp only at hg
    split at hg
    · rename_i hz
      cases hg
      simp only [Bool.and_eq_true] at hz
      obtain ⟨⟨⟨h1, h2⟩, h3⟩, h4⟩ := hz
      exact ⟨d, ds, (hx.rep sF).dp h1, (hy.rep sF).dp (by simpa [nd] using h2), h3, h4, k _ F H (.refl sF) (.bl _)⟩
    · cases hg
  | _ => cases hg
theorem opd_notInL : OpD K (rNotInD K) dNotInL := by
  intro F H x y d e q Q sF hx hy hg k
  cases e with
  | list ds =>
    unfold dNotInL at hg
    simp only at hg
    split at hg
    · rename_i hz
      cases hg
      simp only [Bool.and_eq_true] at hz
      obtain ⟨⟨⟨h1, h2⟩, h3⟩, h4⟩ := hz
      exact ⟨d, ds, (hx.rep sF).dp h1, (hy.rep sF).dp (by simpa [nd] using h2), h3, h4, k _ F H (.refl sF) (.bl _)⟩
    · cases hg
  | _ => cases hg
theorem dx_inL (hu : X.A.units + 65 < cLine) (ha : DX X W a fa) (hb : DX X W b fb) (hm : behindInMarks .In b = false := by rfl) : DX X W (.Compare a [.In] [b] pos) (eBin dInL fa fb) := dx_cmp (op_inD hu) opd_inL ha hb hm
theorem dx_notInL (hu : X.A.units + 65 < cLine) (ha : DX X W a fa) (hb : DX X W b fb) (hm : behindInMarks .NotIn b = false := by rfl) : DX X W (.Compare a [.NotIn] [b] pos) (eBin dNotInL fa fb) := dx_cmp (op_notInD hu) opd_notInL ha hb hm
def intsOf : List D → Option (List Int)
  | [] => some []
  | .int i :: ds => (intsOf ds).map fun r => i :: r
  | _ => none
theorem intsOf_eq : ∀ {ds : List D} {ns : List Int}, intsOf ds = some ns → ds = ns.map .int
  | [], _, h => by cases h; rfl
  | .int i :: ds, _, h => by
    obtain ⟨r, h1, h2⟩ := Option.map_eq_some_iff.1 h
    subst h2
    rw [intsOf_eq h1]; rfl
@[simp] theorem intsOf_map : ∀ ns : List Int, intsOf (ns.map .int) = some ns
  | [] => rfl
  | n :: ns => by simp [intsOf, intsOf_map ns]
/-- a whole number in a list or tuple of whole numbers -/
def dInI (neg : Bool) : D → D → Option D
  | .int i, .list ds => (intsOf ds).map fun ns => .bool (if neg then !ns.contains i else ns.contains i)
  | .int i, .tuple ds => (intsOf ds).map fun ns => .bool (if neg then !ns.contains i else ns.contains i)
  | _, _ => none
theorem inV_ints (i : Int) : ∀ ns : List Int, inV (.int i) (ns.map V.int) = ns.contains i
  | [] => rfl
  | n :: ns => by
    have ih := inV_ints i ns
    unfold inV at ih ⊢
    rw [List.map_cons, List.any_cons, ih, List.contains_cons]
    have : eqV (V.int n) (V.int i) = (i == n) := by
      by_cases h : i = n
      · subst h; simp [eqV]
      · have h2 : ¬ n = i := fun z => h z.symm
        show (n == i) = (i == n)
        rw [beq_eq_false_iff_ne.mpr h, beq_eq_false_iff_ne.mpr h2]
    rw [this]
theorem flat_ints : ∀ ns : List Int, (ns.map V.int).all flatV = true
  | [] => rfl
  | n :: ns => by rw [List.map_cons, List.all_cons, flat_ints ns]; rfl
theorem opd_inI (neg : Bool) : OpD K (rIn K neg) (dInI neg) := by
  intro F H x y d e q Q sF hx hy hg k
  unfold dInI at hg
  split at hg
  · obtain ⟨ns, h1, h2⟩ := Option.map_eq_some_iff.1 hg
    obtain ⟨p, vs, rfl, hs, r⟩ := hy.list sF
    rw [intsOf_eq h1] at r
    have ev := r.ints
    subst ev; subst h2
    rw [hx.int]
    refine ⟨p, _, rfl, .inl hs, rfl, flat_ints ns, ?_⟩
    rw [inV_ints]
    exact k _ F H (.refl sF) (.bl _)
  · obtain ⟨ns, h1, h2⟩ := Option.map_eq_some_iff.1 hg
    obtain ⟨p, vs, rfl, hs, r⟩ := hy.tup sF
    rw [intsOf_eq h1] at r
    have ev := r.ints
    subst ev; subst h2
    rw [hx.int]
    refine ⟨p, _, rfl, .inr hs, rfl, flat_ints ns, ?_⟩
    rw [inV_ints]
    exact k _ F H (.refl sF) (.bl _)
  · cases hg
theorem hb_inI (neg : Bool) : ∀ x y q, dInI neg x y = some q → ∃ k, q = .bool k := by
  intro x y q e
  unfold dInI at e
  split at e
  · obtain ⟨ns, _, h2⟩ := Option.map_eq_some_iff.1 e; exact ⟨_, h2.symm⟩
  · obtain ⟨ns, _, h2⟩ := Option.map_eq_some_iff.1 e; exact ⟨_, h2.symm⟩
  · cases e
theorem dx_inI (ha : DX X W a fa) (hb : DX X W b fb) (hm : behindInMarks .In b = false := by rfl) : DX X W (.Compare a [.In] [b] pos) (eBin (dInI false) fa fb) := dx_cmp op_in_seq (opd_inI false) ha hb hm
theorem dx_notInI (ha : DX X W a fa) (hb : DX X W b fb) (hm : behindInMarks .NotIn b = false := by rfl) : DX X W (.Compare a [.NotIn] [b] pos) (eBin (dInI true) fa fb) := dx_cmp op_notIn_seq (opd_inI true) ha hb hm
theorem dt_inI (ha : DX X W a fa) (hb : DX X W b fb) (hm : behindInMarks .In b = false := by rfl) : DT X W (.Compare a [.In] [b] pos) (tOf (eBin (dInI false) fa fb)) := dt_cmp op_in_seq (opd_inI false) ha hb hm (hb_inI false)
theorem dt_notInI (ha : DX X W a fa) (hb : DX X W b fb) (hm : behindInMarks .NotIn b = false := by rfl) : DT X W (.Compare a [.NotIn] [b] pos) (tOf (eBin (dInI true) fa fb)) := dt_cmp op_notIn_seq (opd_inI true) ha hb hm (hb_inI true)
end
end
end M
set_option Elab.async false
set_option linter.all false
set_option maxRecDepth 100000
set_option autoImplicit false
/-! M20: targets with a star -/
namespace M
noncomputable section
open PySem PySem.Spec PyProof.Rows L2
theorem walksFrom {prog : Program} {w : World} {A : Around} (hh : A.handled = none) (I ax : Addr) (hne : ax ≠ I) (items : Array Value) (k : Nat) (hk : k ≤ items.size) :
    Walks prog w A I [I, ax] [I] (items.size - k) (fun i v => items[k + i]? = some v) (fun i h => h.IsTupleIter I ax (k + i) ∧ h.IsTuple ax items) where
  sub := fun b hb => by simp at hb; simp [hb]
  frame := fun _ _ _ st hk => ⟨st.1.at fun o e => hk I (by simp) o e, st.2.at fun o e => hk ax (by simp) o e⟩
  item := fun i s Q E hi st hQ => by
    have hlt : k + i < items.size := by omega
    refine wpAny_pyNext_tuple_item st.1 st.2 (x := items[k + i]) (by simp [hlt]) fun h' hit' hs' => ?_
    exact hQ _ h' s.toks (by simp [hlt]) ⟨hit', st.2.extBut hs'.extBut hne⟩ fun b o hb e => hs'.extBut b o (fun h => hb (by simp [h])) e
  done := fun s Q E st hQ => wpAny_pyNext_tuple_end hh st.1 st.2 (by simp; omega) fun h' he' => hQ h' s.toks fun b o hb e => he' b o (fun h => hb (by simp [h])) e
  self := fun _ _ _ _ st hQ => wpAny_pyIter_tupleiter st.1 hQ
theorem items_from {items acc : Array Value} {k : Nat} (hk : k ≤ items.size) (h : ItemsOf (fun i v => items[k + i]? = some v) acc (items.size - k)) : acc.toList = items.toList.drop k := by
  apply List.ext_getElem?
  intro j
  rw [List.getElem?_drop]
  by_cases hj : j < acc.size
  · have := h.2 j acc[j] (by simp [hj])
    rw [Array.getElem?_toList, Array.getElem?_toList, this]
    simp [hj]
  · have hs := h.1
    rw [List.getElem?_eq_none (by simp; omega), List.getElem?_eq_none (by simp; omega)]
theorem unpack_star {prog : Program} {w : World} {A : Around} {E : Value → Shared → Prop} {s : Shared} {t : Addr} {items : Array Value} {n k : Nat} {Q : List Value → Shared → Prop} (hh : A.handled = none) (hh1 : A.in1.handled = none) (ht : IsTup s.heap t items) (hz : items.size ≤ sizeLine)
    (hn : n = k + 1) (hk : k ≤ items.size)
    (hQ : ∀ (h' : Heap) (tk : Nat), s.toks ≤ tk → (∀ b o, s.heap.get? b = some o → h'.get? b = some o) → Q (items.toList.take k ++ [.ref h'.objs.size]) { s with heap := h'.push { cls := .type "list", data := .seq (items.toList.drop k).toArray }, toks := tk }) :
    wpAny (model prog w) A (unpackItems (.ref t) n (some k)) Q E s := by
  have hlt : t ≠ s.heap.objs.size := by obtain ⟨o, ho, _⟩ := ht; exact Nat.ne_of_lt (Heap.lt_size ho)
  subst hn
  unfold unpackItems
  refine wpAny_bind ?_
  · unfold notIterableAtAll
    refine wpAny_bind (wpAny_specialOf ht.typeIs slot_tuple_iter.lookup ?_)
    refine wpAny_pure ?_
    simp only [Bool.false_eq_true, if_false]
    refine wpAny_bind (wpAny_holding (iter_tuple ht ?_))
    refine wpAny_bind (wpAny_holding (draw_tuple hlt k 0 _ _ ⟨_, Heap.get?_push_size _ rfl, rfl, rfl⟩ (ht.push _) (by omega) fun h₁ hit₁ hs₁ => ?_))
    rw [List.drop_zero]
    rw [if_neg (by simp; omega)]
    have ht₁ : IsTup h₁ t items := (ht.push _).extBut hs₁.extBut hlt
    rw [Nat.zero_add] at hit₁
    have W := (walksFrom (prog := prog) (w := w) (A := A.in1) hh1 s.heap.objs.size t hlt items k hk).toS
    refine wpAny_bind (wpAny_holding (wpAny_collect_iter (.inr (.inr (.inr rfl))) W (fun i s st => st.1.typeIs) ⟨hit₁, ht₁⟩ (fun b hb => ?_) (by simp) (fun s' acc m io => ?_) (by omega)))
    · simp only [List.mem_cons, List.not_mem_nil, or_false] at hb
      rcases hb with rfl | rfl
      · obtain ⟨o, ho, _⟩ := hit₁; exact Heap.lt_size ho
      · obtain ⟨o, ho, _⟩ := ht₁; exact Heap.lt_size ho
    · have ea := items_from hk io
      rw [ea]
      simp only [Nat.add_sub_cancel, Nat.sub_self, Nat.not_lt_zero, if_false, Nat.sub_zero]
      rw [List.take_of_length_le (Nat.le_refl _), List.drop_of_length_le (Nat.le_refl _)]
      have hs' := m.eq_with
      have up : ∀ (b : Addr) (o : Obj), s.heap.get? b = some o → s'.heap.get? b = some o := fun b o e => by
        have ne : b ≠ s.heap.objs.size := Nat.ne_of_lt (Heap.lt_size e)
        exact m.heap b o (by simpa using ne) (hs₁.extBut b o ne (Heap.get?_push_of_some _ e))
      refine wpAny_bind (wpAny_newObj_type ?_ (show (List.drop k items.toList).toArray.size ≤ sizeLine by rw [List.size_toArray, List.length_drop, Array.length_toList]; omega))
      rw [List.append_nil]
      refine wpAny_pure ?_
      have q := hQ s'.heap s'.toks m.toks up
      rw [hs']
      exact q
def gTupS (K : PySem.W.Frag) (k : Nat) (t : TGs) : TG := fun v σ H Q => ∃ a xs, v = .ref a ∧ SqT K H a xs ∧ k ≤ xs.length ∧ ∀ p, H p = none → t (xs.take k ++ [.ref p]) σ (upd H p (.lst (xs.drop k))) Q
section
variable {X : Cx}
theorem pg_star {es : List Expr} {k0 k : Nat} {t : TGs} {pos : Pos} (hc : X.calm = true) (h : PGs X es t)
    (hn : (assignEach es X.env).length = k + 1 := by rfl) (hst : (assignEach es X.env).findIdx? (·.1) = some k := by rfl) : PG X (.Tuple es k0 pos) (gTupS X.K k t) := by
  refine ⟨fun pins s σ H v u Q I r hw => ?_⟩
  obtain ⟨a, xs, e1, hq, hl, hw⟩ := hw
  subst e1
  cases r
  obtain ⟨its, rv, ht, hz⟩ := I.tuple hq
  rw [assign_Tuple]
  refine wpAny_bind (wpAny_standAt ?_)
  unfold unpack
  rw [hn, hst]
  have hk : k ≤ its.toArray.size := by rw [List.size_toArray, ← rv.length]; exact hl
  have hz' : its.toArray.size ≤ sizeLine := by rw [List.size_toArray, ← rv.length]; exact hz
  refine wpAny_bind (wpAny_holding (unpack_star (I.ok.hd hc) (I.ok.hd hc) ht hz' rfl hk fun h' tk htk up => ?_))
  have I1 : Inv X pins σ H { s with heap := h', toks := tk } := I.kept (t' := tk) up
  have I2 := I1.laid (a := h'.objs.size) (o := .lst (xs.drop k)) (t' := tk) (h' := h'.push { cls := Value.type "list", data := Data.seq (List.drop k its.toArray.toList).toArray }) (fun b u e => Heap.get?_push_of_some _ e) (Nat.le_refl _)
    ⟨by rw [List.length_drop]; omega, _, 0, rv.drop k, Heap.get?_push_size _ rfl⟩
  have np : H h'.objs.size = none := I1.hok.fresh (Nat.le_refl _)
  exact h.run pins _ σ _ _ _ Q I2 ((rv.take k).append (.cons (show RelV (V.ref h'.objs.size) (Value.ref h'.objs.size) from rfl) .nil)) (hw _ np)
end
end
end M
set_option Elab.async false
set_option linter.all false
set_option maxRecDepth 100000
set_option autoImplicit false
/-! M21: targets with a star behind the others -/
namespace M
noncomputable section
open PySem PySem.Spec PyProof.Rows L2
section
variable {X : Cx}
theorem pgs_consStar {e : Expr} {p : Pos} {es : List Expr} {t : TG} {u : TGs} (h1 : PG X e t) (h2 : PGs X es u)
    (hs : (assignEach (.Starred e p :: es) X.env).map (·.2) = assign e X.env :: (assignEach es X.env).map (·.2) := by rfl) : PGs X (.Starred e p :: es) (gCons t u) := by
  refine ⟨fun pins s σ H vs us Q I r h => ?_⟩
  obtain ⟨v, vr, e1, h⟩ := h
  subst e1
  cases r with
  | cons r rr =>
    rw [hs]
    exact assignInOrder_cons (thn (h1.run pins s σ H _ _ _ I r h) fun _ s1 ⟨σ1, H1, I1, q1⟩ => h2.run pins s1 σ1 H1 _ _ _ I1 rr q1)
end
/-- a, b, *rest: the first k, the rest as a list -/
def gS (k : Nat) (gs : List Gt) : Gt := fun d e => match d with
  | .tuple ds => if k ≤ ds.length then gTs gs (ds.take k ++ [.list (ds.drop k)]) e else none
  | _ => none
@[simp] theorem gS_t (k : Nat) (gs : List Gt) (ds : List D) (e : En) : gS k gs (.tuple ds) e = if k ≤ ds.length then gTs gs (ds.take k ++ [.list (ds.drop k)]) e else none := rfl
section
variable {X : Cx} {W : WX} {pos : Pos}
theorem dgs_star {tg : Expr} {p : Pos} {tgs : List Expr} {g : Gt} {gs : List Gt} {ix iy : List Nat} (h1 : DG X W tg g ix) (h2 : DGs X W tgs gs iy)
    (hs : (assignEach (.Starred tg p :: tgs) X.env).map (·.2) = assign tg X.env :: (assignEach tgs X.env).map (·.2) := by rfl) : DGs X W (.Starred tg p :: tgs) (g :: gs) (ix ++ iy) := by
  obtain ⟨t, p, q⟩ := h1.ex
  obtain ⟨t2, p2, q2⟩ := h2.ex
  refine ⟨_, pgs_consStar p p2 hs, fun G en e' F H σ vs ds Q R r e k => ?_⟩
  cases ds with
  | nil => cases e
  | cons d ds =>
    cases r with
    | cons r rr =>
      obtain ⟨e1, h1, h2⟩ := Option.bind_eq_some_iff.mp e
      exact ⟨_, _, rfl, q G en e1 F H σ _ d _ R r h1 fun F1 H1 σ1 R1 s1 a1 => q2 G e1 e' F1 H1 σ1 _ ds Q R1 (rr.mono s1) h2 fun F2 H2 σ2 R2 s2 a2 => k F2 H2 σ2 R2 (s1.trans s2) (a1.trans a2)⟩
theorem dg_star {tgs : List Expr} {gs : List Gt} {ix : List Nat} {k0 k : Nat} (hc : X.calm = true) (h : DGs X W tgs gs ix)
    (hn : (assignEach tgs X.env).length = k + 1 := by rfl) (hst : (assignEach tgs X.env).findIdx? (·.1) = some k := by rfl) : DG X W (.Tuple tgs k0 pos) (gS k gs) ix := by
  obtain ⟨t, p, q⟩ := h.ex
  refine ⟨_, pg_star hc p hn hst, fun G en e' F H σ v d Q R r e kk => ?_⟩
  cases d with
  | tuple ds =>
    cases r with
    | tup hS rr =>
      rename_i a0 xs0
      rw [gS_t] at e
      by_cases hk : k ≤ ds.length
      · rw [if_pos hk] at e
        refine ⟨_, _, rfl, SqT.mono R.fh hS, by rw [rr.length]; exact hk, fun p np => ?_⟩
        have g := Grow.alloc (o := .lst (List.drop k xs0)) R.fh np
        refine q G en e' _ _ σ _ _ Q (R.grow g) (((rr.take k).mono g.f).append (.cons ?_ .nil)) e fun F2 H2 σ2 R2 s2 a2 => kk F2 H2 σ2 R2 (g.f.trans s2) a2
        exact .lst (.inl (.inl upd_same)) ((rr.drop k).mono g.f)
      · rw [if_neg hk] at e; cases e
  | _ => cases e
end
end
end M
set_option Elab.async false
set_option linter.all false
set_option maxRecDepth 100000
set_option autoImplicit false
/-! M22: calls by any pattern of places, names and parameters left out. -/
namespace M
noncomputable section
open PySem PySem.Spec PyProof.Rows L2
def arrX {α : Type} (z : α) (l : List Nat) (xs : List α) : List α := l.map fun i => xs.getD i z
def arr (l : List Nat) (ds : List D) (as : List A) : List A := arrX (.sh .none) l (as ++ ds.map .sh)
@[simp] theorem arr_r (l : List Nat) (ds : List D) (as : List A) : arr l ds as = l.map fun i => (as ++ ds.map A.sh).getD i (.sh .none) := rfl
/-- what such a call binds -/
structure PatOk (K : PySem.W.Frag) (fd : FuncData) (ps : List Str) (n : Nat) (ks : List Str) (l : List Nat) (ds : List D) : Prop where
  ex : ∃ g gV, KBn K fd ps n ks g gV ∧ ∀ (F : Hp) (σ : L2.St) (as bs : List A) (vs zs : List V), as.length = n → bs.length = ks.length → AsOk K F σ as vs → AsOk K F σ bs zs → AsOk K F σ (arr l ds (as ++ bs)) (gV vs zs)
section
variable {K : PySem.W.Frag} {F : Hp} {σ : L2.St}
theorem vals_getD : ∀ {xs : List V} {ys : List Value}, Vals xs ys → ∀ i : Nat, RelV (xs.getD i .non) (ys.getD i .none)
  | _, _, .nil, i => by simp; rfl
  | _, _, .cons h r, 0 => by simpa using h
  | _, _, .cons h r, i + 1 => by simpa using vals_getD r i
theorem vals_arr {xs : List V} {ys : List Value} (h : Vals xs ys) : ∀ l : List Nat, Vals (arrX .non l xs) (arrX .none l ys)
  | [] => .nil
  | i :: l => .cons (vals_getD h i) (vals_arr h l)
theorem asOk_append : ∀ {as bs : List A} {vs zs : List V}, AsOk K F σ as vs → AsOk K F σ bs zs → AsOk K F σ (as ++ bs) (vs ++ zs)
  | [], bs, vs, zs, h, k => by
    cases (show vs = [] from h)
    exact k
  | a :: as, bs, _, zs, ⟨v, ws, e, h, t⟩, k => ⟨v, ws ++ zs, by rw [e]; rfl, h, asOk_append t k⟩
theorem asOk_getD : ∀ {as : List A} {vs : List V}, AsOk K F σ as vs → ∀ i : Nat, i < as.length → AOk K F σ (as.getD i (.sh .none)) (vs.getD i .non)
  | [], _, _, _, h => by simp at h
  | a :: as, _, ⟨v, ws, e, h, t⟩, 0, _ => by rw [e]; simpa using h
  | a :: as, _, ⟨v, ws, e, h, t⟩, i + 1, hi => by rw [e]; simpa using asOk_getD t i (by simpa using hi)
theorem asOk_arr {as : List A} {vs : List V} (h : AsOk K F σ as vs) : ∀ l : List Nat, (∀ i ∈ l, i < as.length) → AsOk K F σ (arrX (.sh .none) l as) (arrX .non l vs)
  | [], _ => rfl
  | i :: l, hl => ⟨_, _, rfl, asOk_getD h i (hl i (List.mem_cons_self ..)), asOk_arr h l fun j m => hl j (List.mem_cons_of_mem _ m)⟩
theorem asOk_sh : ∀ {ms : List (V × D)}, (∀ q ∈ ms, Rep K F q.1 q.2) → AsOk K F σ ((ms.map (·.2)).map .sh) (ms.map (·.1))
  | [], _ => rfl
  | m :: ms, h => ⟨_, _, rfl, h m (List.mem_cons_self ..), asOk_sh fun q hq => h q (List.mem_cons_of_mem _ hq)⟩
/-- all parameters are given -/
theorem pat_plain {fd : FuncData} {ps : List Str} {n : Nat} {ks : List Str} {l : List Nat} (h : ∀ us ws : List Value, us.length = n → ws.length = ks.length → bindArgs fd ⟨us, ks.zip ws⟩ = pure (ps.zip (arrX .none l (us ++ ws)))) (hl : ∀ i ∈ l, i < n + ks.length) : PatOk K fd ps n ks l [] := by
  refine ⟨fun us ws => arrX .none l (us ++ ws), fun vs zs => arrX .non l (vs ++ zs), ⟨fun s us ws _ h1 h2 => .of_eq (h us ws h1 h2), fun r1 r2 => vals_arr (r1.append r2) l⟩, fun F σ as bs vs zs h1 h2 a1 a2 => ?_⟩
  unfold arr
  rw [List.map_nil, List.append_nil]
  exact asOk_arr (asOk_append a1 a2) l fun i m => by rw [List.length_append, h1, h2]; exact hl i m
/-- keyword-only parameters left out: ms, their values -/
theorem pat_kw {x qual : Str} {params : Arguments} {body : List Stmt} {scope : Scope} {kV doc pm : Value} {an : Option Addr} {cdv ct : Value} {ps : List Str} {n : Nat} {ks : List Str} {l : List Nat} (ms : List (Str × V × D))
    (hK : KwdV K kV (ms.map fun q => (q.1, q.2.1))) (hm : ms ≠ []) (hR : ∀ q ∈ ms, ∀ F, Rep K F q.2.1 q.2.2)
    (h : ∀ (D : Addr) (us ws mv : List Value), us.length = n → ws.length = ks.length → mv.length = ms.length →
      KwChain D ((ms.map (·.1)).zip mv) (bindArgs (PySem.W.fnOf x qual params body scope .none (.ref D) doc pm an cdv ct) ⟨us, ks.zip ws⟩) (ps.zip (arrX .none l (us ++ ws ++ mv)))) (hl : ∀ i ∈ l, i < n + ks.length + ms.length) :
    PatOk K (PySem.W.fnOf x qual params body scope .none kV doc pm an cdv ct) ps n ks l (ms.map (·.2.2)) := by
  rcases hK with e | ⟨D, rfl, hq⟩
  · exact (hm (by simpa using e)).elim
  · obtain ⟨mv, hl2, rk, hks⟩ := kwd_vals hq
    refine ⟨fun us ws => arrX .none l (us ++ ws ++ mv), fun vs zs => arrX .non l (vs ++ zs ++ ms.map (·.2.1)), ⟨fun s us ws X h1 h2 => BindsTo.of_looks fun M => KwChain.looks X hks ?_, fun r1 r2 => vals_arr ((r1.append r2).append ?_) l⟩, fun F σ as bs vs zs h1 h2 a1 a2 => ?_⟩
    · rw [List.map_map]; exact h D us ws mv h1 h2 (by simpa using hl2)
    · rw [List.map_map] at rk; exact rk
    · unfold arr
      have q := asOk_sh (K := K) (F := F) (σ := σ) (ms := ms.map fun q => (q.2.1, q.2.2)) (fun q hq => by
        obtain ⟨r, hr, rfl⟩ := List.mem_map.1 hq
        exact hR r hr F)
      rw [List.map_map, List.map_map, List.map_map] at q
      refine asOk_arr (asOk_append (asOk_append a1 a2) (show AsOk K F σ ((ms.map (·.2.2)).map .sh) (ms.map (·.2.1)) by rw [List.map_map]; exact q)) l fun i m => by
        have := hl i m
        simp only [List.length_append, h1, h2, List.length_map]; omega
end
section
variable {P : Program} {w : World} {K : PySem.W.Frag} {mg : Str → Option Value} {bs : Heap}
/-- a def of the text that is called by a pattern -/
structure FunP (K : PySem.W.Frag) (mg : Str → Option Value) (x qual : Str) (st : Stmt) (ps : List Str) (pts : List (Nat × List Str × List Nat × List D)) : Prop where
  ex : ∃ f fd, Fun K x qual st f fd ∧ mg x = some (.ref f) ∧ ∀ p ∈ pts, PatOk K fd ps p.1 p.2.1 p.2.2.1 p.2.2.2
structure CallP (P : Program) (w : World) (K : PySem.W.Frag) (mg : Str → Option Value) (bs : Heap) (k : Nat) (x : Str) (ps : List Str) (pts : List (Nat × List Str × List Nat × List D)) (Fd : List Sl → Rt) : Prop where
  ex : ∃ f fd, FnG P w K mg bs CX0 k f fd ps (spD K mg ps.length Fd) ∧ mg x = some (.ref f) ∧ PySem.W.keepIn K (.ref f) = true ∧ ∀ p ∈ pts, PatOk K fd ps p.1 p.2.1 p.2.2.1 p.2.2.2
theorem fun_okP {x qual : Str} {st : Stmt} {N ps : List Str} {k : Nat} {pts : List (Nat × List Str × List Nat × List D)} {body : En → SR} (F : FunP K mg x qual st ps pts) (S : FnScope N ps (defScope st)) (hps : ps.length ≤ N.length)
    (hbody : ∀ (f : Addr) (cdv : Value) (A : Around) (out : List PySem.Env) (s : Shared) (H : Hp) (E : XK), Room k (A.deeper (envOfC qual (defScope st) s.heap.objs.size f cdv)) → (A.deeper (envOfC qual (defScope st) s.heap.objs.size f cdv)).guards = some [] →
      DSs (cxOf CX0 P w K mg bs N qual (defScope st) f cdv A out s H E).nox WX0 (defBody st) body) : CallP P w K mg bs (k + 1) x ps pts (run0 N.length body) := by
  obtain ⟨f, fd, h1, h2, h3⟩ := F.ex
  exact ⟨f, fd, def_ok h1 S hps (fun cdv A out s H E hr gd => hbody f cdv A out s H E hr gd), h2, h1.kp, h3⟩
theorem fun_badP {x qual : Str} {st : Stmt} {ps : List Str} {k : Nat} {pts : List (Nat × List Str × List Nat × List D)} (F : FunP K mg x qual st ps pts) : CallP P w K mg bs k x ps pts badF := by
  obtain ⟨f, fd, h1, h2, h3⟩ := F.ex
  refine ⟨f, fd, ⟨fun us H Q E h => h.1, fun A out s H ar us vs Q E _ _ _ _ _ h => ?_⟩, h2, h1.kp, h3⟩
  obtain ⟨_, F', as, As, _, _, z⟩ := h
  exact z.elim
end
def eCallP (Fd : List Sl → Rt) (l : List Nat) (ds : List D) (fs gs : Ev (List A)) : Ev A := fun e => (fs e).bind fun as e1 => (gs e1).bind fun bs e2 => (callRt Fd (arr l ds (as ++ bs)) e2).bind fun p e3 => .ok (.sh p.2) e3
def oCallP (Fd : List Sl → Rt) (l : List Nat) (ds : List D) (fs gs : Ev (List A)) : Ev D := fun e => (fs e).bind fun as e1 => (gs e1).bind fun bs e2 => (callRt Fd (arr l ds (as ++ bs)) e2).bind fun p e3 => if p.1 = true then .ok p.2 e3 else .bad
section
variable {X : Cx} {W : WX} {k : Nat} {f : Addr} {fd : FuncData} {ps ks : List Str} {x : Str} {p pos : Pos} {a : Expr} {es : List Expr} {kws : List Keyword} {fs gs : Ev (List A)} {Fd : List Sl → Rt} {n : Nat} {t tk : TA} {sp : Sp} {g : List Value → List Value → List Value} {gV : List V → List V → List V} {l : List Nat} {ds : List D}
theorem runPG {pins : List (Addr × Obj)} {σ : L2.St} {H : Hp} {s : Shared} {Q : VK} {us ws : List Value} {vs zs : List V} (F : FnG X.prog X.w X.K X.mg X.base CX0 k f fd ps sp) (r : Room k X.A) (gd : X.A.guards = some []) (hb : KBn X.K fd ps n ks g gV) (l1 : vs.length = n) (l2 : zs.length = ks.length)
    (I : Inv X pins σ H s) (rv : Vals vs us) (rz : Vals zs ws) (h : sp (gV vs zs) H Q E0) : wpAny (model X.prog X.w) X.A (call (.ref f) us (ks.zip ws)) (EP X pins σ Q) X.xe s := by
  have r2 := hb.rel rv rz
  refine wpAny_call (codeAny_mono (F.run X.A X.stack s H ⟨us, ks.zip ws⟩ (g us ws) (gV vs zs) Q E0 r gd I.env0 (hb.to s us ws I.kIn (rv.length.symm.trans l1) (rz.length.symm.trans l2)) r2 h) fun res s1 q => ?_)
  cases res with
  | error e => exact False.elim q
  | ok fl =>
    cases fl with
    | ret u => exact I.after q
    | _ => exact False.elim q
def tCP (n m : Nat) (sp : Sp) (gV : List V → List V → List V) (t tk : TA) : TE := fun σ H Q => t σ H fun vs H1 => tk σ H1 fun zs H2 => vs.length = n ∧ zs.length = m ∧ sp (gV vs zs) H2 Q E0
theorem pe_callPK (F : FnG X.prog X.w X.K X.mg X.base CX0 k f fd ps sp) (r : Room k X.A) (gd : X.A.guards = some []) (hg : Gl X x) (hm : X.mg x = some (.ref f)) (hk : PySem.W.keepIn X.K (.ref f) = true) (hb : KBn X.K fd ps n ks g gV)
    (ha : PA X (a :: es) t) (hkw : PK X kws tk) (hall : (backToKw pos (keywordEach kws X.env)).all (·.1.isSome) = true) (hks : (backToKw pos (keywordEach kws X.env)).filterMap (·.1) = ks)
    (hdb : (x == ("__debug__" : Str)) = false) (he : starEach (a :: es) X.env = (false, eval a X.env) :: starEach es X.env)
    (hpl : ((backTo pos (starEach (a :: es) X.env)).any (·.1) || (backToKw pos (keywordEach kws X.env)).any (·.1.isNone)) = false) :
    PE X (.Call (.Name x p) (a :: es) kws pos) (tCP n ks.length sp gV t tk) := by
  refine ⟨fun pins s σ H Q I h => ?_⟩
  refine wpAny_Call_Name_kw (ld_glob I hg hm ?_ hdb)
  refine PySem.W.callWith_KW (h₀ := X.base) I.ok.mod.kin hk hall (thn (ha.run pos pins s σ H _ I h) fun us s1 ⟨vs, H1, I1, rv, q⟩ => ?_) hpl he
  refine thn (hkw.run pos pins s1 σ H1 _ I1 q) fun ws s2 ⟨zs, H2, I2, rz, l1, l2, q2⟩ => ⟨I2.kIn, ?_⟩
  rw [hks]
  exact runPG F r gd hb l1 l2 I2 rv rz q2
theorem pe_callK0 (F : FnG X.prog X.w X.K X.mg X.base CX0 k f fd ps sp) (r : Room k X.A) (gd : X.A.guards = some []) (hg : Gl X x) (hm : X.mg x = some (.ref f)) (hk : PySem.W.keepIn X.K (.ref f) = true) (hb : KBn X.K fd ps n ks g gV)
    (hkw : PK X kws tk) (hall : (backToKw pos (keywordEach kws X.env)).all (·.1.isSome) = true) (hks : (backToKw pos (keywordEach kws X.env)).filterMap (·.1) = ks)
    (hdb : (x == ("__debug__" : Str)) = false) (hpl : ((backTo pos (starEach [] X.env)).any (·.1) || (backToKw pos (keywordEach kws X.env)).any (·.1.isNone)) = false) :
    PE X (.Call (.Name x p) [] kws pos) (tCP n ks.length sp gV tNil tk) := by
  refine ⟨fun pins s σ H Q I h => ?_⟩
  refine wpAny_Call_Name_kw (ld_glob I hg hm ?_ hdb)
  refine PySem.W.callWith_KW0 (h₀ := X.base) I.ok.mod.kin hk hall (thn (hkw.run pos pins s σ H _ I h) fun ws s2 ⟨zs, H2, I2, rz, l1, l2, q2⟩ => ⟨I2.kIn, ?_⟩) hpl
  rw [hks]
  exact runPG (us := []) F r gd hb l1 l2 I2 .nil rz q2
theorem pe_callP0 (F : FnG X.prog X.w X.K X.mg X.base CX0 k f fd ps sp) (r : Room k X.A) (gd : X.A.guards = some []) (hg : Gl X x) (hm : X.mg x = some (.ref f)) (hk : PySem.W.keepIn X.K (.ref f) = true) (hb : KBn X.K fd ps n [] g gV)
    (ha : PA X (a :: es) t) (hdb : (x == ("__debug__" : Str)) = false) (he : starEach (a :: es) X.env = (false, eval a X.env) :: starEach es X.env) (hpl : (backTo pos (starEach es X.env)).any (·.1) = false) :
    PE X (.Call (.Name x p) (a :: es) [] pos) (tCP n 0 sp gV t tNil) := by
  refine ⟨fun pins s σ H Q I h => wpAny_Call_Name_kw (ld_glob I hg hm (PySem.W.callWith_K (h₀ := X.base) I.ok.mod.kin hk (thn (ha.run pos pins s σ H _ I h) fun us s1 ⟨vs, H1, I1, rv, q⟩ => ⟨I1.kIn, ?_⟩) he hpl) hdb)⟩
  obtain ⟨l1, l2, q2⟩ := q
  exact runPG (ws := []) (ks := []) F r gd hb l1 l2 I1 rv .nil q2
/-- the run of such a call by its meaning -/
theorem callP_run (kp : Keeps Fd) (nx : NoX Fd) {G : Gd} {F2 H2 : Hp} {e2 : En} {σ : L2.St} {as bs : List A} {vs zs : List V} {m : Nat} {β : Type} {gg : Bool × D → En → M.R β} {Q : VK} {Post : Hp → M.R β → Prop}
    (hgV : ∀ (F : Hp) (σ : L2.St) (as bs : List A) (vs zs : List V), as.length = n → bs.length = m → AsOk X.K F σ as vs → AsOk X.K F σ bs zs → AsOk X.K F σ (arr l ds (as ++ bs)) (gV vs zs)) (ha : as.length = n) (hb : bs.length = m) (hps : (arr l ds (as ++ bs)).length = ps.length)
    (R2 : Rel X.K G e2 F2 H2 σ) (o1 : AsOk X.K F2 σ as vs) (o2 : AsOk X.K F2 σ bs zs) (nb : Post F2 .bad → False) (h : Post F2 ((callRt Fd (arr l ds (as ++ bs)) e2).bind gg))
    (ok : ∀ o d e3 v F' H', Rel X.K G e3 F' H' σ → Same F2 F' → RtOk X.K G e3 F' H' σ o d v → Post F2 (gg (o, d) e3) → Q v H') : vs.length = n ∧ zs.length = m ∧ spD X.K X.mg ps.length Fd (gV vs zs) H2 Q E0 := by
  refine ⟨o1.len.trans ha, o2.len.trans hb, ?_⟩
  refine call_run (Post := Post) kp hps R2 (hgV F2 σ as bs vs zs ha hb o1 o2) nb h ok (fun y e2 cls dd F' H' w => ?_)
  obtain ⟨ss, as', w⟩ := w
  exact (nx ss y as' w).elim
theorem dx_ofP {m : Nat} {e : Expr} {kws : List Keyword} (kp : Keeps Fd) (nx : NoX Fd) (hgV : ∀ (F : Hp) (σ : L2.St) (as bs : List A) (vs zs : List V), as.length = n → bs.length = m → AsOk X.K F σ as vs → AsOk X.K F σ bs zs → AsOk X.K F σ (arr l ds (as ++ bs)) (gV vs zs))
    (hl : l.length = ps.length) (h1 : ∀ en as e1, fs en = .ok as e1 → as.length = n) (h2 : ∀ en as e1, gs en = .ok as e1 → as.length = m)
    (qa : ∀ (G : Gd) (en : En) (F H : Hp) (σ : L2.St) (Q : List V → Hp → Prop), Rel X.K G en F H σ → PA1 X W G F σ (fs en) Q → t σ H Q) (qb : ∀ (G : Gd) (en : En) (F H : Hp) (σ : L2.St) (Q : List V → Hp → Prop), Rel X.K G en F H σ → PA1 X W G F σ (gs en) Q → tk σ H Q)
    (hp : PE X e (tCP n m (spD X.K X.mg ps.length Fd) gV t tk)) : DX X W e (eCallP Fd l ds fs gs) := by
  refine ⟨_, hp, fun G en F H σ Q R h => qa G en F H σ _ R ?_⟩
  unfold eCallP at h
  cases z : fs en with
  | bad => rw [z] at h; exact h
  | ex y e1 => rw [z] at h; exact h
  | ok as e1 =>
    rw [z] at h
    intro vs F1 H1 R1 s1 o1
    refine qb G e1 F1 H1 σ _ R1 ?_
    simp only [M.R.bind] at h
    cases z2 : gs e1 with
    | bad => rw [z2] at h; exact h
    | ex y e1 => rw [z2] at h; exact fun cls dd F' H' R s o => h cls dd F' H' R (s1.trans s) o
    | ok bs e2 =>
      rw [z2] at h
      simp only at h
      intro zs F2 H2 R2 s2 o2
      refine callP_run (Post := fun _ r => PE1 X W G F σ r Q) kp nx hgV (h1 en as e1 z) (h2 e1 bs e2 z2) (by rw [arr_r, List.length_map]; exact hl) R2 (o1.mono s2) o2 (fun w => w) h (fun o d e3 v F' H' R' s' ro w => ?_)
      obtain ⟨F3, R3, s3, r3⟩ := rt_frz R' ro
      exact w v F3 H' R3 (s1.trans (s2.trans (s'.trans s3))) r3
theorem do_ofP {m : Nat} {e : Expr} {kws : List Keyword} (kp : Keeps Fd) (nx : NoX Fd) (hgV : ∀ (F : Hp) (σ : L2.St) (as bs : List A) (vs zs : List V), as.length = n → bs.length = m → AsOk X.K F σ as vs → AsOk X.K F σ bs zs → AsOk X.K F σ (arr l ds (as ++ bs)) (gV vs zs))
    (hl : l.length = ps.length) (h1 : ∀ en as e1, fs en = .ok as e1 → as.length = n) (h2 : ∀ en as e1, gs en = .ok as e1 → as.length = m)
    (qa : ∀ (G : Gd) (en : En) (F H : Hp) (σ : L2.St) (Q : List V → Hp → Prop), Rel X.K G en F H σ → PA1 X W G F σ (fs en) Q → t σ H Q) (qb : ∀ (G : Gd) (en : En) (F H : Hp) (σ : L2.St) (Q : List V → Hp → Prop), Rel X.K G en F H σ → PA1 X W G F σ (gs en) Q → tk σ H Q)
    (hp : PE X e (tCP n m (spD X.K X.mg ps.length Fd) gV t tk)) : DO X W e (oCallP Fd l ds fs gs) := by
  refine ⟨_, hp, fun G en F H σ Q R h => qa G en F H σ _ R ?_⟩
  unfold oCallP at h
  cases z : fs en with
  | bad => rw [z] at h; exact h
  | ex y e1 => rw [z] at h; exact h
  | ok as e1 =>
    rw [z] at h
    intro vs F1 H1 R1 s1 o1
    refine qb G e1 F1 H1 σ _ R1 ?_
    simp only [M.R.bind] at h
    cases z2 : gs e1 with
    | bad => rw [z2] at h; exact h
    | ex y e1 => rw [z2] at h; exact fun cls dd F' H' R s o => h cls dd F' H' R (s1.trans s) o
    | ok bs e2 =>
      rw [z2] at h
      simp only at h
      intro zs F2 H2 R2 s2 o2
      refine callP_run (Post := fun _ r => PostO X W G F σ r Q) kp nx hgV (h1 en as e1 z) (h2 e1 bs e2 z2) (by rw [arr_r, List.length_map]; exact hl) R2 (o1.mono s2) o2 (fun w => w) h (fun o d e3 v F' H' R' s' ro w => ?_)
      cases o with
      | false => rw [if_neg Bool.false_ne_true] at w; exact w.elim
      | true =>
        rw [if_pos rfl] at w
        unfold RtOk at ro
        rw [if_pos rfl] at ro
        exact w v F' H' R' (s1.trans (s2.trans s')) ro
theorem tNil_da : ∀ (G : Gd) (en : En) (F H : Hp) (σ : L2.St) (Q : List V → Hp → Prop), Rel X.K G en F H σ → PA1 X W G F σ (eNil en) Q → tNil σ H Q := fun G en F H σ Q R q => q [] F H R (.refl _) rfl
variable {pts : List (Nat × List Str × List Nat × List D)}
theorem dx_callPK (C : CallP X.prog X.w X.K X.mg X.base k x ps pts Fd) (hpt : (n, ks, l, ds) ∈ pts) (kp : Keeps Fd) (nx : NoX Fd) (hr : Room k X.A) (gd : X.A.guards = some []) (ha : DA X W (a :: es) fs) (h1 : ∀ en as e1, fs en = .ok as e1 → as.length = n) (hk : DK X W kws gs) (h2 : ∀ en as e1, gs en = .ok as e1 → as.length = ks.length) (hl : l.length = ps.length := by rfl) (hg : Gl X x := by rfl)
    (hall : (backToKw pos (keywordEach kws X.env)).all (·.1.isSome) = true := by rfl) (hks : (backToKw pos (keywordEach kws X.env)).filterMap (·.1) = ks := by rfl)
    (hdb : (x == ("__debug__" : Str)) = false := by decide) (he : starEach (a :: es) X.env = (false, eval a X.env) :: starEach es X.env := by rfl)
    (hpl : ((backTo pos (starEach (a :: es) X.env)).any (·.1) || (backToKw pos (keywordEach kws X.env)).any (·.1.isNone)) = false := by rfl) : DX X W (.Call (.Name x p) (a :: es) kws pos) (eCallP Fd l ds fs gs) := by
  obtain ⟨f, fd, c1, c2, c3, c4⟩ := C.ex
  obtain ⟨g, gV, b1, b2⟩ := (c4 _ hpt).ex
  obtain ⟨ta, pa, qa⟩ := ha.ex
  obtain ⟨tk, pk, qk⟩ := hk.ex
  exact dx_ofP (kws := kws) kp nx b2 hl h1 h2 qa qk (pe_callPK c1 hr gd hg c2 c3 b1 pa pk hall hks hdb he hpl)
theorem dx_callPK0 (C : CallP X.prog X.w X.K X.mg X.base k x ps pts Fd) (hpt : (0, ks, l, ds) ∈ pts) (kp : Keeps Fd) (nx : NoX Fd) (hr : Room k X.A) (gd : X.A.guards = some []) (hk : DK X W kws gs) (h2 : ∀ en as e1, gs en = .ok as e1 → as.length = ks.length) (hl : l.length = ps.length := by rfl) (hg : Gl X x := by rfl)
    (hall : (backToKw pos (keywordEach kws X.env)).all (·.1.isSome) = true := by rfl) (hks : (backToKw pos (keywordEach kws X.env)).filterMap (·.1) = ks := by rfl)
    (hdb : (x == ("__debug__" : Str)) = false := by decide) (hpl : ((backTo pos (starEach [] X.env)).any (·.1) || (backToKw pos (keywordEach kws X.env)).any (·.1.isNone)) = false := by rfl) : DX X W (.Call (.Name x p) [] kws pos) (eCallP Fd l ds eNil gs) := by
  obtain ⟨f, fd, c1, c2, c3, c4⟩ := C.ex
  obtain ⟨g, gV, b1, b2⟩ := (c4 _ hpt).ex
  obtain ⟨tk, pk, qk⟩ := hk.ex
  exact dx_ofP (kws := kws) kp nx b2 hl (fun _ _ _ h => alen_nil h) h2 tNil_da qk (pe_callK0 c1 hr gd hg c2 c3 b1 pk hall hks hdb hpl)
theorem dx_callP0 (C : CallP X.prog X.w X.K X.mg X.base k x ps pts Fd) (hpt : (n, [], l, ds) ∈ pts) (kp : Keeps Fd) (nx : NoX Fd) (hr : Room k X.A) (gd : X.A.guards = some []) (ha : DA X W (a :: es) fs) (h1 : ∀ en as e1, fs en = .ok as e1 → as.length = n) (hl : l.length = ps.length := by rfl) (hg : Gl X x := by rfl)
    (hdb : (x == ("__debug__" : Str)) = false := by decide) (he : starEach (a :: es) X.env = (false, eval a X.env) :: starEach es X.env := by rfl) (hpl : (backTo pos (starEach es X.env)).any (·.1) = false := by rfl) : DX X W (.Call (.Name x p) (a :: es) [] pos) (eCallP Fd l ds fs eNil) := by
  obtain ⟨f, fd, c1, c2, c3, c4⟩ := C.ex
  obtain ⟨g, gV, b1, b2⟩ := (c4 _ hpt).ex
  obtain ⟨ta, pa, qa⟩ := ha.ex
  exact dx_ofP (kws := []) kp nx b2 hl h1 (fun _ _ _ h => alen_nil h) qa tNil_da (pe_callP0 c1 hr gd hg c2 c3 b1 pa hdb he hpl)
theorem do_callPK (C : CallP X.prog X.w X.K X.mg X.base k x ps pts Fd) (hpt : (n, ks, l, ds) ∈ pts) (kp : Keeps Fd) (nx : NoX Fd) (hr : Room k X.A) (gd : X.A.guards = some []) (ha : DA X W (a :: es) fs) (h1 : ∀ en as e1, fs en = .ok as e1 → as.length = n) (hk : DK X W kws gs) (h2 : ∀ en as e1, gs en = .ok as e1 → as.length = ks.length) (hl : l.length = ps.length := by rfl) (hg : Gl X x := by rfl)
    (hall : (backToKw pos (keywordEach kws X.env)).all (·.1.isSome) = true := by rfl) (hks : (backToKw pos (keywordEach kws X.env)).filterMap (·.1) = ks := by rfl)
    (hdb : (x == ("__debug__" : Str)) = false := by decide) (he : starEach (a :: es) X.env = (false, eval a X.env) :: starEach es X.env := by rfl)
    (hpl : ((backTo pos (starEach (a :: es) X.env)).any (·.1) || (backToKw pos (keywordEach kws X.env)).any (·.1.isNone)) = false := by rfl) : DO X W (.Call (.Name x p) (a :: es) kws pos) (oCallP Fd l ds fs gs) := by
  obtain ⟨f, fd, c1, c2, c3, c4⟩ := C.ex
  obtain ⟨g, gV, b1, b2⟩ := (c4 _ hpt).ex
  obtain ⟨ta, pa, qa⟩ := ha.ex
  obtain ⟨tk, pk, qk⟩ := hk.ex
  exact do_ofP (kws := kws) kp nx b2 hl h1 h2 qa qk (pe_callPK c1 hr gd hg c2 c3 b1 pa pk hall hks hdb he hpl)
theorem do_callPK0 (C : CallP X.prog X.w X.K X.mg X.base k x ps pts Fd) (hpt : (0, ks, l, ds) ∈ pts) (kp : Keeps Fd) (nx : NoX Fd) (hr : Room k X.A) (gd : X.A.guards = some []) (hk : DK X W kws gs) (h2 : ∀ en as e1, gs en = .ok as e1 → as.length = ks.length) (hl : l.length = ps.length := by rfl) (hg : Gl X x := by rfl)
    (hall : (backToKw pos (keywordEach kws X.env)).all (·.1.isSome) = true := by rfl) (hks : (backToKw pos (keywordEach kws X.env)).filterMap (·.1) = ks := by rfl)
    (hdb : (x == ("__debug__" : Str)) = false := by decide) (hpl : ((backTo pos (starEach [] X.env)).any (·.1) || (backToKw pos (keywordEach kws X.env)).any (·.1.isNone)) = false := by rfl) : DO X W (.Call (.Name x p) [] kws pos) (oCallP Fd l ds eNil gs) := by
  obtain ⟨f, fd, c1, c2, c3, c4⟩ := C.ex
  obtain ⟨g, gV, b1, b2⟩ := (c4 _ hpt).ex
  obtain ⟨tk, pk, qk⟩ := hk.ex
  exact do_ofP (kws := kws) kp nx b2 hl (fun _ _ _ h => alen_nil h) h2 tNil_da qk (pe_callK0 c1 hr gd hg c2 c3 b1 pk hall hks hdb hpl)
theorem do_callP0 (C : CallP X.prog X.w X.K X.mg X.base k x ps pts Fd) (hpt : (n, [], l, ds) ∈ pts) (kp : Keeps Fd) (nx : NoX Fd) (hr : Room k X.A) (gd : X.A.guards = some []) (ha : DA X W (a :: es) fs) (h1 : ∀ en as e1, fs en = .ok as e1 → as.length = n) (hl : l.length = ps.length := by rfl) (hg : Gl X x := by rfl)
    (hdb : (x == ("__debug__" : Str)) = false := by decide) (he : starEach (a :: es) X.env = (false, eval a X.env) :: starEach es X.env := by rfl) (hpl : (backTo pos (starEach es X.env)).any (·.1) = false := by rfl) : DO X W (.Call (.Name x p) (a :: es) [] pos) (oCallP Fd l ds fs eNil) := by
  obtain ⟨f, fd, c1, c2, c3, c4⟩ := C.ex
  obtain ⟨g, gV, b1, b2⟩ := (c4 _ hpt).ex
  obtain ⟨ta, pa, qa⟩ := ha.ex
  exact do_ofP (kws := []) kp nx b2 hl h1 (fun _ _ _ h => alen_nil h) qa tNil_da (pe_callP0 c1 hr gd hg c2 c3 b1 pa hdb he hpl)
@[simp] theorem eCallP_r (Fd : List Sl → Rt) (l : List Nat) (ds : List D) (fs gs : Ev (List A)) (e : En) : eCallP Fd l ds fs gs e = (fs e).bind fun as e1 => (gs e1).bind fun bs e2 => (callRt Fd (arr l ds (as ++ bs)) e2).bind fun p e3 => .ok (.sh p.2) e3 := rfl
@[simp] theorem oCallP_r (Fd : List Sl → Rt) (l : List Nat) (ds : List D) (fs gs : Ev (List A)) (e : En) : oCallP Fd l ds fs gs e = (fs e).bind fun as e1 => (gs e1).bind fun bs e2 => (callRt Fd (arr l ds (as ++ bs)) e2).bind fun p e3 => if p.1 = true then .ok p.2 e3 else .bad := rfl
end
end
end M
set_option Elab.async false
set_option linter.all false
set_option maxRecDepth 100000
set_option autoImplicit false
/-! M23: a module's constants; x[::-1] of lists and tuples. -/
namespace M
noncomputable section
open PySem PySem.Spec PyProof.Rows L2
section
variable {X : Cx} {W : WX} {pos : Pos}
/-- a constant of the module -/
structure CnOk (K : PySem.W.Frag) (mg : Str → Option Value) (x : Str) (d : D) : Prop where
  ex : ∃ u v, mg x = some u ∧ RelV v u ∧ ∀ F, Rep K F v d
theorem dx_cn {x : Str} {d : D} (h : CnOk X.K X.mg x d) (hg : Gl X x := by rfl) (hd : (x == ("__debug__" : Str)) = false := by decide) : DX X W (.Name x pos) (eC d) := by
  obtain ⟨u, v, h1, h2, h3⟩ := h.ex
  exact dx_c (pe_glob hg h1 h2 hd) h3
theorem cn_int {K : PySem.W.Frag} {mg : Str → Option Value} {x : Str} {i : Int} {t : Tok} (h : mg x = some (.int i t)) : CnOk K mg x (.int i) := ⟨_, .int i, h, ⟨t, rfl⟩, fun F => .int i⟩
theorem cn_str {K : PySem.W.Frag} {mg : Str → Option Value} {x : Str} {i : Str} {t : Tok} (h : mg x = some (.str i t)) : CnOk K mg x (.str i) := ⟨_, .str i, h, ⟨t, rfl⟩, fun F => .str i⟩
end
/-! ### x[::-1] -/
theorem adjust_rev (n : Nat) : Builtin.Slice.sliceAdjust none none (-1) (n : Int) = ((n : Int) - 1, -1) := rfl
theorem places_rev (n : Nat) : Builtin.Slice.slicePlaces ((n : Int) - 1) (-1) (-1) = n := by
  unfold Builtin.Slice.slicePlaces
  rw [if_neg (by decide)]
  by_cases h : (n : Int) - 1 > -1
  · rw [if_pos h]
    have : ((n : Int) - 1 - -1 - 1) / - -1 + 1 = (n : Int) := by
      rw [show (- -1 : Int) = 1 by decide, Int.ediv_one]; omega
    rw [this]; rfl
  · rw [if_neg h]; omega
theorem sliceApplied_rev {prog : Program} {w : World} {A : Around} {E : Value → Shared → Prop} {s : Shared} {sl : Addr} {vl vu vs : Value} {n : Nat} {Q : Int × Int × Nat → Shared → Prop} (hs : s.heap.IsSliceOf sl vl vu vs) (pl : IsPart vl none) (pu : IsPart vu none) (ps : IsPart vs (some (-1)))
    (h : Q ((n : Int) - 1, -1, n) s) : wpAny (model prog w) A (Builtin.Slice.sliceApplied (.ref sl) (pure (n : Int))) Q E s := by
  obtain ⟨os, hos, hcs, hds⟩ := id hs
  unfold Builtin.Slice.sliceApplied Builtin.Slice.sliceFields
  refine wpAny_bind (wpAny_bind (wpAny_field hos hds (x := vl) rfl (wpAny_bind (wpAny_field hos hds (x := vu) rfl (wpAny_bind (wpAny_field hos hds (x := vs) rfl (wpAny_pure ?_)))))))
  refine wpAny_bind (HT.slicePart_ ps ?_)
  show wpAny _ _ (if ((-1 : Int) == 0) = true then _ else _) _ _ s
  rw [if_neg (by decide)]
  refine wpAny_bind (HT.slicePart_ pl (wpAny_bind (HT.slicePart_ pu (wpAny_bind (wpAny_pure ?_)))))
  show wpAny _ _ (match Builtin.Slice.sliceAdjust none none (-1) (n : Int) with | (lo, hi) => pure (lo, (-1 : Int), Builtin.Slice.slicePlaces lo hi (-1))) _ _ s
  rw [adjust_rev n]
  show wpAny _ _ (pure ((n : Int) - 1, (-1 : Int), Builtin.Slice.slicePlaces ((n : Int) - 1) (-1) (-1))) _ _ s
  rw [places_rev]
  exact wpAny_pure h
theorem fm_congr {α β : Type} {f g : α → Option β} : ∀ {l : List α}, (∀ x ∈ l, f x = g x) → l.filterMap f = l.filterMap g
  | [], _ => rfl
  | a :: l, h => by
    rw [List.filterMap_cons, List.filterMap_cons, h a (List.mem_cons_self ..), fm_congr fun x m => h x (List.mem_cons_of_mem _ m)]
theorem pick_rev (xs : Array Value) : ((List.range xs.size).filterMap fun (m : Nat) => xs[(((xs.size : Int) - 1) + (m : Int) * (-1)).toNat]?).toArray = xs.toList.reverse.toArray := by
  congr 1
  apply List.ext_getElem?
  have e : (List.range xs.size).filterMap (fun (m : Nat) => xs[(((xs.size : Int) - 1) + (m : Int) * (-1)).toNat]?) = (List.range xs.size).map (fun m => xs.toList.reverse.getD m .none) := by
    rw [← List.filterMap_eq_map]
    apply fm_congr
    intro m hm
    have hm := List.mem_range.1 hm
    have e1 : (((xs.size : Int) - 1) + (m : Int) * (-1)).toNat = xs.size - 1 - m := by omega
    rw [e1]
    have h2 : m < xs.toList.reverse.length := by simpa using hm
    rw [Array.getElem?_eq_getElem (by omega)]
    simp only [Function.comp, List.getD, List.getElem?_eq_getElem h2, Option.getD_some, List.getElem_reverse]
    simp
  intro j
  rw [e, List.getElem?_map]
  by_cases hj : j < xs.size
  · rw [List.getElem?_range hj, List.getElem?_eq_getElem (by simpa using hj)]
    simp only [Option.map_some, List.getD]
    rw [List.getElem?_eq_getElem (by simpa using hj)]; rfl
  · rw [List.getElem?_eq_none (by simpa using hj), List.getElem?_eq_none (by simpa using hj)]; rfl
theorem getItem_tuple_rev {prog : Program} {w : World} {A : Around} {E : Value → Shared → Prop} {s : Shared} {t sl : Addr} {items : Array Value} {vl vu vs : Value} {Q : Value → Shared → Prop} (ht : IsTup s.heap t items) (hs : s.heap.IsSliceOf sl vl vu vs) (pl : IsPart vl none) (pu : IsPart vu none) (ps : IsPart vs (some (-1)))
    (h : Q (.ref s.heap.objs.size) { s with heap := s.heap.push { cls := .type "tuple", data := .seq items.toList.reverse.toArray } })
    (hsz : items.size ≤ sizeLine) : wpAny (model prog w) A (getItem (.ref t) (.ref sl)) Q E s := by
  have htake : sizeOk (.seq items.toList.reverse.toArray) := by
    show items.toList.reverse.toArray.size ≤ sizeLine
    rw [List.size_toArray, List.length_reverse, Array.length_toList]
    omega
  obtain ⟨os, hos, hcs, hds⟩ := id hs
  have hTs : s.TypeIs (.ref sl) "slice" := ⟨os, hos, hcs⟩
  unfold getItem
  try with_reducible refine wpAny_holding ?_
  first | refine wpAny_bind (wpAny_pure ?_) | skip
  refine wpAny_bind (wpAny_sequenceKey ht.typeIs (by decide) ?_)
  refine wpAny_bind (wpAny_callSpecial?_slot (name := Str.ofString "__getitem__") ht.typeIs PyProof.Rows.slot_tuple_getitem
    (wpAny_call_entry PyProof.Rows.slot_tuple_getitem ht.typeIs PyProof.Rows.entry_tuple_getitem ?_ (PyProof.Rows.args_tuple_getitem _ _)))
  show wpAny _ _ (Builtin.Tuple.tupleItemsOf (.ref t) >>= _) _ _ s
  refine wpAny_bind (PyProof.Rows.tupleItemsOf_ ht ?_)
  refine wpAny_bind (wpAny_typeOf hTs ?_)
  rw [if_pos (by decide)]
  refine wpAny_bind (sliceApplied_rev hs pl pu ps ?_)
  have hno : ¬ ((((items.size : Int) - 1) == 0 && (-1 : Int) == 1 && items.size == items.size) = true) := by
    intro q
    rw [Bool.and_eq_true, Bool.and_eq_true] at q
    exact absurd (eq_of_beq q.1.2) (by decide)
  show wpAny _ _ (if (((items.size : Int) - 1) == 0 && (-1 : Int) == 1 && items.size == items.size) = true then _ else _) _ _ s
  rw [if_neg hno, pick_rev]
  first
    | exact wpAny_bind (m := Builtin.Tuple.tupleExact _) (wpAny_newObj_type (wpAny_pure ⟨_, rfl, wpAny_pure h⟩) htake)
    | exact wpAny_bind (m := Builtin.Tuple.tupleExact _) (wpAny_newObj_type (wpAny_bind (wpAny_pure (wpAny_pure ⟨_, rfl, wpAny_pure h⟩))) htake)
    | exact wpAny_bind (wpAny_bind (m := Builtin.Tuple.tupleExact _) (wpAny_newObj_type (wpAny_pure (wpAny_pure ⟨_, rfl, wpAny_pure h⟩)) htake))
    | exact wpAny_bind (wpAny_bind (m := Builtin.Tuple.tupleExact _) (wpAny_newObj_type (wpAny_pure ⟨_, rfl, wpAny_pure h⟩) htake))
section
variable {X : Cx} {W : WX} {pos : Pos} {fa : Ev A} {a : Expr}
def tRevX (K : PySem.W.Frag) (te : TE) : TE := fun σ H Q => te σ H fun x H1 => (∃ a xs, x = .ref a ∧ SqL K H1 a xs ∧ ∀ p, H1 p = none → Q (.ref p) (upd H1 p (.lst xs.reverse))) ∨ (∃ a xs, x = .ref a ∧ SqT K H1 a xs ∧ ∀ p, H1 p = none → Q (.ref p) (upd H1 p (.tup xs.reverse)))
theorem pe_revX {e : Expr} {te : TE} {k : Nat} {p1 p2 p3 pos : Pos} (he : PE X e te) : PE X (.Subscript e (.Slice none none (some (.UnaryOp .USub (.Constant (.int 1) k p1) p2)) p3) pos) (tRevX X.K te) := by
  refine ⟨fun pins s σ H Q I h => ?_⟩
  refine Subscript_ (thn (he.run pins s σ H _ I h) fun v s1 ⟨x, H1, I1, r1, q1⟩ => ?_)
  have hst : PO X (some (.UnaryOp .USub (.Constant (.int 1) k p1) p2)) (tPart (tUn (rU fun i => .int (-i)) (tC (.int 1)))) := po_some (pe_un un_neg pe_int)
  refine wpAny_Slice (thn (po_none.run pins s1 σ H1 (fun o H2 => o = none ∧ H2 = H1) I1 ⟨rfl, rfl⟩) fun vl s2 ⟨l, H2, I2, pl, el, e2⟩ => ?_)
  subst el e2
  refine thn (po_none.run pins s2 σ H2 (fun o H3 => o = none ∧ H3 = H2) I2 ⟨rfl, rfl⟩) fun vu s3 ⟨u, H3, I3, pu, eu, e3⟩ => ?_
  subst eu e3
  refine thn (hst.run pins s3 σ H3 (fun o H4 => o = some (-1) ∧ H4 = H3) I3 ⟨1, rfl, -1, rfl, rfl, rfl⟩) fun vs s4 ⟨o, H4, I4, ps, eo, e4⟩ => ?_
  subst eo e4
  have I5 : Inv X pins σ H4 { s4 with heap := s4.heap.push { cls := .type "slice", data := .fields #[vl, vu, vs] } } := I4.kept (t' := s4.toks) fun b ob q => Heap.get?_push_of_some _ q
  rcases q1 with q1 | q1
  · obtain ⟨a, xs, ex, hx, q⟩ := q1
    subst ex
    cases r1
    obtain ⟨its, r, ht, hz⟩ := I5.list hx
    have hlen := r.length
    show wpAny (model X.prog X.w) X.A (subscriptTail e (.Slice none none (some (.UnaryOp .USub (.Constant (.int 1) k p1) p2)) p3) (.ref a) (.ref s4.heap.objs.size)) (EP X pins σ Q) X.xe { s4 with heap := s4.heap.push { cls := .type "slice", data := .fields #[vl, vu, vs] } }
    refine tail_any (ops := [.ref a, .ref s4.heap.objs.size]) ht.isList.typeIs (PySem.slot_list_getitem.lookup) ?_ (by with_unfolding_all rfl)
    refine wpAny_getItem_list_slice ht.isList (Heap.IsSliceOf.new _ vl vu vs) pl pu ps (by decide) ?_ (by rw [List.size_toArray]; omega)
    rw [PySem.W.krv_pick]
    refine ⟨.ref _, _, I5.laid (t' := s4.toks) (o := .lst xs.reverse) (fun b ob q => Heap.get?_push_of_some _ q) (Nat.le_refl _) ?_, rfl, q _ (I5.hok.fresh (Nat.le_refl _))⟩
    exact ⟨by rw [List.length_reverse]; exact hz, _, 0, r.reverse, Heap.get?_push_size _ rfl⟩
  · obtain ⟨a, xs, ex, hx, q⟩ := q1
    subst ex
    cases r1
    obtain ⟨its, r, ht, hz⟩ := I5.tuple hx
    have hlen := r.length
    show wpAny (model X.prog X.w) X.A (subscriptTail e (.Slice none none (some (.UnaryOp .USub (.Constant (.int 1) k p1) p2)) p3) (.ref a) (.ref s4.heap.objs.size)) (EP X pins σ Q) X.xe { s4 with heap := s4.heap.push { cls := .type "slice", data := .fields #[vl, vu, vs] } }
    refine tail_any (ops := [.ref a, .ref s4.heap.objs.size]) ht.typeIs PyProof.Rows.slot_tuple_getitem.lookup ?_ (by with_unfolding_all rfl)
    refine getItem_tuple_rev ht (Heap.IsSliceOf.new _ vl vu vs) pl pu ps ?_ (by rw [List.size_toArray]; omega)
    refine ⟨.ref _, _, I5.laid (t' := s4.toks) (o := .tup xs.reverse) (fun b ob q => Heap.get?_push_of_some _ q) (Nat.le_refl _) ?_, rfl, q _ (I5.hok.fresh (Nat.le_refl _))⟩
    exact ⟨by rw [List.length_reverse]; exact hz, _, r.reverse, IsTup.new _ _⟩
def revD : D → Option D
  | .list xs => some (.list xs.reverse)
  | .tuple xs => some (.tuple xs.reverse)
  | _ => none
@[simp] theorem revD_l (xs : List D) : revD (.list xs) = some (.list xs.reverse) := rfl
@[simp] theorem revD_t (xs : List D) : revD (.tuple xs) = some (.tuple xs.reverse) := rfl
theorem dx_rev {k : Nat} {p1 p2 p3 : Pos} (ha : DX X W a fa) : DX X W (.Subscript a (.Slice none none (some (.UnaryOp .USub (.Constant (.int 1) k p1) p2)) p3) pos) (eUn revD fa) := by
  obtain ⟨ta, pa, qa⟩ := ha.ex
  refine ⟨_, pe_revX pa, fun G en F H σ Q R q => qa G en F H σ _ R (q.bind fun x e1 v F1 H1 R1 s1 o1 q1 => ?_)⟩
  obtain ⟨d, ed⟩ := fin_some q1
  obtain ⟨d1, e1', ed'⟩ := Option.bind_eq_some_iff.mp ed
  cases d1 with
  | list xs =>
    obtain ⟨p, vs, rfl, hs, r⟩ := (res_ok R1 o1 e1').list R1.fh
    cases ed'
    refine .inl ⟨p, vs, rfl, hs, fun p np => ?_⟩
    have g := Grow.alloc (o := .lst vs.reverse) R1.fh np
    exact fin_ok R1 q1 ed g (.lst (.inl (.inl upd_same)) (r.reverse.mono g.f))
  | tuple xs =>
    obtain ⟨p, vs, rfl, hs, r⟩ := (res_ok R1 o1 e1').tup R1.fh
    cases ed'
    refine .inr ⟨p, vs, rfl, hs, fun p np => ?_⟩
    have g := Grow.alloc (o := .tup vs.reverse) R1.fh np
    exact fin_ok R1 q1 ed g (.tup (.inl (.inl upd_same)) (r.reverse.mono g.f))
  | _ => cases ed'
end
end
end M
set_option Elab.async false
set_option linter.all false
set_option maxRecDepth 100000
set_option autoImplicit false
/-! M24: names forgotten at the end of a turn; loops and comprehensions step by step. -/
namespace M
noncomputable section
open PySem PySem.Spec PyProof.Rows L2
def un (is : List Nat) (e : En) : En := is.foldl (fun e i => e.set i .un) e
@[simp] theorem un_nil (e : En) : un [] e = e := rfl
@[simp] theorem un_cons (i : Nat) (is : List Nat) (e : En) : un (i :: is) e = un is (e.set i .un) := rfl
def unA (is : List Nat) : SR → SR
  | .bad => .bad
  | .nx e => .nx (un is e)
  | .bk e => .bk (un is e)
  | .ct e => .ct (un is e)
  | .rt o d e => .rt o d (un is e)
  | .ex x e => .ex x (un is e)
@[simp] theorem unA_nx (is : List Nat) (e : En) : unA is (.nx e) = .nx (un is e) := rfl
@[simp] theorem unA_bk (is : List Nat) (e : En) : unA is (.bk e) = .bk (un is e) := rfl
@[simp] theorem unA_ct (is : List Nat) (e : En) : unA is (.ct e) = .ct (un is e) := rfl
@[simp] theorem unA_rt (is : List Nat) (o : Bool) (d : D) (e : En) : unA is (.rt o d e) = .rt o d (un is e) := rfl
@[simp] theorem unA_ex (is : List Nat) (x : Xn) (e : En) : unA is (.ex x e) = .ex x (un is e) := rfl
@[simp] theorem unA_if (is : List Nat) (c : Prop) [Decidable c] (a b : SR) : unA is (if c then a else b) = if c then unA is a else unA is b := by split <;> rfl
def sUn (is : List Nat) (f : En → SR) : En → SR := fun e => unA is (f e)
@[simp] theorem sUn_r (is : List Nat) (f : En → SR) (e : En) : sUn is f e = unA is (f e) := rfl
section
variable {X : Cx} {W : WX}
theorem un_own : ∀ (is : List Nat) {e : En} {j : Nat} {b : Bool} {d : D}, (un is e)[j]? = some (.ow b d) → e[j]? = some (.ow b d)
  | [], _, _, _, _, h => h
  | i :: is, e, j, b, d, h => by
    have h1 := un_own is (e := e.set i .un) h
    by_cases q : i = j
    · subst q
      by_cases l : i < e.length
      · rw [List.getElem?_set_self l] at h1; cases h1
      · rw [List.getElem?_eq_none (by rw [List.length_set]; omega)] at h1; cases h1
    · rw [List.getElem?_set_ne q] at h1; exact h1
theorem un_R {K : PySem.W.Frag} {G : Gd} {F H : Hp} {σ : L2.St} (is : List Nat) {en : En} (R : Rel K G en F H σ) : Rel K G (un is en) F H σ := un_rel is R
theorem un_rt {K : PySem.W.Frag} {G : Gd} {F H : Hp} {σ : L2.St} {o : Bool} {d : D} {v : V} (is : List Nat) {en : En} (h : RtOk K G en F H σ o d v) : RtOk K G (un is en) F H σ o d v := by
  unfold RtOk at h ⊢
  cases o with
  | false => exact h
  | true =>
    rw [if_pos rfl] at h ⊢
    obtain ⟨p, h1, h2, h3, h4, h5⟩ := h
    exact ⟨p, h1, h2, h3, h4, fun j b e q => h5 j b e (un_own is q)⟩
theorem postS_un {G : Gd} {F : Hp} {r : SR} {D' : Ends} (is : List Nat) (h : PostS X W G F (unA is r) D') : PostS X W G F r D' := by
  cases r with
  | bad => exact h
  | nx e => exact fun F' H' σ' R s => h F' H' σ' (un_R is R) s
  | bk e => exact fun F' H' σ' R s => h F' H' σ' (un_R is R) s
  | ct e => exact fun F' H' σ' R s => h F' H' σ' (un_R is R) s
  | rt o d e => exact fun v F' H' σ' R s q => h v F' H' σ' (un_R is R) s (un_rt is q)
  | ex x e => exact fun c dd F' H' σ' R s q => h c dd F' H' σ' (un_R is R) s q
theorem dss_un {sts : List Stmt} {f : En → SR} (is : List Nat) (h : DSs X W sts f) : DSs X W sts (sUn is f) := by
  obtain ⟨t, p, q⟩ := h.ex
  exact ⟨t, p, fun G en F H σ D' R k => q G en F H σ D' R (postS_un is k)⟩
theorem ds_unA {st : Stmt} {f : En → SR} (is : List Nat) (h : DS X W st f) : DS X W st (sUn is f) := by
  obtain ⟨t, p, q⟩ := h.ex
  exact ⟨t, p, fun G en F H σ D' R k => q G en F H σ D' R (postS_un is k)⟩
end
/-! ### a loop's turn -/
def ctNx : SR → SR
  | .ct e => .nx e
  | r => r
@[simp] theorem ctNx_ct (e : En) : ctNx (.ct e) = .nx e := rfl
@[simp] theorem ctNx_nx (e : En) : ctNx (.nx e) = .nx e := rfl
@[simp] theorem ctNx_bk (e : En) : ctNx (.bk e) = .bk e := rfl
@[simp] theorem ctNx_rt (o : Bool) (d : D) (e : En) : ctNx (.rt o d e) = .rt o d e := rfl
@[simp] theorem ctNx_if (c : Prop) [Decidable c] (a b : SR) : ctNx (if c then a else b) = if c then ctNx a else ctNx b := by split <;> rfl
def turnO (body : En → SR) : Option En → SR
  | none => .bad
  | some e1 => ctNx (body e1)
@[simp] theorem turnO_s (body : En → SR) (e : En) : turnO body (some e) = ctNx (body e) := rfl
def turn (g : Gt) (body : En → SR) (d : D) (e : En) : SR := turnO body (g d e)
def goOn (f : En → SR) : SR → SR
  | .nx e => f e
  | .bk e => .nx e
  | r => r
@[simp] theorem goOn_nx (f : En → SR) (e : En) : goOn f (.nx e) = f e := rfl
@[simp] theorem goOn_bk (f : En → SR) (e : En) : goOn f (.bk e) = .nx e := rfl
@[simp] theorem goOn_rt (f : En → SR) (o : Bool) (d : D) (e : En) : goOn f (.rt o d e) = .rt o d e := rfl
theorem forD_nil (g : Gt) (body : En → SR) (e : En) : forD g body [] e = .nx e := by rfl
theorem forD_cons (g : Gt) (body : En → SR) (d : D) (ds : List D) (e : En) : forD g body (d :: ds) e = goOn (forD g body ds) (turn g body d e) := by
  conv => lhs; unfold forD
  unfold turn turnO
  cases g d e with
  | none => rfl
  | some e1 =>
    simp only
    cases body e1 <;> rfl
section
variable {g : Gt} {body : En → SR} {S Y : Type} {enc : Y → D}
/-- a loop that folds -/
theorem for_fold (E : S → En) (φ : S → Y → S) (I : S → Prop) : ∀ (xs : List Y) (s : S), I s →
    (∀ s x, x ∈ xs → I s → turn g body (enc x) (E s) = .nx (E (φ s x)) ∧ I (φ s x)) → forD g body (xs.map enc) (E s) = .nx (E (xs.foldl φ s)) ∧ I (xs.foldl φ s)
  | [], s, h, _ => ⟨rfl, h⟩
  | x :: xs, s, h, k => by
    obtain ⟨a, b⟩ := k s x (List.mem_cons_self ..) h
    rw [List.map_cons, forD_cons, a, goOn_nx, List.foldl_cons]
    exact for_fold E φ I xs (φ s x) b fun s y m => k s y (List.mem_cons_of_mem _ m)
/-- a loop whose turns are told by what they may come to -/
theorem for_ex (E : S → En) (I : Nat → S → Prop) : ∀ (xs : List Y) (n : Nat) (s : S), I n s →
    (∀ j x s, xs[j]? = some x → I (n + j) s → ∃ s', turn g body (enc x) (E s) = .nx (E s') ∧ I (n + j + 1) s') → ∃ s', forD g body (xs.map enc) (E s) = .nx (E s') ∧ I (n + xs.length) s'
  | [], n, s, h, _ => ⟨s, rfl, h⟩
  | x :: xs, n, s, h, k => by
    obtain ⟨s1, a, b⟩ := k 0 x s rfl h
    obtain ⟨s2, c, d⟩ := for_ex E I xs (n + 1) s1 b fun j y s' hj hi => by
      have := k (j + 1) y s' (by simpa using hj) (by rw [show n + (j + 1) = n + 1 + j by omega]; exact hi)
      rw [show n + (j + 1) + 1 = n + 1 + j + 1 by omega] at this
      exact this
    exact ⟨s2, by rw [List.map_cons, forD_cons, a, goOn_nx, c], by rw [show n + (x :: xs).length = n + 1 + xs.length by simp; omega]; exact d⟩
/-- a loop that adds to a list -/
theorem for_coll (E : List D → En) (p : Y → Bool) (φ : Y → D) : ∀ (xs : List Y) (acc : List D), acc.length + xs.length ≤ 1000000 →
    (∀ acc x, x ∈ xs → acc.length ≤ 1000000 → turn g body (enc x) (E acc) = .nx (E (if p x then acc ++ [φ x] else acc))) → forD g body (xs.map enc) (E acc) = .nx (E (acc ++ (xs.filter p).map φ))
  | [], acc, _, _ => by simp [forD]
  | x :: xs, acc, h, k => by
    rw [List.map_cons, forD_cons, k acc x (List.mem_cons_self ..) (by simp at h; omega), goOn_nx]
    have ih := for_coll E p φ xs (if p x then acc ++ [φ x] else acc) (by split <;> simp at * <;> omega) fun acc y m => k acc y (List.mem_cons_of_mem _ m)
    rw [ih]
    cases h : p x <;> simp [List.filter_cons, h]
/-- a loop that looks at each and may leave -/
theorem for_all (p : Y → Bool) (o : Bool) (d : D) (e e' : En) : ∀ (xs : List Y), (∀ x ∈ xs, turn g body (enc x) e = if p x then .nx e else .rt o d e') → forD g body (xs.map enc) e = if xs.all p then .nx e else .rt o d e'
  | [], _ => rfl
  | x :: xs, k => by
    rw [List.map_cons, forD_cons, k x (List.mem_cons_self ..), List.all_cons]
    cases h : p x with
    | true => simp only [if_true, goOn_nx, Bool.true_and]; exact for_all p o d e e' xs fun y m => k y (List.mem_cons_of_mem _ m)
    | false => rfl
/-- a loop that seeks the first and leaves with it -/
theorem for_find (p : Y → Bool) (o : Bool) (v : Y → D) (e : En) (e' : En) : ∀ (xs : List Y), (∀ x ∈ xs, turn g body (enc x) e = if p x then .rt o (v x) e' else .nx e) → forD g body (xs.map enc) e = match xs.find? p with
    | some x => .rt o (v x) e'
    | none => .nx e
  | [], _ => rfl
  | x :: xs, k => by
    rw [List.map_cons, forD_cons, k x (List.mem_cons_self ..), List.find?_cons]
    cases h : p x with
    | true => rfl
    | false =>
      simp only [Bool.false_eq_true, if_false, goOn_nx]
      exact for_find p o v e e' xs fun y m => k y (List.mem_cons_of_mem _ m)
end
/-! ### a comprehension's turn -/
def lcKeep (own : List Nat) (e : En) (f : Ev A) (b : Bool) (e2 : En) : M.R (Option D) := if b = true then (eHold f e2).nox.bind fun x e3 => .ok (some x) (restE own e e3) else .ok none (restE own e e2)
@[simp] theorem lcKeep_t (own : List Nat) (e : En) (f : Ev A) (e2 : En) : lcKeep own e f true e2 = (eHold f e2).nox.bind fun x e3 => .ok (some x) (restE own e e3) := rfl
@[simp] theorem lcKeep_f (own : List Nat) (e : En) (f : Ev A) (e2 : En) : lcKeep own e f false e2 = .ok none (restE own e e2) := rfl
def lcTurnO (t : Ev Bool) (f : Ev A) (own : List Nat) (e : En) : Option En → M.R (Option D)
  | none => .bad
  | some e1 => (t e1).nox.bind fun b e2 => lcKeep own e f b e2
@[simp] theorem lcTurnO_s (t : Ev Bool) (f : Ev A) (own : List Nat) (e e1 : En) : lcTurnO t f own e (some e1) = (t e1).nox.bind fun b e2 => lcKeep own e f b e2 := rfl
def lcTurn (g : Gt) (t : Ev Bool) (f : Ev A) (own : List Nat) (d : D) (e : En) : M.R (Option D) := lcTurnO t f own e (g d (wipeE own e))
theorem lc_cons (g : Gt) (t : Ev Bool) (f : Ev A) (own : List Nat) (d : D) (ds acc : List D) (e : En) : lcD g t f own (d :: ds) acc e = (lcTurn g t f own d e).bind fun o e1 => match o with
    | some x => if small (acc.length + 1) then lcD g t f own ds (acc ++ [x]) e1 else .bad
    | none => lcD g t f own ds acc e1 := by
  conv => lhs; unfold lcD
  unfold lcTurn lcTurnO
  cases g d (wipeE own e) with
  | none => rfl
  | some e1 =>
    simp only
    cases (t e1).nox with
    | bad => rfl
    | ex x e2 => rfl
    | ok b e2 =>
      simp only [M.R.bind]
      cases b with
      | false => rfl
      | true =>
        simp only [if_true, lcKeep_t]
        cases (eHold f e2).nox with
        | bad => rfl
        | ex x e3 => rfl
        | ok x e3 => rfl
section
variable {g : Gt} {t : Ev Bool} {f : Ev A} {own : List Nat} {S Y : Type} {enc : Y → D}
theorem lc_filter (p : Y → Bool) (φ : Y → D) (e : En) : ∀ (xs : List Y) (acc : List D), acc.length + xs.length ≤ 1000000 →
    (∀ x ∈ xs, lcTurn g t f own (enc x) e = .ok (if p x then some (φ x) else none) e) → lcD g t f own (xs.map enc) acc e = .ok (.list (acc ++ (xs.filter p).map φ)) e
  | [], acc, _, _ => by rw [List.map_nil]; simp [lcD]
  | x :: xs, acc, h, k => by
    rw [List.map_cons, lc_cons, k x (List.mem_cons_self ..)]
    cases q : p x with
    | true =>
      simp only [if_true, R_ok, List.filter_cons, q]
      rw [if_pos (by simp at *; omega), lc_filter p φ e xs (acc ++ [φ x]) (by simp at *; omega) fun y m => k y (List.mem_cons_of_mem _ m)]
      simp
    | false =>
      simp only [Bool.false_eq_true, if_false, R_ok, List.filter_cons, q]
      exact lc_filter p φ e xs acc (by simp at *; omega) fun y m => k y (List.mem_cons_of_mem _ m)
theorem lc_maps (φ : Y → D) (e : En) (xs : List Y) (acc : List D) (h : acc.length + xs.length ≤ 1000000)
    (k : ∀ x ∈ xs, lcTurn g t f own (enc x) e = .ok (some (φ x)) e) : lcD g t f own (xs.map enc) acc e = .ok (.list (acc ++ xs.map φ)) e := by
  have := lc_filter (g := g) (t := t) (f := f) (own := own) (enc := enc) (fun _ => true) φ e xs acc h fun x m => by rw [if_pos rfl]; exact k x m
  rw [List.filter_eq_self.2 (fun _ _ => rfl)] at this
  exact this
/-- a comprehension that changes something: each turn adds one thing -/
theorem lc_ex (E : S → En) (I : Nat → List D → S → Prop) : ∀ (xs : List Y) (n : Nat) (acc : List D) (s : S), I n acc s → acc.length + xs.length ≤ 1000000 →
    (∀ j x acc s, xs[j]? = some x → I (n + j) acc s → ∃ y s', lcTurn g t f own (enc x) (E s) = .ok (some y) (E s') ∧ I (n + j + 1) (acc ++ [y]) s') →
      ∃ acc' s', lcD g t f own (xs.map enc) acc (E s) = .ok (.list acc') (E s') ∧ I (n + xs.length) acc' s'
  | [], n, acc, s, h, _, _ => ⟨acc, s, by rw [List.map_nil]; simp [lcD], h⟩
  | x :: xs, n, acc, s, h, l, k => by
    obtain ⟨y, s1, a, b⟩ := k 0 x acc s rfl h
    obtain ⟨acc', s2, c, d⟩ := lc_ex E I xs (n + 1) (acc ++ [y]) s1 b (by simp at *; omega) fun j z acc s' hj hi => by
      have := k (j + 1) z acc s' (by simpa using hj) (by rw [show n + (j + 1) = n + 1 + j by omega]; exact hi)
      rw [show n + (j + 1) + 1 = n + 1 + j + 1 by omega] at this
      exact this
    refine ⟨acc', s2, ?_, by rw [show n + (x :: xs).length = n + 1 + xs.length by simp; omega]; exact d⟩
    rw [List.map_cons, lc_cons, a]
    simp only [R_ok]
    rw [if_pos (by simp at *; omega), c]
/-- the same where some turns add nothing -/
theorem lc_exF (E : S → En) (I : Nat → List D → S → Prop) : ∀ (xs : List Y) (n : Nat) (acc : List D) (s : S), I n acc s → acc.length + xs.length ≤ 1000000 →
    (∀ j x acc s, xs[j]? = some x → I (n + j) acc s → ∃ (y : Option D) (s' : S), lcTurn g t f own (enc x) (E s) = .ok y (E s') ∧ I (n + j + 1) (acc ++ y.toList) s') →
      ∃ acc' s', lcD g t f own (xs.map enc) acc (E s) = .ok (.list acc') (E s') ∧ I (n + xs.length) acc' s'
  | [], n, acc, s, h, _, _ => ⟨acc, s, by rw [List.map_nil]; simp [lcD], h⟩
  | x :: xs, n, acc, s, h, l, k => by
    obtain ⟨y, s1, a, b⟩ := k 0 x acc s rfl h
    obtain ⟨acc', s2, c, d⟩ := lc_exF E I xs (n + 1) (acc ++ y.toList) s1 b (by cases y <;> simp at * <;> omega) fun j z acc s' hj hi => by
      have := k (j + 1) z acc s' (by simpa using hj) (by rw [show n + (j + 1) = n + 1 + j by omega]; exact hi)
      rw [show n + (j + 1) + 1 = n + 1 + j + 1 by omega] at this
      exact this
    refine ⟨acc', s2, ?_, by rw [show n + (x :: xs).length = n + 1 + xs.length by simp; omega]; exact d⟩
    rw [List.map_cons, lc_cons, a]
    cases y with
    | none => simp only [R_ok]; simpa using c
    | some y => simp only [R_ok]; rw [if_pos (by simp at *; omega)]; simpa using c
end
/-! ### what is walked -/
theorem range_map (lo : Int) (n : Nat) : rangeD lo n = (List.range n).map fun i => .int (lo + (i : Int)) := rfl
theorem zip_map {α β : Type} (f : α → D) (g : β → D) : ∀ (xs : List α) (ys : List β), zipD (xs.map f) (ys.map g) = (xs.zip ys).map fun p => .tuple [f p.1, g p.2]
  | [], _ => by simp [zipD]
  | _ :: _, [] => by simp [zipD]
  | x :: xs, y :: ys => by simp [zipD, zip_map f g xs ys]
theorem enum_map {α : Type} (f : α → D) : ∀ (xs : List α) (n : Nat), enumD n (xs.map f) = (xs.zipIdx n).map fun p => .tuple [.int (p.2 : Int), f p.1]
  | [], _ => rfl
  | x :: xs, n => by simp [enumD, enum_map f xs (n + 1)]
theorem atI_map {α : Type} (f : α → D) (xs : List α) (i : Nat) : atI (xs.map f) (i : Int) = (xs[i]?).map f := by rw [atI_natE, List.getElem?_map]
theorem set_map {α : Type} (f : α → D) (xs : List α) (i : Nat) (y : α) : (xs.map f).set i (f y) = (xs.set i y).map f := by rw [List.map_set]
/-! ### while -/
theorem while_step {c : Ev Bool} {body : En → SR} {n : Nat} {e e1 e2 : En} (h1 : c e = .ok true e1) (h2 : body e1 = .nx e2) : whileD c body (n + 1) e = whileD c body n e2 := by
  conv => lhs; unfold whileD
  rw [h1]; simp only [st_ok, if_true, h2]
theorem while_ret {c : Ev Bool} {body : En → SR} {n : Nat} {e e1 e2 : En} {o : Bool} {d : D} (h1 : c e = .ok true e1) (h2 : body e1 = .rt o d e2) : whileD c body (n + 1) e = .rt o d e2 := by
  conv => lhs; unfold whileD
  rw [h1]; simp only [st_ok, if_true, h2]
theorem while_end {c : Ev Bool} {body : En → SR} {n : Nat} {e e1 : En} (h1 : c e = .ok false e1) : whileD c body (n + 1) e = .nx e1 := by
  conv => lhs; unfold whileD
  rw [h1]; simp only [st_ok, Bool.false_eq_true, if_false]
theorem sWhile_nx {c : Ev Bool} {body : En → SR} {n : Nat} {e e' : En} (h : whileD c body n e = .nx e') : sWhile c body e = .nx e' := by
  rw [sWhile_eq (n := n) (by rw [h]; intro z; cases z), h]
theorem sWhile_rt {c : Ev Bool} {body : En → SR} {n : Nat} {e e' : En} {o : Bool} {d : D} (h : whileD c body n e = .rt o d e') : sWhile c body e = .rt o d e' := by
  rw [sWhile_eq (n := n) (by rw [h]; intro z; cases z), h]
end
end M
set_option Elab.async false
set_option linter.all false
set_option maxRecDepth 100000
set_option autoImplicit false
/-! M25: enumerate of a tuple. -/
namespace M
noncomputable section
open PySem PySem.Spec PyProof.Rows L2
set_option maxHeartbeats 1000000 in
theorem meets_enumerate_newT (l : Addr) (items : Array Value) :
    Meets (Builtin.«enumerate.__new__» ⟨[.type "enumerate", .ref l], []⟩) (fun _ R s => s.heap.IsTuple l items ∧
      R (.ok (.ret (.ref (s.heap.push { cls := .type "tuple_iterator", data := .fields #[.ref l, .int 0 0] }).objs.size)))
        { s with heap := (s.heap.push { cls := .type "tuple_iterator", data := .fields #[.ref l, .int 0 0] }).push { cls := .type "enumerate", data := .fields #[.none, .bool false, .ref s.heap.objs.size, rawInt 0, .none, .none] } }) :=
  .of_wp fun prog w A R s h => by
    obtain ⟨hp, g, d, tk, os⟩ := s
    obtain ⟨hl, h⟩ := h
    have hL : Heap.IsTuple (Shared.heap ⟨hp, g, d, tk, os⟩) l items := hl
    have hsub := sub_enumerate
    wp_walk
    refine wpAny_stack_any fun st => wpAny_pure ?_
    split
    · rename_i c _ _ _ _ _
      cases (c == Value.type "enumerate")
      · wp_walk using wpAny_pyIter_tuple hL
        exact ⟨_, rfl, h⟩
      · wp_walk using wpAny_pyIter_tuple hL
        exact ⟨_, rfl, h⟩
    · wp_walk using wpAny_pyIter_tuple hL
      exact ⟨_, rfl, h⟩
section
variable {prog : Program} {w : World} {A : Around} {E : Value → Shared → Prop} {s : Shared}
theorem call_enumerate_tuple {l : Addr} {items : Array Value} {Q : Value → Shared → Prop} (hL : s.heap.IsTuple l items)
    (h : ∀ h', IsEnum h' (s.heap.objs.size + 1) s.heap.objs.size 0 .none → h'.IsTupleIter s.heap.objs.size l 0 → h'.objs.size = s.heap.objs.size + 2 →
      (∀ b o, s.heap.get? b = some o → h'.get? b = some o) → Q (.ref (s.heap.objs.size + 1)) { s with heap := h' }) :
    wpAny (model prog w) A (call (.type "enumerate") [.ref l]) Q E s := by
  refine callType_new F.called_enumerate (by decide) (F.typeCall_enumerate_1 _) (F.newCall_enumerate_1 _) (fun obj => F.args_object_init_2 obj _) F.entry_enumerate_new
    (meets_enumerate_newT l items) ⟨hL, ?_⟩
  have hz : (s.heap.push { cls := .type "tuple_iterator", data := .fields #[.ref l, .int 0 0] }).objs.size = s.heap.objs.size + 1 := Heap.size_push ..
  show _ ∧ _
  rw [hz]
  have he : IsEnum ((s.heap.push { cls := .type "tuple_iterator", data := .fields #[.ref l, .int 0 0] }).push
      { cls := .type "enumerate", data := .fields #[.none, .bool false, .ref s.heap.objs.size, rawInt 0, .none, .none] }) (s.heap.objs.size + 1) s.heap.objs.size 0 .none := by
    have := Heap.get?_push_size (s.heap.push { cls := .type "tuple_iterator", data := .fields #[.ref l, .int 0 0] })
      (o := { cls := .type "enumerate", data := .fields #[.none, .bool false, .ref s.heap.objs.size, rawInt 0, .none, .none] }) rfl
    rw [hz] at this; exact this
  refine ⟨⟨_, he, rfl⟩, h _ he ⟨_, Heap.get?_push_of_some _ (Heap.get?_push_size _ rfl), rfl, rfl⟩ (by rw [Heap.size_push, hz]) fun b o x => Heap.get?_push_of_some _ (Heap.get?_push_of_some _ x)⟩
end
theorem drawsT {prog : Program} {w : World} {A : Around} (hh : A.handled = none) (it l : Addr) (hne : l ≠ it) (items : Array Value) :
    Draws prog w A it [it, l] items.size (fun i x => items[i]? = some x) (fun i h => h.IsTupleIter it l i ∧ h.IsTuple l items) where
  live := fun i h st => by obtain ⟨⟨o, ho, _⟩, _⟩ := st; exact ⟨o, ho⟩
  frame := fun i h h' st k => ⟨st.1.at fun o e => k it (by simp) o e, st.2.at fun o e => k l (by simp) o e⟩
  item := fun i s Q E hi st hQ => RZ.nextOf_tuple_item st.1 st.2 (x := items[i]) (by simp [hi]) fun h' h1 h2 => hQ _ h' s.toks (by simp [hi]) ⟨h1, st.2.extBut h2.extBut hne⟩ h2
  done := fun s Q E st hE => RZ.nextOf_tuple_end hh st.1 st.2 (by simp) hE
theorem pyNext_enumT_end {prog : Program} {w : World} {A : Around} {E : Value → Shared → Prop} {s : Shared} {e it l : Addr} {i : Nat} {items : Array Value} {old : Value} {Q : Option Value → Shared → Prop} (hh : A.in1.handled = none)
    (he : IsEnum s.heap e it i old) (hit : s.heap.IsTupleIter it l i) (hl : s.heap.IsTuple l items) (hx : items[i]? = none)
    (hQ : ∀ h', Heap.ExtBut it s.heap h' → Q none { s with heap := h' }) : wpAny (model prog w) A (pyNext (.ref e)) Q E s := by
  have hT : s.TypeIs (.ref e) "enumerate" := ⟨_, he, rfl⟩
  unfold pyNext
  refine wpAny_bind (wpAny_attempt (wpAny_callSpecial?_slot (name := Str.ofString "__next__") hT F.slot_enumerate_next
    (wpAny_call_entry F.slot_enumerate_next hT F.entry_enumerate_next ?_ (F.args_enumerate_next_1 _))))
  show wpAny _ _ (field (.ref e) 2 >>= _) _ _ _
  refine wpAny_bind (wpAny_field he rfl (x := .ref it) rfl ?_)
  refine wpAny_bind (RZ.nextOf_tuple_end hh hit hl hx fun h' x he' hx' => ?_)
  obtain ⟨o, ho, hc⟩ := hx'
  refine wpAny_bind (wpAny_isInstance (T := "StopIteration") (b := true) ⟨o, ho, hc⟩ isSubtype_stop ?_)
  exact wpAny_pure (hQ _ he')
/-- the tuple at a, each item in a new pair -/
def IteT (K : PySem.W.Frag) (a : Addr) : It :=
  ⟨fun i H => ∃ (xs : List V) (x : V), SqT K H a xs ∧ xs[i]? = some x, fun i H v H' => ∃ T x, v = .ref T ∧ H T = none ∧ H' = upd H T (.tup [.int (i : Nat), x]) ∧ ∀ xs, SqT K H a xs → xs[i]? = some x, fun i H => ∃ xs : List V, SqT K H a xs ∧ xs.length ≤ i⟩
theorem turn_enumT {P : Program} {w : World} {K : PySem.W.Frag} {elts : List Expr} {kk : Nat} {tpos : Pos} (a e it : Addr) :
    Turn P w K (.Tuple elts kk tpos) (IteT K a) [e, it] e (fun i h => (∃ old, IsEnum h e it ((i : Nat) : Int) old) ∧ h.IsTupleIter it a i ∧ e ≠ it ∧ a ≠ it ∧ a ≠ e) where
  mem := by simp
  obj := fun i h st b hb => by
    obtain ⟨⟨old, he⟩, ⟨o, ho, hc, hd⟩, _⟩ := st
    have e' : b = e ∨ b = it := by simpa using hb
    rcases e' with z | z
    · rw [z]; exact ⟨_, he, fun v q => nomatch q⟩
    · rw [z]; exact ⟨o, ho, fun v q => by rw [hd] at q; cases q⟩
  keep := fun i h h' st k => let ⟨⟨old, he⟩, hi, hne⟩ := st; ⟨⟨old, k e (by simp) _ he⟩, hi.at fun o q => k it (by simp) o q, hne⟩
  item := by
    intro X hP hw hK hc i pins s σ H E I hf st hg
    subst hP hw hK
    obtain ⟨⟨old, he⟩, hit, hne, ha, ha2⟩ := st
    obtain ⟨xs, x, hq, hx⟩ := hg
    obtain ⟨its, rv, p, hz⟩ := I.tuple hq
    obtain ⟨u, hu, ru⟩ := rv.get hx
    have hel : e < s.heap.objs.size := Heap.lt_size he
    have hil : it < s.heap.objs.size := by obtain ⟨_, q, _⟩ := hit; exact Heap.lt_size q
    have hl : i < its.toArray.size := by
      have := (List.getElem?_eq_some_iff.1 hu).1
      simpa using this
    refine wpAny_pyNext_enum_itemD (drawsT (A := X.A.in1) (I.ok.hd hc) it a ha its.toArray) he ⟨hit, p⟩ hl hne (by simp [hne, Ne.symm ha2]) fun y h' tk hy ho hst' hT hsz hk => ?_
    have ey : y = u := by
      have : its[i]? = some y := by simpa using hy
      rw [hu] at this; cases this; rfl
    subst ey
    refine ⟨_, rfl, wpAny_letOwnedTupleGo_enum (s := { s with heap := h', toks := tk + 1 }) ho fun h'' he' sb => ?_⟩
    have hT2 : h''.get? s.heap.objs.size = some { cls := .type "tuple", data := .seq #[.int i tk, y] } := (sb.2 _ (Nat.ne_of_gt hel)).trans hT
    have new : ObjOk X.prog X.w (upd H s.heap.objs.size (.tup [.int (i : Nat), x])) h'' s.heap.objs.size (.tup [.int (i : Nat), x]) :=
      ⟨by show 2 ≤ sizeLine; decide, [.int i tk, y], .cons ⟨_, rfl⟩ (.cons ru .nil), ⟨_, hT2, rfl, _, rfl⟩⟩
    have I1 : Inv X pins σ (upd H s.heap.objs.size (.tup [.int (i : Nat), x])) { s with heap := h'', toks := tk + 1 } :=
      I.turnedNew (ch := [e, it]) (fun b ob hb q => (sb.2 b (fun z => hb (by simp [z]))).trans (hk b ob (fun z => hb (by simp [z])) (fun z => hb (by simp [z])) q)) hf (Nat.le_refl _) new
    refine ⟨.ref s.heap.objs.size, _, I1, rfl, ⟨_, x, rfl, I.hok.fresh (Nat.le_refl _), rfl, fun ys hy => ?_⟩, ⟨⟨y, ?_⟩, hst'.1.at fun o q => (sb.2 it (Ne.symm hne)).trans q, hne, ha, ha2⟩, fun b hb => ?_⟩
    · rw [I.tuple_inj hy hq]; exact hx
    · have e1 : ((i + 1 : Nat) : Int) = (i : Int) + 1 := by omega
      rw [e1]; exact he'
    · have hb' : b < s.heap.objs.size := by
        have e' : b = e ∨ b = it := by simpa using hb
        rcases e' with z | z
        · rw [z]; exact hel
        · rw [z]; exact hil
      rw [upd_ne (Nat.ne_of_lt hb')]
      exact (hf b hb).1
  done := by
    intro X hP hw hK hc i pins s σ H E I hf st hg
    subst hP hw hK
    obtain ⟨⟨old, he⟩, hit, hne, ha, ha2⟩ := st
    obtain ⟨xs, hq, hx⟩ := hg
    obtain ⟨its, rv, p, hz⟩ := I.tuple hq
    obtain ⟨f0, f1, f2, f3, f4, f5⟩ := hf it (by simp)
    have hl := rv.length
    exact pyNext_enumT_end (I.ok.hd hc) he hit p (by simp; omega) fun h' eb => ⟨rfl, I.turned (t' := s.toks) (fun b o hb q => eb b o hb q) f0 f1 f3 f4 f5⟩
  self := fun A i s Q E st h => let ⟨⟨_, he⟩, _⟩ := st; wpAny_pyIter_enum he h
def iEnumX (K : PySem.W.Frag) (ta : TA) : TI := fun σ H R => ta σ H fun vs H1 => (∃ a xs, vs = [.ref a] ∧ SqL K H1 a xs ∧ R (Ite K a) H1) ∨ (∃ a xs, vs = [.ref a] ∧ SqT K H1 a xs ∧ R (IteT K a) H1)
theorem pi_enumX {X : Cx} {e : Expr} {ta : TA} {p pos tpos : Pos} {elts : List Expr} {kk : Nat} (hg : Gl X "enumerate") (hm : X.mg "enumerate" = none) (ha : PA X [e] ta) (hs : starEach [e] X.env = [(false, eval e X.env)] := by rfl) :
    PI X (.Tuple elts kk tpos) (.Call (.Name "enumerate" p) [e] [] pos) (iEnumX X.K ta) := by
  refine ⟨fun pins s σ H R I h => ?_⟩
  refine Call_ (ld_blt I hg hm boot_enumerate (PyProof.Rows.callWith_type1 (thn (ha.run pos pins s σ H _ I h) fun us s1 ⟨vs, H1, I1, r1, q1⟩ => ?_) hs rfl))
  rcases q1 with q1 | q1
  · obtain ⟨a, xs, ex, hq, q⟩ := q1
    subst ex
    cases r1 with
    | cons r rr =>
      cases rr
      cases r
      obtain ⟨its, rv, p', hz⟩ := I1.list hq
      refine call_enumerate_list p'.isList fun h' he hit hsz hk => wpAny_pyIter_enum he ?_
      have I2 : Inv X pins σ H1 { s1 with heap := h' } := I1.kept (t' := s1.toks) hk
      refine ⟨s1.heap.objs.size + 1, [s1.heap.objs.size + 1, s1.heap.objs.size], _, _, H1, rfl, I2, turn_enum a (s1.heap.objs.size + 1) s1.heap.objs.size, ⟨⟨.none, he⟩, hit, Nat.succ_ne_self _⟩, fun b hb => ?_, q⟩
      have e' : b = s1.heap.objs.size + 1 ∨ b = s1.heap.objs.size := by simpa using hb
      have hle : s1.heap.objs.size ≤ b := by
        rcases e' with z | z
        · rw [z]; exact Nat.le_add_right _ _
        · rw [z]; exact Nat.le_refl _
      exact I1.fpOk hle (I1.hok.fresh hle)
  · obtain ⟨a, xs, ex, hq, q⟩ := q1
    subst ex
    cases r1 with
    | cons r rr =>
      cases rr
      cases r
      obtain ⟨its, rv, p', hz⟩ := I1.tuple hq
      have hlt : a < s1.heap.objs.size := by obtain ⟨o, ho, _⟩ := id p'; exact Heap.lt_size ho
      refine call_enumerate_tuple p' fun h' he hit hsz hk => wpAny_pyIter_enum he ?_
      have I2 : Inv X pins σ H1 { s1 with heap := h' } := I1.kept (t' := s1.toks) hk
      refine ⟨s1.heap.objs.size + 1, [s1.heap.objs.size + 1, s1.heap.objs.size], _, _, H1, rfl, I2, turn_enumT a (s1.heap.objs.size + 1) s1.heap.objs.size, ⟨⟨.none, he⟩, hit, Nat.succ_ne_self _, Nat.ne_of_lt hlt, Nat.ne_of_lt (Nat.lt_succ_of_lt hlt)⟩, fun b hb => ?_, q⟩
      have e' : b = s1.heap.objs.size + 1 ∨ b = s1.heap.objs.size := by simpa using hb
      have hle : s1.heap.objs.size ≤ b := by
        rcases e' with z | z
        · rw [z]; exact Nat.le_add_right _ _
        · rw [z]; exact Nat.le_refl _
      exact I1.fpOk hle (I1.hok.fresh hle)
theorem itOk_eT {K : PySem.W.Frag} {F : Hp} {a : Addr} {vs : List V} {ds : List D} (h : SqT K F a vs) (r : Reps K F vs ds) : ItOk K (IteT K a) F (enumD 0 ds) := by
  intro i F1 H1 s1 s2
  have hs : SqT K H1 a vs := SqT.mono (s1.trans s2) h
  rw [enumD_get]
  refine ⟨fun d e => ?_, fun e => ⟨vs, hs, ?_⟩⟩
  · cases q : ds[i]? with
    | none => rw [q] at e; cases e
    | some d0 =>
      rw [q] at e
      cases e
      obtain ⟨v, h1, h2⟩ := r.get q
      refine ⟨⟨vs, v, hs, h1⟩, fun x H2 hy => ?_⟩
      obtain ⟨T, y, rfl, nT, rfl, hy⟩ := hy
      have ex := hy vs hs
      rw [h1] at ex
      cases ex
      have g := Grow.alloc (o := .tup [.int (i : Nat), v]) s2 nT
      refine ⟨_, g, .tup (.inl (.inl upd_same)) (.cons ?_ (.cons (h2.mono (s1.trans g.f)) .nil))⟩
      rw [Nat.zero_add]
      exact .int _
  · cases q : ds[i]? with
    | none => rw [r.length]; exact List.getElem?_eq_none_iff.mp q
    | some d0 => rw [q] at e; cases e
def iEX (fs : Ev (List A)) : Ev (List D) := fun e => (eHolds fs e).bind fun ds e1 => match ds with
  | [.list xs] => .ok (enumD 0 xs) e1
  | [.tuple xs] => .ok (enumD 0 xs) e1
  | _ => .bad
section
variable {X : Cx} {W : WX} {tg a b : Expr} {fa fb : Ev A} {fs : Ev (List A)} {p pos tpos : Pos}
theorem di_enumX {elts : List Expr} {kk : Nat} (ha : DA X W [a] fs) (hm : X.mg "enumerate" = none) (hg : Gl X "enumerate" := by rfl) (hs : starEach [a] X.env = [(false, eval a X.env)] := by rfl) : DI X W (.Tuple elts kk tpos) (.Call (.Name "enumerate" p) [a] [] pos) (iEX fs) := by
  obtain ⟨t, pt, q⟩ := ha.ex
  refine ⟨_, pi_enumX hg hm pt hs, fun G en F H σ R' R h => holdsI_run q R h fun ds e vs F1 H1 R1 s1 rp k => ?_⟩
  split at k
  · rename_i xs
    obtain ⟨v, rfl, rv⟩ := rp.one_of
    cases rv with
    | lst hs r => exact .inl ⟨_, _, rfl, R1.fh.seq hs, k _ F1 H1 R1 (.refl _) (itOk_e hs r)⟩
  · rename_i xs
    obtain ⟨v, rfl, rv⟩ := rp.one_of
    cases rv with
    | tup hs r => exact .inr ⟨_, _, rfl, SqT.mono R1.fh hs, k _ F1 H1 R1 (.refl _) (itOk_eT hs r)⟩
  · exact k.elim
end
def enumX : List D → En → M.R (List D)
  | [.list xs], e => .ok (enumD 0 xs) e
  | [.tuple xs], e => .ok (enumD 0 xs) e
  | _, _ => .bad
@[simp] theorem iEX_r (fs : Ev (List A)) (e : En) : iEX fs e = (fs e).bind fun as e1 => (okOr (holds as e1)).bind fun ds e2 => enumX ds e2 := by
  show (eHolds fs e).bind _ = _
  rw [eHolds_r]
  cases fs e with
  | bad => rfl
  | ex x e1 => rfl
  | ok as e1 =>
    simp only [R_ok]
    refine congrArg _ ?_
    funext ds e2
    rcases ds with _ | ⟨d, ds⟩
    · rfl
    · rcases ds with _ | ⟨d2, ds⟩ <;> cases d <;> rfl
@[simp] theorem enumX_l (xs : List D) (e : En) : enumX [.list xs] e = .ok (enumD 0 xs) e := rfl
@[simp] theorem enumX_t (xs : List D) (e : En) : enumX [.tuple xs] e = .ok (enumD 0 xs) e := rfl
end
end M
set_option Elab.async false
set_option linter.all false
set_option maxRecDepth 100000
set_option autoImplicit false
/-! M26: more reckoning with meanings. -/
namespace M
noncomputable section
open PySem PySem.Spec L2
def okO : Option D → En → M.R D
  | some d, e => .ok d e
  | none, _ => .bad
@[simp] theorem okO_s (d : D) (e : En) : okO (some d) e = .ok d e := rfl
@[simp] theorem oBin_r (g : D → D → Option D) (fa fb : Ev A) (e : En) : oBin g fa fb e = (fa e).bind fun a e1 => (fb e1).bind fun b e2 => okO ((res e2 a).bind fun x => (res e2 b).bind fun y => g x y) e2 := by
  unfold oBin; refine congrArg _ ?_; funext a e1; refine congrArg _ ?_; funext b e2
  cases (res e2 a).bind fun x => (res e2 b).bind fun y => g x y <;> rfl
@[simp] theorem oFn_r (g : List D → Option D) (fs : Ev (List A)) (e : En) : oFn g fs e = (fs e).bind fun as e1 => okO ((ress e1 as).bind g) e1 := by
  unfold oFn; refine congrArg _ ?_; funext a e1; cases (ress e1 a).bind g <;> rfl
@[simp] theorem ePart_no (e : En) : ePart .no e = .ok none e := rfl
def partO : Option D → En → M.R (Option Int)
  | some (.int i), e => .ok (some i) e
  | _, _ => .bad
@[simp] theorem partO_i (i : Int) (e : En) : partO (some (.int i)) e = .ok (some i) e := rfl
@[simp] theorem ePart_of (f : Ev A) (e : En) : ePart (.of f) e = (f e).bind fun a e1 => partO (res e1 a) e1 := by
  unfold ePart; simp only; refine congrArg _ ?_; funext a e1
  cases res e1 a with
  | none => rfl
  | some d => cases d <;> rfl
def slO (l h : Option Int) : Option D → En → M.R A
  | some (.tuple xs), e => .ok (.sh (.tuple (cutD xs l h))) e
  | some (.list xs), e => .ok (.sh (.list (cutD xs l h))) e
  | _, _ => .bad
@[simp] theorem slO_t (l h : Option Int) (xs : List D) (e : En) : slO l h (some (.tuple xs)) e = .ok (.sh (.tuple (cutD xs l h))) e := rfl
@[simp] theorem slO_l (l h : Option Int) (xs : List D) (e : En) : slO l h (some (.list xs)) e = .ok (.sh (.list (cutD xs l h))) e := rfl
@[simp] theorem eSl_r (fa : Ev A) (lo hi : Po) (e : En) : eSl fa lo hi e = (fa e).bind fun a e1 => (ePart lo e1).bind fun l e2 => (ePart hi e2).bind fun h e3 => slO l h (res e3 a) e3 := by
  unfold eSl; refine congrArg _ ?_; funext a e1; refine congrArg _ ?_; funext l e2; refine congrArg _ ?_; funext h e3
  cases res e3 a with
  | none => rfl
  | some d => cases d <;> rfl
def slL (l h : Option Int) : Option D → En → M.R D
  | some (.list xs), e => .ok (.list (cutD xs l h)) e
  | _, _ => .bad
@[simp] theorem slL_l (l h : Option Int) (xs : List D) (e : En) : slL l h (some (.list xs)) e = .ok (.list (cutD xs l h)) e := rfl
@[simp] theorem oSlL_r (fa : Ev A) (lo hi : Po) (e : En) : oSlL fa lo hi e = (fa e).bind fun a e1 => (ePart lo e1).bind fun l e2 => (ePart hi e2).bind fun h e3 => slL l h (res e3 a) e3 := by
  unfold oSlL; refine congrArg _ ?_; funext a e1; refine congrArg _ ?_; funext l e2; refine congrArg _ ?_; funext h e3
  cases res e3 a with
  | none => rfl
  | some d => cases d <;> rfl
noncomputable def rng2 : Option (List D) → En → M.R (List D)
  | some [.int m, .int n], e => if okR m && okR n then .ok (rangeD m (n - m).toNat) e else .bad
  | _, _ => .bad
@[simp] theorem iR2_r (fs : Ev (List A)) (e : En) : iR2 fs e = (fs e).bind fun as e1 => rng2 (ress e1 as) e1 := by
  unfold iR2; refine congrArg _ ?_; funext as e1; unfold rng2; generalize ress e1 as = q; rcases q with _ | ds; · rfl
  rcases ds with _ | ⟨d, ds⟩; · rfl
  rcases ds with _ | ⟨d2, ds⟩
  · cases d <;> rfl
  · rcases ds with _ | ⟨d3, ds⟩
    · cases d <;> cases d2 <;> rfl
    · cases d <;> cases d2 <;> rfl
theorem okR_nat (n : Nat) (h : n ≤ 1000000) : okR (n : Int) = true := okR_of (by omega) (by omega)
theorem rng1_n (n : Nat) (e : En) (h : n ≤ 1000000) : rngOf (some [.int (n : Int)]) e = .ok (rangeD 0 n) e := by
  rw [rngOf_i _ _ (okR_nat n h), Int.toNat_natCast]
theorem rng2_n (m n : Nat) (e : En) (h : n ≤ 1000000) (hm : m ≤ 1000000) : rng2 (some [.int (m : Int), .int (n : Int)]) e = .ok (rangeD m (n - m)) e := by
  unfold rng2; simp only [okR_nat n h, okR_nat m hm, Bool.and_self, if_true]
  rw [show ((n : Int) - (m : Int)).toNat = n - m by omega]
theorem rng2_1 (n : Nat) (e : En) (h : n ≤ 1000000) : rng2 (some [.int 1, .int (n : Int)]) e = .ok (rangeD 1 (n - 1)) e := rng2_n 1 n e h (by omega)
def augO (i : Nat) (e : En) : Option D → SR
  | some z => .nx (e.set i (.sh z))
  | none => .bad
@[simp] theorem augO_s (i : Nat) (e : En) (z : D) : augO i e (some z) = .nx (e.set i (.sh z)) := rfl
def augSl (i : Nat) (g : D → D → Option D) (f : Ev A) (e : En) : Option Sl → SR
  | some (.sh x) => (f e).st fun a e1 => augO i e1 ((res e1 a).bind fun y => g x y)
  | _ => .bad
@[simp] theorem augSl_sh (i : Nat) (g : D → D → Option D) (f : Ev A) (e : En) (x : D) : augSl i g f e (some (.sh x)) = (f e).st fun a e1 => augO i e1 ((res e1 a).bind fun y => g x y) := rfl
@[simp] theorem sAug_r (i : Nat) (g : D → D → Option D) (f : Ev A) (e : En) : sAug i g f e = augSl i g f e e[i]? := by
  unfold sAug
  cases e[i]? with
  | none => rfl
  | some s =>
    cases s with
    | sh x =>
      show (f e).st _ = (f e).st _
      refine congrArg _ ?_
      funext a e1
      cases (res e1 a).bind fun y => g x y <;> rfl
    | _ => rfl
@[simp] theorem dAbs_i (i : Int) : dAbs (.int i) = some (.int (if i < 0 then -i else i)) := rfl
@[simp] theorem dInt_i (i : Int) : dInt (.int i) = some (.int i) := rfl
@[simp] theorem dList_l (xs : List D) : dList (.list xs) = some (.list xs) := rfl
@[simp] theorem dList_t (xs : List D) : dList (.tuple xs) = some (.list xs) := rfl
end
end M
set_option Elab.async false
set_option linter.all false
set_option maxRecDepth 100000
set_option autoImplicit false
/-! M27: list(range(..)), tuple(range(..)). -/
namespace M
noncomputable section
open PySem PySem.Spec PyProof.Rows L2
structure DRg (X : Cx) (W : WX) (e : Expr) (f : Ev (Int × Int)) : Prop where
  ex : ∃ t, PRg X e t ∧ ∀ (G : Gd) (en : En) (F H : Hp) (σ : L2.St) (Q : Int → Int → Hp → Prop), Rel X.K G en F H σ → PostE X W G F σ (fun _ (a : Int × Int) (v : Int × Int) => a = v) (f en) (fun v H' => Q v.1 v.2 H') → t σ H Q
def intO : Option D → Option Int
  | some (.int i) => some i
  | _ => none
@[simp] theorem intO_s (i : Int) : intO (some (.int i)) = some i := rfl
def okI {α : Type} : Option α → En → M.R α
  | some a, e => .ok a e
  | none, _ => .bad
@[simp] theorem okI_s {α : Type} (a : α) (e : En) : okI (some a) e = .ok a e := rfl
def rg1 (fa : Ev A) : Ev (Int × Int) := fun e => (fa e).bind fun a e1 => okI ((intO (res e1 a)).map fun n => (0, n)) e1
def rg2 (fa fb : Ev A) : Ev (Int × Int) := fun e => (fa e).bind fun a e1 => (fb e1).bind fun b e2 => okI ((intO (res e2 a)).bind fun m => (intO (res e2 b)).map fun n => (m, n)) e2
@[simp] theorem rg1_r (fa : Ev A) (e : En) : rg1 fa e = (fa e).bind fun a e1 => okI ((intO (res e1 a)).map fun n => (0, n)) e1 := rfl
@[simp] theorem rg2_r (fa fb : Ev A) (e : En) : rg2 fa fb e = (fa e).bind fun a e1 => (fb e1).bind fun b e2 => okI ((intO (res e2 a)).bind fun m => (intO (res e2 b)).map fun n => (m, n)) e2 := rfl
def rgD (a b : Int) : List D := (List.range (b - a).toNat).map fun i : Nat => .int (a + (i : Int))
def rgFits (a b : Int) : Bool := small a.natAbs && small b.natAbs
def oLstRg (f : Ev (Int × Int)) : Ev D := fun e => (f e).bind fun p e1 => if rgFits p.1 p.2 then .ok (.list (rgD p.1 p.2)) e1 else .bad
def eTupRg (f : Ev (Int × Int)) : Ev A := fun e => (f e).bind fun p e1 => if rgFits p.1 p.2 then .ok (.sh (.tuple (rgD p.1 p.2))) e1 else .bad
@[simp] theorem oLstRg_r (f : Ev (Int × Int)) (e : En) : oLstRg f e = (f e).bind fun p e1 => if rgFits p.1 p.2 then .ok (.list (rgD p.1 p.2)) e1 else .bad := rfl
@[simp] theorem eTupRg_r (f : Ev (Int × Int)) (e : En) : eTupRg f e = (f e).bind fun p e1 => if rgFits p.1 p.2 then .ok (.sh (.tuple (rgD p.1 p.2))) e1 else .bad := rfl
theorem rgFits_n (a b : Nat) (h : a ≤ 1000000) (h2 : b ≤ 1000000) : rgFits (a : Int) (b : Int) = true := by simp [rgFits, small_lit, h, h2]
theorem rgFits_0 (b : Nat) (h2 : b ≤ 1000000) : rgFits 0 (b : Int) = true := rgFits_n 0 b (by omega) h2
section
variable {X : Cx} {W : WX} {a b e : Expr} {fa fb : Ev A} {f : Ev (Int × Int)} {p pos : Pos}
theorem rgOk_of {a b : Int} (h : rgFits a b = true) : RgOk a b := by
  unfold rgFits at h
  obtain ⟨h1, h2⟩ := Bool.and_eq_true_iff.1 h
  have h1 := small_of h1
  have h2 := small_of h2
  exact ⟨by omega, by omega, by omega, by omega, by omega⟩
theorem drg_1 (ha : DX X W a fa) (hm : X.mg "range" = none) (hg : Gl X "range" := by rfl) (na : starEach [a] X.env = (false, eval a X.env) :: starEach [] X.env := by rfl) : DRg X W (.Call (.Name "range" p) [a] [] pos) (rg1 fa) := by
  obtain ⟨t, pt, q⟩ := ha.ex
  refine ⟨_, prg_1 hg hm pt na, fun G en F H σ Q R h => q G en F H σ _ R (PostE.bind h fun x e1 v F1 H1 R1 s1 o1 k => ?_)⟩
  cases z : res e1 x with
  | none => rw [z] at k; exact k.elim
  | some d =>
    rw [z] at k
    cases d with
    | int n =>
      cases (res_ok R1 o1 z).int
      exact ⟨n, rfl, k (0, n) F1 H1 R1 (.refl _) rfl⟩
    | _ => exact k.elim
theorem drg_2 (ha : DX X W a fa) (hb : DX X W b fb) (hm : X.mg "range" = none) (hg : Gl X "range" := by rfl) (na : starEach [a, b] X.env = (false, eval a X.env) :: starEach [b] X.env := by rfl) (nb : starEach [b] X.env = (false, eval b X.env) :: starEach [] X.env := by rfl) (hp : (backTo pos (starEach [b] X.env)).any (·.1) = false := by rfl) : DRg X W (.Call (.Name "range" p) [a, b] [] pos) (rg2 fa fb) := by
  obtain ⟨t, pt, q⟩ := ha.ex
  obtain ⟨t2, pt2, q2⟩ := hb.ex
  refine ⟨_, prg_2 hg hm pt pt2 na nb hp, fun G en F H σ Q R h => q G en F H σ _ R (PostE.bind h fun x e1 v F1 H1 R1 s1 o1 k => q2 G e1 F1 H1 σ _ R1 (PostE.bind k fun y e2 w F2 H2 R2 s2 o2 k2 => ?_))⟩
  cases z : res e2 x with
  | none => rw [z] at k2; exact k2.elim
  | some d =>
    rw [z] at k2
    cases d with
    | int n =>
      cases z2 : res e2 y with
      | none => rw [z2] at k2; exact k2.elim
      | some d2 =>
        rw [z2] at k2
        cases d2 with
        | int m =>
          cases (res_ok R2 (o1.mono s2) z).int
          cases (res_ok R2 o2 z2).int
          exact ⟨n, m, rfl, rfl, k2 (n, m) F2 H2 R2 (.refl _) rfl⟩
        | _ => exact k2.elim
    | _ => exact k2.elim
theorem reps_rg {K : PySem.W.Frag} {F : Hp} : ∀ (xs : List Nat) (a : Int), Reps K F (xs.map fun i : Nat => V.int (a + (i : Nat))) (xs.map fun i : Nat => PyData.int (a + (i : Int)))
  | [], _ => .nil
  | x :: xs, a => .cons (.int _) (reps_rg xs a)
theorem do_listRg (he : DRg X W e f) (hm : X.mg "list" = none) (hc : X.calm = true := by rfl) (hg : Gl X "list" := by rfl) (na : starEach [e] X.env = (false, eval e X.env) :: starEach [] X.env := by rfl) : DO X W (.Call (.Name "list" p) [e] [] pos) (oLstRg f) := by
  obtain ⟨t, pt, q⟩ := he.ex
  refine ⟨_, pe_listRg hc hg hm pt na, fun G en F H σ Q R h => q G en F H σ _ R ?_⟩
  unfold oLstRg at h
  cases z : f en with
  | bad => rw [z] at h; exact h
  | ex x e1 => rw [z] at h; exact h
  | ok p e1 =>
    rw [z] at h
    rintro v F1 H1 R1 s1 rfl
    simp only [M.R.bind] at h
    by_cases hz : rgFits p.1 p.2 = true
    · rw [if_pos hz] at h
      refine ⟨rgOk_of hz, fun q nq => ?_⟩
      obtain ⟨R2, n2⟩ := newAt_of (d := .list (rgD p.1 p.2)) (o := .lst (rgV p.1 p.2)) R1 nq ⟨_, upd_same, reps_rg _ _⟩
      exact h (.ref q) F1 _ R2 s1 n2
    · rw [if_neg hz] at h; exact h.elim
theorem dx_tupRg (he : DRg X W e f) (hm : X.mg "tuple" = none) (hc : X.calm = true := by rfl) (hg : Gl X "tuple" := by rfl) (na : starEach [e] X.env = (false, eval e X.env) :: starEach [] X.env := by rfl) : DX X W (.Call (.Name "tuple" p) [e] [] pos) (eTupRg f) := by
  obtain ⟨t, pt, q⟩ := he.ex
  refine ⟨_, pe_tupRg hc hg hm pt na, fun G en F H σ Q R h => q G en F H σ _ R ?_⟩
  unfold eTupRg at h
  cases z : f en with
  | bad => rw [z] at h; exact h
  | ex x e1 => rw [z] at h; exact h
  | ok p e1 =>
    rw [z] at h
    rintro v F1 H1 R1 s1 rfl
    simp only [M.R.bind] at h
    by_cases hz : rgFits p.1 p.2 = true
    · rw [if_pos hz] at h
      refine ⟨rgOk_of hz, fun q nq => ?_⟩
      have g := Grow.alloc (o := .tup (rgV p.1 p.2)) R1.fh nq
      exact h (.ref q) _ _ (R1.grow g) (s1.trans g.f) (.tup (.inl (.inl upd_same)) (reps_rg _ _))
    · rw [if_neg hz] at h; exact h.elim
end
end
end M
set_option Elab.async false
set_option linter.all false
set_option maxRecDepth 100000
set_option maxHeartbeats 4000000
set_option autoImplicit false
/-! M28: a tuple so many times, or none -/
namespace M
noncomputable section
open PySem PySem.Spec PyProof.Rows L2
theorem tuple_none (l : Addr) (items : Array Value) (n : Nat) (dd : Option Addr) (sl : Array (Option Value)) (x : Int) (u : Tok) (c0 : (decide (x < -(2 ^ 63)) || decide (x ≥ 2 ^ 63)) = false) (c1 : (items.isEmpty || x == 1) = false) (c2 : (decide (x ≤ 0) || items.isEmpty) = true) :
    Meets (Builtin.«tuple.__mul__» ⟨[.ref l, .int x u], []⟩) (fun _ R s => s.heap.get? l = some { cls := .type "tuple", dict := dd, data := .seq items n, slots := sl } ∧
      R (.ok (.ret (Value.ref s.heap.objs.size))) { s with heap := s.heap.push { cls := Value.type "tuple", data := Data.seq #[] }, toks := s.toks }) :=
  .of_wp fun prog w A R s h => by
    obtain ⟨hp, g, d, tk, os⟩ := s
    obtain ⟨hl, h⟩ := h
    have f1 := AutoSeq1.idx_int
    wp_walk using wpAny_loadPart' hl
    repeat (first
      | (refine wpAny_ite_false (decide_eq_false (by rw [c0]; exact Bool.false_ne_true)) ?_; wp_walk using wpAny_loadPart' hl)
      | (refine wpAny_ite_false (decide_eq_false (by rw [c1]; exact Bool.false_ne_true)) ?_; wp_walk using wpAny_loadPart' hl)
      | (refine wpAny_ite_true (decide_eq_true c2) ?_; wp_walk using wpAny_loadPart' hl))
    exact ⟨_, rfl, h⟩
section
variable {X : Cx} {K : PySem.W.Frag}
abbrev rNoneT (K : PySem.W.Frag) : R2 := fun x y H Q => ∃ l k xs, x = V.ref l ∧ y = V.int k ∧ SqT K H l xs ∧ xs ≠ [] ∧ k ≤ 0 ∧ -1000 ≤ k ∧ ∀ p, H p = none → Q (.ref p) (upd H p (.tup []))
theorem op_noneT : OpR X (binaryOp .Mult) (rNoneT X.K) := by
  intro pins s σ H x y v u Q I rx ry h
  obtain ⟨l, k, xs, rfl, rfl, hT, hne, h1, h2, q⟩ := h
  cases rx
  obtain ⟨t, rfl⟩ := ry
  obtain ⟨its, r, ⟨⟨cls, dd, data, sl⟩, ho, hc, n, hd⟩, hs⟩ := I.tuple hT
  simp only at hc hd
  subst hc hd
  have hle : its.length = xs.length := r.length.symm
  have hi : its.toArray.isEmpty = false := by
    cases its with
    | nil => exact (hne (List.eq_nil_of_length_eq_zero hle.symm)).elim
    | cons a b => rfl
  have c0 : (decide (k < -(2 ^ 63)) || decide (k ≥ 2 ^ 63)) = false := by
    rw [decide_eq_false (by omega), decide_eq_false (by omega)] <;> rfl
  have c1 : (its.toArray.isEmpty || k == 1) = false := by
    rw [hi, Bool.false_or]
    exact beq_eq_false_iff_ne.mpr (by omega)
  have c2 : (decide (k ≤ 0) || its.toArray.isEmpty) = true := by
    rw [hi, Bool.or_false]
    exact decide_eq_true h1
  refine wpAny_binaryOp_repeat_ref (T := "tuple") (U := "int") (by decide) ⟨_, ho, rfl⟩ (fun s' => typeIs_int s' k t) noFill_tuple_mul F.fills_int_mul F.slot_int_rmul repeat_tuple F.slot_int_index.lookup
    (call_meets F.slot_int_rmul (typeIs_int s k t) F.entry_int_rmul (F.args_int_rmul_2 _ _) (int_rmul_tuple k t l its.toArray n dd sl)
      ⟨ho, rfl, ⟨_, ho, rfl⟩, call_meets F.slot_tuple_mul ⟨_, ho, rfl⟩ F.entry_tuple_mul (F.args_tuple_mul_2 _ _) (tuple_none l its.toArray n dd sl k t c0 c1 c2) ⟨ho, ?_⟩⟩)
  refine ⟨.ref s.heap.objs.size, _, I.laid (t' := s.toks) (o := .tup []) (fun b ob q => Heap.get?_push_of_some _ q) (Nat.le_refl _) ?_, rfl, q _ (I.hok.fresh (Nat.le_refl _))⟩
  exact ⟨by simp, _, .nil, IsTup.new _ _⟩
def dMulZ : D → D → Option D
  | .tuple xs, .int k => if k ≤ 0 then (if xs ≠ [] ∧ -1000 ≤ k then some (.tuple []) else none) else dMulT (.tuple xs) (.int k)
  | _, _ => none
abbrev rMulZ (K : PySem.W.Frag) : R2 := fun x y H Q => rNoneT K x y H Q ∨ rMulT K x y H Q
theorem op_mulZ : OpR X (binaryOp .Mult) (rMulZ X.K) := op_noneT.or op_mulT
theorem opd_mulZ : OpD K (rMulZ K) dMulZ := by
  intro F H x y d e q Q sF hx hy hg k
  unfold dMulZ at hg
  split at hg
  · rename_i xs i
    by_cases h1 : i ≤ 0
    · obtain ⟨l, vs, rfl, hs, r⟩ := hx.tup sF
      rw [hy.int]
      rw [if_pos h1] at hg
      split at hg
      · rename_i hz
        cases hg
        have len := r.length
        refine .inl ⟨l, i, vs, rfl, rfl, hs, fun z => hz.1 (List.eq_nil_of_length_eq_zero (by rw [← len, z]; rfl)), h1, hz.2, fun p np => ?_⟩
        have g := Grow.alloc (o := .tup []) sF np
        exact k (.ref p) _ _ g (.tup (.inl (.inl upd_same)) .nil)
      · cases hg
    · rw [if_neg h1] at hg
      exact .inr (opd_mulT _ _ _ _ _ _ _ _ sF hx hy hg k)
  · cases hg
section
variable {X : Cx} {W : WX} {a b : Expr} {pos : Pos} {fa fb : Ev A}
theorem dx_mulZ (ha : DX X W a fa) (hb : DX X W b fb) : DX X W (.BinOp a .Mult b pos) (eBin dMulZ fa fb) := dx_op op_mulZ opd_mulZ ha hb
end
theorem mulZ_n (x : D) (n : Nat) (h : n ≤ 1000) : dMulZ (.tuple [x]) (.int n) = some (.tuple (List.replicate n x)) := by
  cases n with
  | zero => simp [dMulZ]
  | succ n =>
    have e : ∀ k : Int, dMulZ (.tuple [x]) (.int k) = if k ≤ 0 then (if [x] ≠ [] ∧ -1000 ≤ k then some (.tuple []) else none) else dMulT (.tuple [x]) (.int k) := fun _ => rfl
    rw [e, if_neg (show ¬ ((n + 1 : Nat) : Int) ≤ 0 by omega), dMulT_i [x] _ ⟨by simp, by omega, by omega, by simp⟩, Int.toNat_natCast]
    congr 2
    induction (n + 1) with
    | zero => rfl
    | succ n ih => rw [List.replicate_succ, List.replicate_succ, List.flatten_cons, ← ih]; rfl
end
end
end M
set_option Elab.async false
set_option linter.all false
set_option maxRecDepth 100000
set_option maxHeartbeats 4000000
set_option autoImplicit false
/-! M29: += of texts and tuples -/
namespace M
noncomputable section
open PySem PySem.Spec PyProof.Rows L2
theorem noI_tuple_add : typeLookup (.type "tuple") (dunderI "add") = pure none := by kernel_rfl
section
variable {prog : Program} {w : World} {A : Around} {E : Value → Shared → Prop} {s : Shared}
theorem iconcat_meets {T id : String} {B : Builtin} {a b : Value} {S : PySem.Spec} {Q : Value → Shared → Prop} (ha : s.TypeIs a T) (hb : s.TypeIs b T)
    (hno : typeLookup (.type T) (dunderI "add") = pure none) (hfill : fillsNumberSlot (.type T) "add" = pure false) (hseq : seqSlot? (.type T) "__add__" = pure (some (.builtin id))) (slot : Slot T "__add__" id)
    (entry : entryFor table id = some B) (args : argsOk id ⟨[a, b], []⟩) (g : Meets (B ⟨[a, b], []⟩) S) (h : S A (wants Q E) s) : wpAny (model prog w) A (inplaceOp .Add a b) Q E s :=
  wpAny_inplaceOp_concat ha hb hno hfill hseq (call_meets slot ha entry args g h)
theorem icat_tup {t b : Addr} {vs ws : List Value} {Q : Value → Shared → Prop} (ht : IsTup s.heap t vs.toArray) (hb : IsTup s.heap b ws.toArray) (hv : vs ≠ [])
    (h1 : ws = [] → Q (.ref t) s) (h2 : ws ≠ [] → Q (.ref s.heap.objs.size) { s with heap := s.heap.push { cls := .type "tuple", data := .seq (vs ++ ws).toArray } })
    (hsz : vs.length + ws.length ≤ sizeLine) : wpAny (model prog w) A (inplaceOp .Add (.ref t) (.ref b)) Q E s := by
  obtain ⟨⟨cls, dd, data, sl⟩, ho, hc, n, hd⟩ := id ht
  obtain ⟨⟨cls2, dd2, data2, sl2⟩, ho2, hc2, n2, hd2⟩ := id hb
  simp only at hc hd hc2 hd2
  subst hc hd hc2 hd2
  have e : vs.toArray ++ ws.toArray = (vs ++ ws).toArray := by simp
  by_cases hw : ws = []
  · exact iconcat_meets ⟨_, ho, rfl⟩ ⟨_, ho2, rfl⟩ noI_tuple_add noFill_tuple_add seq_tuple_add PySem.F.slot_tuple_add PySem.F.entry_tuple_add (PySem.F.args_tuple_add_2 _ _)
      (tuple_addW1 t b vs.toArray ws.toArray n n2 dd dd2 sl sl2 (by simpa using hv) (by simp [hw])) ⟨ho, ho2, h1 hw⟩
  · refine iconcat_meets ⟨_, ho, rfl⟩ ⟨_, ho2, rfl⟩ noI_tuple_add noFill_tuple_add seq_tuple_add PySem.F.slot_tuple_add PySem.F.entry_tuple_add (PySem.F.args_tuple_add_2 _ _)
      (tuple_addW2 t b vs.toArray ws.toArray n n2 dd dd2 sl sl2 (by simpa using hv) (by simpa using hw) (by rw [List.size_toArray, List.size_toArray]; exact hsz)) ⟨ho, ho2, ?_⟩
    rw [e]
    exact h2 hw
theorem icat_tup0 {t b : Addr} {ws : List Value} {Q : Value → Shared → Prop} (ht : IsTup s.heap t ([] : List Value).toArray) (hb : IsTup s.heap b ws.toArray) (h : Q (.ref b) s) : wpAny (model prog w) A (inplaceOp .Add (.ref t) (.ref b)) Q E s := by
  obtain ⟨⟨cls, dd, data, sl⟩, ho, hc, n, hd⟩ := id ht
  obtain ⟨⟨cls2, dd2, data2, sl2⟩, ho2, hc2, n2, hd2⟩ := id hb
  simp only at hc hd hc2 hd2
  subst hc hd hc2 hd2
  exact iconcat_meets ⟨_, ho, rfl⟩ ⟨_, ho2, rfl⟩ noI_tuple_add noFill_tuple_add seq_tuple_add PySem.F.slot_tuple_add PySem.F.entry_tuple_add (PySem.F.args_tuple_add_2 _ _)
    (tuple_addW0 t b ([] : List Value).toArray ws.toArray n n2 dd dd2 sl sl2 (by simp)) ⟨ho, ho2, h⟩
end
section
variable {X : Cx} {K : PySem.W.Frag}
theorem iop_catA : PIp X .Add (rCatA X.K) := by
  intro pins s σ H x y v u Q I rx ry h
  obtain ⟨a, b, xs, ys, rfl, rfl, ha, hb, hz, q0, q1, q2⟩ := h
  cases rx
  cases ry
  obtain ⟨its, r1, p1, _⟩ := I.tuple ha
  obtain ⟨its2, r2, p2, _⟩ := I.tuple hb
  by_cases hx : xs = []
  · subst hx
    cases r1
    exact icat_tup0 p1 p2 ⟨.ref b, H, I, rfl, q0 rfl⟩
  · refine icat_tup p1 p2 (fun z => hx (r1.nil_iff.mp z)) (fun z => ⟨.ref a, H, I, rfl, q1 hx (r2.nil_iff.mp z)⟩) (fun z => ?_) (by rw [← r1.length, ← r2.length]; exact hz)
    refine ⟨.ref s.heap.objs.size, _, I.laid (t' := s.toks) (o := .tup (xs ++ ys)) (fun b ob q => Heap.get?_push_of_some _ q) (Nat.le_refl _) ?_, rfl, q2 hx (fun w => z (r2.nil_iff.mpr w)) _ (I.hok.fresh (Nat.le_refl _))⟩
    exact ⟨by rw [List.length_append]; exact hz, _, r1.append r2, IsTup.new _ _⟩
abbrev rIAdd (K : PySem.W.Frag) : TIp := fun x y H Q => rI0 (fun i j => .int (i + j)) x y H Q ∨ ((∃ i j, x = .str i ∧ y = .str j ∧ i.length + j.length ≤ sizeLine ∧ Q (.str (i ++ j)) H) ∨ rCatA K x y H Q)
theorem ip_addA : PIp X .Add (rIAdd X.K) := by
  intro pins s σ H x y v u Q I rx ry h
  rcases h with h | h | h
  · exact iop_add pins s σ H x y v u Q I rx ry h
  · exact iop_add_str pins s σ H x y v u Q I rx ry h
  · exact iop_catA pins s σ H x y v u Q I rx ry h
theorem ipd_addA : IpD K (rIAdd K) dAdd := opd_add
@[simp] theorem dAdd_i (a b : Int) : dAdd (.int a) (.int b) = some (.int (a + b)) := rfl
@[simp] theorem dAdd_t (a b : List D) : dAdd (.tuple a) (.tuple b) = if small (a.length + b.length) then some (.tuple (a ++ b)) else none := rfl
@[simp] theorem dAdd_s (a b : Str) : dAdd (.str a) (.str b) = if small (a.length + b.length) then some (.str (a ++ b)) else none := rfl
end
end
end M
set_option Elab.async false
set_option linter.all false
set_option maxRecDepth 100000
set_option maxHeartbeats 4000000
set_option autoImplicit false
/-! M30: an empty dict, as data -/
namespace M
noncomputable section
open PySem PySem.Spec PyProof.Rows L2
section
variable {X : Cx} {W : WX} {pos : Pos}
def eDic : Ev A := fun e => .ok (.sh (.dict [])) e
@[simp] theorem eDic_r (e : En) : eDic e = .ok (.sh (.dict [])) e := rfl
theorem dx_dic : DX X W (.Dict [] [] pos) eDic :=
  ⟨_, pe_dnewK, fun G en F H σ Q R q p np => by
    have g := Grow.alloc (o := .dK []) R.fh np
    exact q (.ref p) _ _ (R.grow g) g.f (.dK (.inl upd_same) .nil)⟩
end
end
end M
set_option Elab.async false
set_option linter.all false
set_option maxRecDepth 100000
set_option maxHeartbeats 4000000
set_option autoImplicit false
/-! M31: None in a list of numbers and None -/
namespace M
noncomputable section
open PySem PySem.Spec PyProof.Rows L2
def optsOf : List D → Option (List (Option Int))
  | [] => some []
  | .none :: ds => (optsOf ds).map fun r => none :: r
  | .int i :: ds => (optsOf ds).map fun r => some i :: r
  | _ => none
def oV : Option Int → V
  | none => .non
  | some i => .int i
def hasN (os : List (Option Int)) : Bool := os.any Option.isNone
/-- None in a list or tuple of whole numbers and None -/
def dInN (neg : Bool) : D → D → Option D
  | .none, .list ds => (optsOf ds).map fun os => .bool (if neg then !hasN os else hasN os)
  | .none, .tuple ds => (optsOf ds).map fun os => .bool (if neg then !hasN os else hasN os)
  | _, _ => none
theorem inV_opts : ∀ os : List (Option Int), inV .non (os.map oV) = hasN os
  | [] => rfl
  | o :: os => by
    have ih := inV_opts os
    unfold inV hasN at ih ⊢
    rw [List.map_cons, List.any_cons, ih, List.any_cons]
    cases o <;> rfl
theorem flat_opts : ∀ os : List (Option Int), (os.map oV).all flatV = true
  | [] => rfl
  | o :: os => by rw [List.map_cons, List.all_cons, flat_opts os]; cases o <;> rfl
section
variable {X : Cx} {K : PySem.W.Frag}
theorem Reps.opts {F : Hp} : ∀ {ds : List D} {os : List (Option Int)} {vs : List V}, optsOf ds = some os → Reps K F vs ds → vs = os.map oV
  | [], _, _, h, r => by cases h; cases r; rfl
  | .none :: ds, _, _, h, r => by
    obtain ⟨q, h1, rfl⟩ := Option.map_eq_some_iff.1 h
    cases r with
    | cons a t =>
      cases a
      rw [Reps.opts h1 t]; rfl
  | .int i :: ds, _, _, h, r => by
    obtain ⟨q, h1, rfl⟩ := Option.map_eq_some_iff.1 h
    cases r with
    | cons a t =>
      cases a
      rw [Reps.opts h1 t]; rfl
  | .bool _ :: _, _, _, h, _ => by cases h
  | .str _ :: _, _, _, h, _ => by cases h
  | .list _ :: _, _, _, h, _ => by cases h
  | .tuple _ :: _, _, _, h, _ => by cases h
  | .dict _ :: _, _, _, h, _ => by cases h
theorem opd_inN (neg : Bool) : OpD K (rIn K neg) (dInN neg) := by
  intro F H x y d e q Q sF hx hy hg k
  unfold dInN at hg
  split at hg
  · obtain ⟨ns, h1, h2⟩ := Option.map_eq_some_iff.1 hg
    obtain ⟨p, vs, rfl, hs, r⟩ := hy.list sF
    have ev := Reps.opts h1 r
    subst ev; subst h2
    rw [hx.non]
    refine ⟨p, _, rfl, .inl hs, rfl, flat_opts ns, ?_⟩
    rw [inV_opts]
    exact k _ F H (.refl sF) (.bl _)
  · obtain ⟨ns, h1, h2⟩ := Option.map_eq_some_iff.1 hg
    obtain ⟨p, vs, rfl, hs, r⟩ := hy.tup sF
    have ev := Reps.opts h1 r
    subst ev; subst h2
    rw [hx.non]
    refine ⟨p, _, rfl, .inr hs, rfl, flat_opts ns, ?_⟩
    rw [inV_opts]
    exact k _ F H (.refl sF) (.bl _)
  · cases hg
theorem hb_inN (neg : Bool) : ∀ x y q, dInN neg x y = some q → ∃ k, q = .bool k := by
  intro x y q e
  unfold dInN at e
  split at e
  · obtain ⟨ns, _, h2⟩ := Option.map_eq_some_iff.1 e; exact ⟨_, h2.symm⟩
  · obtain ⟨ns, _, h2⟩ := Option.map_eq_some_iff.1 e; exact ⟨_, h2.symm⟩
  · cases e
end
section
variable {X : Cx} {W : WX} {a b : Expr} {pos : Pos} {fa fb : Ev A}
theorem dx_inN (ha : DX X W a fa) (hb : DX X W b fb) (hm : behindInMarks .In b = false := by rfl) : DX X W (.Compare a [.In] [b] pos) (eBin (dInN false) fa fb) := dx_cmp op_in_seq (opd_inN false) ha hb hm
theorem dx_notInN (ha : DX X W a fa) (hb : DX X W b fb) (hm : behindInMarks .NotIn b = false := by rfl) : DX X W (.Compare a [.NotIn] [b] pos) (eBin (dInN true) fa fb) := dx_cmp op_notIn_seq (opd_inN true) ha hb hm
theorem dt_inN (ha : DX X W a fa) (hb : DX X W b fb) (hm : behindInMarks .In b = false := by rfl) : DT X W (.Compare a [.In] [b] pos) (tOf (eBin (dInN false) fa fb)) := dt_cmp op_in_seq (opd_inN false) ha hb hm (hb_inN false)
theorem dt_notInN (ha : DX X W a fa) (hb : DX X W b fb) (hm : behindInMarks .NotIn b = false := by rfl) : DT X W (.Compare a [.NotIn] [b] pos) (tOf (eBin (dInN true) fa fb)) := dt_cmp op_notIn_seq (opd_inN true) ha hb hm (hb_inN true)
end
end
end M
set_option Elab.async false
set_option linter.all false
set_option maxRecDepth 100000
namespace M
open PySem PySem.Spec L2
/-! ### x or y, where x is any plain thing -/
def trD : D → Option Bool
  | .none => some false
  | .bool b => some b
  | .int i => some (i != 0)
  | .list xs => some (!xs.isEmpty)
  | .tuple xs => some (!xs.isEmpty)
  | _ => none
def eOrT (fa fb : Ev A) : Ev A := fun e => (fa e).bind fun a e1 => match (res e1 a).bind trD with
  | some true => .ok a e1
  | some false => fb e1
  | none => .bad
section
variable {X : Cx} {W : WX} {a b : Expr} {ta tb : TE} {fa fb : Ev A} {pos : Pos} {rest : List Expr}
def tOrG (K : PySem.W.Frag) (ta tb : TE) : TE := fun σ H Q => ta σ H fun x H1 => ∃ c, TruV K x H1 c ∧ if c = true then Q x H1 else tb σ H1 Q
theorem pe_orG (ha : PE X a ta) (hb : PE X (.BoolOp .Or (b :: rest) pos) tb) : PE X (.BoolOp .Or (a :: b :: rest) pos) (tOrG X.K ta tb) := by
  refine ⟨fun pins s σ H Q I h => ?_⟩
  refine PyProof.Rows.BoolOp_or (thn (ha.run pins s σ H _ I h) fun v s1 ⟨x, H1, I1, r1, q1⟩ => ?_)
  obtain ⟨c, e, q1⟩ := q1
  refine thn (tru_ok pins s1 σ H1 x v (fun c' H2 => if c' = true then Q x H2 else tb σ H2 Q) I1 r1 ⟨c, e, q1⟩) fun c' s2 ⟨H2, I2, q2⟩ => ?_
  by_cases z : c' = true <;> dsimp only at q2
  · rw [if_pos z] at q2 ⊢; exact ⟨x, H2, I2, r1, q2⟩
  · rw [if_neg z] at q2 ⊢; exact hb.run pins s2 σ H2 Q I2 q2
theorem tru_rep {K : PySem.W.Frag} {F H : Hp} {v : V} {d : D} {k : Bool} (s : Same F H) (h : PRep K F H v d) (e : trD d = some k) : TruV K v H k := by
  cases d with
  | none => cases e; cases h.non; rfl
  | bool b => cases e; cases h.bool; rfl
  | int i => cases e; cases h.int; rfl
  | list xs =>
    cases e
    obtain ⟨p, vs, rfl, hs, r⟩ := h.list s
    exact .inl ⟨vs, hs, by cases r <;> rfl⟩
  | tuple xs =>
    cases e
    obtain ⟨p, vs, rfl, hs, r⟩ := h.tup s
    exact .inr (.inl ⟨vs, hs, by cases r <;> rfl⟩)
  | _ => cases e
theorem dx_orT (ha : DX X W a fa) (hb : DX X W (.BoolOp .Or (b :: rest) pos) fb) : DX X W (.BoolOp .Or (a :: b :: rest) pos) (eOrT fa fb) := by
  obtain ⟨ta, pa, qa⟩ := ha.ex
  obtain ⟨tb, pb, qb⟩ := hb.ex
  refine ⟨_, pe_orG pa pb, fun G en F H σ Q R k => qa G en F H σ _ R (k.bind fun x e1 v F1 H1 R1 s1 o1 q1 => ?_)⟩
  cases z : (res e1 x).bind trD with
  | none => rw [z] at q1; exact q1.elim
  | some b =>
    rw [z] at q1
    obtain ⟨d, z1, z2⟩ := Option.bind_eq_some_iff.1 z
    refine ⟨b, tru_rep R1.fh (res_ok R1 o1 z1) z2, ?_⟩
    cases b with
    | true => rw [if_pos rfl]; exact q1 _ F1 H1 R1 (.refl _) o1
    | false => rw [if_neg Bool.false_ne_true]; exact qb G e1 F1 H1 σ _ R1 q1
end
def orT (a : A) (g : En → M.R A) (e : En) : Option Bool → M.R A
  | some true => .ok a e
  | some false => g e
  | none => .bad
@[simp] theorem orT_t (a : A) (g : En → M.R A) (e : En) : orT a g e (some true) = .ok a e := rfl
@[simp] theorem orT_f (a : A) (g : En → M.R A) (e : En) : orT a g e (some false) = g e := rfl
@[simp] theorem eOrT_r (fa fb : Ev A) (e : En) : eOrT fa fb e = (fa e).bind fun a e1 => orT a fb e1 ((res e1 a).bind trD) := by
  unfold eOrT; refine congrArg _ ?_; funext a e1; cases (res e1 a).bind trD with
  | none => rfl
  | some b => cases b <;> rfl
@[simp] theorem trD_n : trD .none = some false := rfl
@[simp] theorem trD_b (b : Bool) : trD (.bool b) = some b := rfl
@[simp] theorem trD_i (i : Int) : trD (.int i) = some (i != 0) := rfl
@[simp] theorem trD_l (xs : List D) : trD (.list xs) = some (!xs.isEmpty) := rfl
@[simp] theorem trD_t (xs : List D) : trD (.tuple xs) = some (!xs.isEmpty) := rfl
end M
set_option Elab.async false
set_option linter.all false
set_option maxRecDepth 100000
/-! M33: min of a list of data of one kind -/
namespace M
open PySem PySem.Spec L2 PyProof.Rows
open Classical in
noncomputable def dMin : D → Option D
  | .list (x :: xs) => if PySem.W.AlikeAll (x :: xs) ∧ nds (x :: xs) = true ∧ PyData.depthAll (x :: xs) ≤ 60 then some (PySem.W.minD x xs) else none
  | _ => none
theorem dMin_l {x : D} {xs : List D} (h1 : PySem.W.AlikeAll (x :: xs)) (h2 : nds (x :: xs) = true) (h3 : PyData.depthAll (x :: xs) ≤ 60) : dMin (.list (x :: xs)) = some (PySem.W.minD x xs) := by
  unfold dMin; simp only; rw [if_pos ⟨h1, h2, h3⟩]
section
variable {X : Cx} {K : PySem.W.Frag} {W : WX} {a : Expr} {fa : Ev A} {pos p : Pos}
def rMinD (K : PySem.W.Frag) : List V → Hp → VK → Prop := fun vs H Q => ∃ (a : Addr) (xs : List V) (d : D) (ds : List D), vs = [.ref a] ∧ SqL K H a xs ∧ DpAll K H xs (d :: ds) ∧ PySem.W.AlikeAll (d :: ds) ∧ PyData.depthAll (d :: ds) ≤ 60 ∧
  ∀ (i : Nat) (v : V), xs[i]? = some v → (d :: ds)[i]? = some (PySem.W.minD d ds) → Q v H
theorem vals_back : ∀ {xs : List V} {us : List Value} {i : Nat} {u : Value}, Vals xs us → us[i]? = some u → ∃ x, xs[i]? = some x ∧ RelV x u
  | _, _, _, _, .nil, e => by simp at e
  | _, _, 0, _, .cons r _, e => by simp at e; subst e; exact ⟨_, rfl, r⟩
  | _, _, i + 1, _, .cons _ t, e => by
    obtain ⟨x, a, b⟩ := vals_back (i := i) t (by simpa using e)
    exact ⟨x, by simpa using a, b⟩
theorem call_minD (hc : X.calm = true) (hu : X.A.units + 64 < cLine) : CallR X (.builtin "min") (rMinD X.K) := by
  intro pins s σ H vs us Q I r h
  obtain ⟨a, xs, d, ds, rfl, hs, dp, al, hd, q⟩ := h
  obtain ⟨its, rv, hl, _⟩ := I.list hs
  rw [Vals.ref1 r]
  obtain ⟨as, rd⟩ := Dp.readsAll I _ _ _ dp rv
  refine PySem.W.min_list_data (I.ok.hd hc) hl.isList (as := as) rd al (by omega) fun i v h' tk bs hv rr hk => ?_
  have hv' : its[i]? = some v := by simpa using hv
  obtain ⟨x, e1, e2⟩ := vals_back rv hv'
  obtain ⟨bs2, r2, il, _⟩ := PySem.W.readsAll_at rd i v hv'
  have r3 := PySem.W.reads_keeps hk r2
  have e3 := (Reads.unique r3 _ _ rr).1
  refine ⟨x, H, I.kept hk, e2, q i x e1 ?_⟩
  rw [List.getElem?_eq_getElem il]
  rw [List.getD_eq_getElem?_getD, List.getElem?_eq_getElem il] at e3
  exact congrArg some e3
theorem fnd_minD : FnD K (rMinD K) (f1 dMin) := by
  intro F H xs ds q Q sF hx hg0 k
  obtain ⟨d, rfl, hg⟩ := f1_some hg0
  obtain ⟨v, rfl, hv⟩ := preps1 hx
  unfold dMin at hg
  split at hg
  · rename_i x xs
    split at hg
    · rename_i hz
      cases hg
      obtain ⟨z1, z2, z3⟩ := hz
      obtain ⟨p, vs, rfl, hs, r⟩ := hv.list sF
      have rp : Reps K H vs (x :: xs) := Reps.mono sF r
      refine ⟨p, vs, x, xs, rfl, hs, Reps.dp rp z2, z1, z3, fun i v e1 e2 => ?_⟩
      obtain ⟨w, a1, a2⟩ := r.get e2
      rw [e1] at a1
      cases a1
      exact k _ F H (.refl sF) a2
    · cases hg
  · cases hg
theorem dx_minL (hc : X.calm = true) (hu : X.A.units + 64 < cLine) (ha : DX X W a fa) (hm : X.mg "min" = none) (hg : Gl X "min" := by rfl) (he : starEach [a] X.env = (false, eval a X.env) :: starEach [] X.env := by rfl) (hpl : (backTo pos (starEach [] X.env)).any (·.1) = false := by rfl) : DX X W (.Call (.Name "min" p) [a] [] pos) (eFn (f1 dMin) (eCons fa eNil)) :=
  dx_fnB (call_minD hc hu) fnd_minD hg hm (by decide +kernel) (da_cons ha da_nil he) (by decide) (by decide) he hpl
end
end M
set_option Elab.async false
set_option linter.all false
set_option maxRecDepth 100000
/-! M34: an own list, lent while an expression runs that tells tuples of plain things -/
namespace M
noncomputable section
open PySem PySem.Spec L2 PyProof.Rows
mutual
def tupO : D → Bool
  | .none => true
  | .bool _ => true
  | .int _ => true
  | .str _ => true
  | .tuple xs => tupOs xs
  | .list _ => false
  | .dict _ => false
def tupOs : List D → Bool
  | [] => true
  | x :: xs => tupO x && tupOs xs
end
theorem hid_rd {K : PySem.W.Frag} {F : Hp} {p a : Addr} {ws xs : List V} (hF : F p = some (.lst ws)) (h : SqT K F a xs) : SqT K (hidA F p) a xs := by
  rcases h with h | h
  · refine .inl ?_
    rcases h with h | ⟨o, h⟩
    · have ne : a ≠ p := fun z => by rw [z, hF] at h; cases h
      exact .inl ((hidA_ne ne).trans h)
    · have ne : a ≠ p := fun z => by rw [z, hF] at h; cases h
      exact .inr ⟨o, (hidA_ne ne).trans h⟩
  · exact .inr h
mutual
theorem tup_rep {K : PySem.W.Frag} {F : Hp} {p : Addr} {ws : List V} (hF : F p = some (.lst ws)) : ∀ {v : V} {d : D}, Rep K F v d → tupO d = true → Rep K (hidA F p) v d
  | _, _, .non, _ => .non
  | _, _, .bl b, _ => .bl b
  | _, _, .int i, _ => .int i
  | _, _, .str x, _ => .str x
  | _, _, .lst _ _, e => by simp [tupO] at e
  | _, _, .tup h r, e => .tup (hid_rd hF h) (tup_reps hF r (by simpa [tupO] using e))
  | _, _, .dK _ _, e => by simp [tupO] at e
  | _, _, .dT _ _, e => by simp [tupO] at e
theorem tup_reps {K : PySem.W.Frag} {F : Hp} {p : Addr} {ws : List V} (hF : F p = some (.lst ws)) : ∀ {vs : List V} {ds : List D}, Reps K F vs ds → tupOs ds = true → Reps K (hidA F p) vs ds
  | _, _, .nil, _ => .nil
  | _, _, .cons h r, e => by
    simp only [tupOs, Bool.and_eq_true] at e
    exact .cons (tup_rep hF h e.1) (tup_reps hF r e.2)
end
def isLstD : D → Bool
  | .list _ => true
  | _ => false
open Classical in
def viewEndT (i : Nat) (b : Bool) (d : D) (e : En) (a : A) (e2 : En) : M.R A := match a with
  | .sh q => if isLstD d = true ∧ tupO q = true ∧ okE i e e2 then .ok (.sh q) (e2.set i (.ow b d)) else if b = false then .ok (.sh q) e2 else .bad
  | _ => .bad
def eViewT (i : Nat) (f : Ev A) : Ev A := fun e => match e[i]? with
  | some (.ow b d) => (f (e.set i (.sh d))).nox.bind fun a e2 => viewEndT i b d e a e2
  | _ => f e
theorem dx_viewT (i : Nat) {X : Cx} {a : Expr} {f : Ev A} (h : DX X WX0 a f) : DX X WX0 a (eViewT i f) := by
  obtain ⟨t, p, q⟩ := h.ex
  refine ⟨t, p, fun G en F H σ Q R k => ?_⟩
  unfold eViewT at k
  split at k
  · rename_i b d e
    obtain ⟨pa, h1, h2, h3⟩ := R.owV e
    obtain ⟨o, ho⟩ := h3.some
    obtain ⟨R1, s1⟩ := R.lendR e h1 ho
    refine q (G.lendR pa) _ _ H σ Q R1 ?_
    cases z : f (en.set i (.sh d)) with
    | bad => rw [z] at k; exact k
    | ex x e2 => rw [z] at k; exact (show False from k).elim
    | ok a e2 =>
      rw [z] at k
      intro v F2 H2 R2 s2 o2
      cases a with
      | bor j => exact k.elim
      | sh qd =>
        have k' : PE1 X WX0 G F σ (viewEndT i b d en (.sh qd) e2) Q := k
        unfold viewEndT at k'
        dsimp only at k'
        split at k'
        · rename_i hz
          obtain ⟨z0, z1, z2⟩ := hz
          obtain ⟨R3, s3⟩ := Rel.backR R e h1 ho R2 s2 z2
          cases d with
          | list ds =>
            obtain ⟨ws, hw, _⟩ := h3
            rw [ho] at hw
            cases hw
            exact k' v _ H2 R3 s3 (tup_rep (s2 pa _ upd_same) o2 z1)
          | _ => cases z0
        · split at k'
          · rename_i hb
            subst hb
            exact k' v F2 H2 (Rel.keepR R e h1 R2) (s1.trans s2) o2
          · exact k'.elim
  · exact q G en F H σ Q R k
def viewSlT (i : Nat) (f : Ev A) (e : En) : Option Sl → M.R A
  | some (.ow b d) => (f (e.set i (.sh d))).nox.bind fun a e2 => viewEndT i b d e a e2
  | _ => f e
@[simp] theorem eViewT_r (i : Nat) (f : Ev A) (e : En) : eViewT i f e = viewSlT i f e e[i]? := by unfold eViewT viewSlT; rfl
@[simp] theorem viewSlT_ow (i : Nat) (f : Ev A) (e : En) (b : Bool) (d : D) : viewSlT i f e (some (.ow b d)) = (f (e.set i (.sh d))).nox.bind fun a e2 => viewEndT i b d e a e2 := rfl
@[simp] theorem viewSlT_sh (i : Nat) (f : Ev A) (e : En) (d : D) : viewSlT i f e (some (.sh d)) = f e := rfl
theorem viewEndT_ok (i : Nat) (b : Bool) (xs : List D) (e : En) (q : D) (e2 : En) (hf : tupO q = true) (h : okE i e e2) : viewEndT i b (.list xs) e (.sh q) e2 = .ok (.sh q) (e2.set i (.ow b (.list xs))) := if_pos ⟨rfl, hf, h⟩
end
end M
set_option Elab.async false
set_option linter.all false
set_option maxRecDepth 100000
/-! M35: sorted of a list of data of one kind -/
namespace M
open PySem PySem.Spec L2 PyProof.Rows
abbrev leD : D → D → Bool := PySem.W.dataLe false (fun d : D => d)
open Classical in
noncomputable def dSorted : D → Option D
  | .list xs => if PySem.W.AllAlike xs ∧ PySem.W.Sortable xs ∧ nds xs = true ∧ PyData.depthAll xs ≤ 50 ∧ small xs.length = true then some (.list (xs.mergeSort leD)) else none
  | _ => none
theorem dSorted_l {xs : List D} (h1 : PySem.W.AllAlike xs) (h2 : PySem.W.Sortable xs) (h3 : nds xs = true) (h4 : PyData.depthAll xs ≤ 50) (h5 : xs.length ≤ 1000000) : dSorted (.list xs) = some (.list (xs.mergeSort leD)) := by
  unfold dSorted; simp only; rw [if_pos ⟨h1, h2, h3, h4, by rw [small_lit]; exact decide_eq_true h5⟩]
section
variable {X : Cx} {K : PySem.W.Frag} {W : WX} {a : Expr} {fa : Ev A} {pos p : Pos}
abbrev leP : V × D → V × D → Bool := PySem.W.dataLe false (fun b : V × D => b.2)
def rSortD (K : PySem.W.Frag) : List V → Hp → VK → Prop := fun vs H Q => ∃ (a : Addr) (bs : List (V × D)), vs = [.ref a] ∧ SqL K H a (bs.map (·.1)) ∧ DpAll K H (bs.map (·.1)) (bs.map (·.2)) ∧ PySem.W.AllAlike (bs.map (·.2)) ∧ PySem.W.Sortable (bs.map (·.2)) ∧
  bs.length ≤ sizeLine ∧ PyData.depthAll (bs.map (·.2)) ≤ 50 ∧ ∀ p, H p = none → Q (.ref p) (upd H p (.lst ((bs.mergeSort leP).map (·.1))))
theorem vals_each : ∀ {bs : List (V × D)} {us : List Value}, Vals (bs.map (·.1)) us → PySem.W.EachIs (fun (u : Value) (b : V × D) => RelV b.1 u) us bs
  | [], _, r => by cases r; exact .nil
  | b :: bs, _, r => by
    cases r with
    | cons h t => exact .cons h (vals_each t)
theorem each_vals : ∀ {bs : List (V × D)} {us : List Value}, PySem.W.EachIs (fun (u : Value) (b : V × D) => RelV b.1 u) us bs → Vals (bs.map (·.1)) us
  | _, _, .nil => .nil
  | _, _, .cons h t => .cons h (each_vals t)
theorem depth_mem : ∀ {xs : List D} {d : D}, d ∈ xs → d.depth ≤ PyData.depthAll xs
  | x :: xs, d, h => by
    rw [PyData.depthAll]
    rcases List.mem_cons.1 h with rfl | h
    · exact Nat.le_max_left _ _
    · exact Nat.le_trans (depth_mem h) (Nat.le_max_right _ _)
theorem call_sortD (hu : X.A.units + 64 < cLine) : CallR X (.builtin "sorted") (rSortD X.K) := by
  intro pins s σ H vs us Q I r h
  obtain ⟨a, bs, rfl, hs, dp, al, so, hz, hd, q⟩ := h
  obtain ⟨its, rv, hl, _⟩ := I.list hs
  rw [Vals.ref1 r]
  obtain ⟨as, rd⟩ := Dp.readsAll I _ _ _ dp rv
  have er := PySem.W.readsAll_each (fun b : V × D => b.2) (bs := bs) rd
  refine PySem.W.sorted_data (enc := fun b : V × D => b.2) hl.isList (vals_each rv) er al so hz (fun b m => ?_) fun out ol eo => ?_
  · have := depth_mem (List.mem_map.2 ⟨b, m, rfl⟩ : b.2 ∈ bs.map (·.2))
    omega
  · obtain ⟨ep, at2⟩ := sortedAll_at s.heap its (List.toArray out)
    have vo := each_vals eo
    have hlen : ((bs.mergeSort leP).map (·.1)).length ≤ sizeLine := by rw [List.length_map, List.length_mergeSort]; exact hz
    have J : Inv X pins σ (upd H (s.heap.objs.size + 1) (.lst ((bs.mergeSort leP).map (·.1)))) { s with heap := sortedAll s.heap its (List.toArray out) } :=
      I.laid (t' := s.toks) (fun _ _ h => sortedAll_old h) (Nat.le_succ _) ⟨hlen, out, ep, vo, at2⟩
    exact ⟨.ref _, _, J, rfl, q _ (I.hok.fresh (Nat.le_succ _))⟩
theorem reps_pairs : ∀ {vs : List V} {ds : List D} {F : Hp}, Reps K F vs ds → ∃ bs : List (V × D), bs.map (·.1) = vs ∧ bs.map (·.2) = ds ∧ ∀ b ∈ bs, Rep K F b.1 b.2
  | _, _, _, .nil => ⟨[], rfl, rfl, by simp⟩
  | _, _, _, .cons (v := v) (d := d) h t => by
    obtain ⟨bs, e1, e2, k⟩ := reps_pairs t
    refine ⟨(v, d) :: bs, by simp [e1], by simp [e2], fun b m => ?_⟩
    rcases List.mem_cons.1 m with rfl | m
    · exact h
    · exact k b m
theorem pairs_reps {F : Hp} : ∀ {bs : List (V × D)}, (∀ b ∈ bs, Rep K F b.1 b.2) → Reps K F (bs.map (·.1)) (bs.map (·.2))
  | [], _ => .nil
  | b :: bs, h => .cons (h b (by simp)) (pairs_reps fun c m => h c (by simp [m]))
theorem fnf_sortD : FnF K (rSortD K) (f1 dSorted) := by
  intro F H xs ds q Q sF hx hg0
  obtain ⟨d, rfl, hg⟩ := f1_some hg0
  clear hg0
  obtain ⟨v, rfl, hv⟩ := preps1 hx
  unfold dSorted at hg
  split at hg
  · rename_i xs
    split at hg
    · rename_i hz
      cases hg
      obtain ⟨z1, z2, z3, z4, z5⟩ := hz
      obtain ⟨p, vs, rfl, hs, r⟩ := hv.list sF
      obtain ⟨bs, rfl, rfl, rb⟩ := reps_pairs r
      have pm : (bs.mergeSort leP).Perm bs := List.mergeSort_perm bs leP
      have e : (bs.mergeSort leP).map (·.2) = (bs.map (·.2)).mergeSort leD := List.map_mergeSort (fun a _ b _ => rfl)
      refine ⟨.lst ((bs.mergeSort leP).map (·.1)), fun p H' h => ⟨_, h, ?_⟩, fun k => ⟨p, bs, rfl, hs, Reps.dp (Reps.mono sF r) z3, z1, z2, by have := line_small z5; rw [List.length_map] at this; exact this, z4, k⟩⟩
      rw [← e]
      exact pairs_reps fun b m => rb b (pm.mem_iff.1 m)
    · cases hg
  · cases hg
theorem do_sortD (hu : X.A.units + 64 < cLine) (ha : DX X W a fa) (hm : X.mg "sorted" = none) (hg : Gl X "sorted" := by rfl) (he : starEach [a] X.env = (false, eval a X.env) :: starEach [] X.env := by rfl) (hpl : (backTo pos (starEach [] X.env)).any (·.1) = false := by rfl) : DO X W (.Call (.Name "sorted" p) [a] [] pos) (oFn (f1 dSorted) (eCons fa eNil)) :=
  do_fnB (call_sortD hu) fnf_sortD hg hm (by decide +kernel) (da_cons ha da_nil he) (by decide) (by decide) he hpl
end
end M
set_option Elab.async false
set_option linter.all false
set_option maxRecDepth 100000
/-! M36: products of far numbers; the end with the script's bits -/
namespace M
noncomputable section
open PySem PySem.Spec L2
def CMulV (i j : Int) : Prop := i.natAbs.log2 + j.natAbs.log2 < 100000000
theorem CMulV.ok {i j : Int} (h : CMulV i j) : IntMulOk i j := by
  have bits (x : Int) : Builtin.Int.intBits x ≤ x.natAbs.log2 + 1 := by
    unfold Builtin.Int.intBits
    split <;> omega
  have bi := bits i
  have bj := bits j
  have hs : i.natAbs.log2 + j.natAbs.log2 < 100000000 := h
  have line : bitsLine = 134217728 := by decide
  unfold IntMulOk Builtin.Int.intTooBig
  rw [line]
  intro z
  have := of_decide_eq_true (Bool.and_eq_true_iff.1 z).2
  omega
def dMulV : D → D → Option D
  | .int a, .int b => if decide (a.natAbs.log2 + b.natAbs.log2 < 100000000) then some (.int (a * b)) else none
  | _, _ => none
theorem dMulV_i (a b : Int) (h : a.natAbs.log2 + b.natAbs.log2 < 100000000) : dMulV (.int a) (.int b) = some (.int (a * b)) := by simp [dMulV, h]
def dMulW (d e : D) : Option D := (dMulV d e).orElse fun _ => dRep d e
theorem dMulW_i (a b : Int) (h : a.natAbs.log2 + b.natAbs.log2 < 100000000) : dMulW (.int a) (.int b) = some (.int (a * b)) := by simp [dMulW, dMulV_i _ _ h]
theorem dMulW_l (a : List D) (e : D) : dMulW (.list a) e = dRep (.list a) e := by cases e <;> rfl
section
variable {X : Cx} {K : PySem.W.Frag} {W : WX} {a b : Expr} {fa fb : Ev A} {pos : Pos}
theorem op_mulV : OpR X (binaryOp .Mult) (rI CMulV fun i j => .int (i * j)) := opI fun _ _ _ _ _ _ _ hc q => PyProof.Rows.mul_int q hc.ok
theorem opd_mulV : OpD K (rI CMulV fun i j => .int (i * j)) dMulV := by
  intro F H x y d e q Q sF hx hy hg k
  unfold dMulV at hg
  split at hg
  · split at hg
    · rename_i hz
      cases hg
      have hz2 := of_decide_eq_true hz
      exact ⟨_, _, hx.int, hy.int, hz2, k _ F H (.refl sF) (.int _)⟩
    · cases hg
  · cases hg
abbrev rMulV (K : PySem.W.Frag) : R2 := fun x y H Q => rI CMulV (fun i j => .int (i * j)) x y H Q ∨ rRepS K x y H Q
theorem op_mulVU : OpR X (binaryOp .Mult) (rMulV X.K) := op_mulV.or op_repS
theorem opd_mulVU : OpD K (rMulV K) dMulW := by
  have h := (opd_mulV (K := K)).or opf_rep.d
  intro F H x y d e q Q sF hx hy hg k
  exact h F H x y d e q Q sF hx hy hg k
theorem dx_mulV (ha : DX X W a fa) (hb : DX X W b fb) : DX X W (.BinOp a .Mult b pos) (eBin dMulW fa fb) := dx_op op_mulVU opd_mulVU ha hb
end
/-- THE END, with the script's bits -/
theorem law_endB {l : PySem.W.OpenLaw} {n k : Nat} {q : Program} {loose : List Str} {XP : (Str → Option Value) → Heap → Prop} {YP : World → Heap → Prop} {d : DefRec} {Kf : Params → PySem.W.Frag} {x : Str} {Fd : List Sl → Rt}
    (h1 : l.most = some n) (h2 : n ≤ sizeLine) (h3 : d.params.defaults = []) (h4 : Room k callerA) (h5 : ∀ (w : World) (h : Heap), YP w h → (Kf w.params).In h)
    (F : ∀ (w : World) (mg : Str → Option Value) (fa : Addr) (h : Heap), (Kf w.params).In h → h.Ns mainGlobals mg → mg d.name = some (.ref fa) →
      ∃ fd : FuncData, (∀ (s : Shared) (u : Value), BindsTo s fd ⟨[u], []⟩ [(x, u)]) ∧ ∀ bs : Heap, (Kf w.params).In bs → bs.Ns mainGlobals mg → FnG l.prog w (Kf w.params) mg bs CX0 k fa fd [x] (spD (Kf w.params) mg 1 Fd))
    (hp : ∀ ns : List Int, ns.length ≤ n → (∀ i ∈ ns, Builtin.Int.intBits i ≤ 1048576) → ∃ as', Fd [.sh (scriptD ns)] = .ret false (.bool true) as') :
    PySem.W.WalkO q loose XP YP l.row.toRowW d [] (fun f us => PySem.call f us) := by
  refine Att.attach_callB h1 h3 fun w s0 s1 mg mb fa o pm cd doc a us ns G Y ho hd hcd hmg hobj hints hlen hbits hg => ?_
  have k1 := h5 w _ Y
  obtain ⟨fd, hb, hF⟩ := F w mg fa _ k1 G.T.g hmg
  refine law_callG k1 G.T.g G.T.b G.T.builtins G.T.nolimit hg hobj hints (Nat.le_trans hlen h2) h4 hF hb (fun H hO hS => ?_) fun H e s2 z => z
  obtain ⟨as', hq⟩ := hp ns hlen hbits
  refine ⟨rfl, H, [.sh (scriptD ns)], [], rfl, ?_, ?_⟩
  · refine ⟨rfl, fun i s e => ?_, fun i j b c d e p z => ?_, fun i b d p z => ?_, .refl _, .refl _, fun a o e => .inl e, fun a o e _ => e, fun a z => ?_, fun i d z => rfl⟩
    · cases i with
      | zero => cases e; exact ⟨.ref a, rfl, .lst hS (reps_ints ns)⟩
      | succ i => simp at e
    · cases i <;> simp at z
    · cases i <;> simp at z
    · simp at z
  · rw [hq]
    intro v F' H' R' s' ro
    unfold RtOk at ro
    rw [if_neg Bool.false_ne_true] at ro
    cases ro
    rfl
theorem bits_log2 {i : Int} (h : Builtin.Int.intBits i ≤ 1048576) : i.natAbs.log2 < 1048577 := by
  unfold Builtin.Int.intBits at h
  split at h
  · rename_i z
    rw [show i = 0 by simpa using z]; decide
  · omega
end
end M
set_option Elab.async false
set_option linter.all false
set_option maxRecDepth 100000
set_option autoImplicit false
/-! M37: zip of a tuple and a list -/
namespace M
noncomputable section
open PySem PySem.Spec PyProof.Rows L2
/-- iterators that stand at their end, whatever their number -/
theorem endT {prog : Program} {w : World} {A : Around} (hh : A.handled = none) (it l : Addr) (items : Array Value) (k : Nat) (hk : items[k]? = none) :
    Draws prog w A it [it, l] k (fun i x => items[i]? = some x) (fun i h => i = k ∧ h.IsTupleIter it l i ∧ h.IsTuple l items) where
  live := fun _ _ st => by obtain ⟨_, ⟨o, ho, _⟩, _⟩ := st; exact ⟨o, ho⟩
  frame := fun _ _ _ st kp => ⟨st.1, st.2.1.at fun o e => kp it (by simp) o e, st.2.2.at fun o e => kp l (by simp) o e⟩
  item := fun i _ _ _ hi st _ => by have := st.1; omega
  done := fun _ _ _ st hE => RZ.nextOf_tuple_end hh st.2.1 st.2.2 hk hE
theorem endL {prog : Program} {w : World} {A : Around} (hh : A.handled = none) (it l : Addr) (items : Array Value) (k : Nat) (hk : items[k]? = none) :
    Draws prog w A it [it, l] k (fun i x => items[i]? = some x) (fun i h => i = k ∧ h.IsListIter it l i ∧ h.IsList l items) where
  live := fun _ _ st => by obtain ⟨_, ⟨o, ho, _⟩, _⟩ := st; exact ⟨o, ho⟩
  frame := fun _ _ _ st kp => ⟨st.1, st.2.1.at fun o e => kp it (by simp) o e, st.2.2.at fun o e => kp l (by simp) o e⟩
  item := fun i _ _ _ hi st _ => by have := st.1; omega
  done := fun _ _ _ st hE => wpAny_nextOf_list_end hh st.2.1 st.2.2 hk hE
def ItzM (K : PySem.W.Frag) (a b : Addr) : It :=
  ⟨fun i H => ∃ (xs ys : List V) (x y : V), SqT K H a xs ∧ SqL K H b ys ∧ xs[i]? = some x ∧ ys[i]? = some y,
    fun i H v H' => ∃ T x y, v = .ref T ∧ H T = none ∧ H' = upd H T (.tup [x, y]) ∧ (∀ xs, SqT K H a xs → xs[i]? = some x) ∧ ∀ ys, SqL K H b ys → ys[i]? = some y,
    fun i H => ∃ xs ys : List V, SqT K H a xs ∧ SqL K H b ys ∧ (xs.length ≤ i ∨ ys.length ≤ i)⟩
theorem zipSep {z TI TO i1 i2 a b : Addr} (D : ZipApart z TI TO i1 i2 a b) : ZipSep2 z TI TO i1 i2 [i1, a] [i2, b] where
  TIz := D.TIz
  TOz := D.TOz
  TITO := D.TITO
  TIi1 := D.TIi1
  mem1 := by simp
  zf1 := by simp [D.i1z.symm, D.l1z.symm]
  Tf1 := by simp [D.TOi1, D.l1TO.symm]
  TIi2 := D.TIi2
  mem2 := by simp
  zf2 := by simp [D.i2z.symm, D.l2z.symm]
  Tf2 := by simp [D.TOi2, D.l2TO.symm]
  sep1_2 := by simp [D.i12, D.l2i1.symm]
  sep2_1 := by simp [D.i12.symm, D.l1i2.symm]
theorem turn_zipM {P : Program} {w : World} {K : PySem.W.Frag} {elts : List Expr} {kk : Nat} {tpos : Pos} {a b z TI TO i1 i2 : Addr} (D : ZipApart z TI TO i1 i2 a b) :
    Turn P w K (.Tuple elts kk tpos) (ItzM K a b) [z, TI, TO, i1, i2] z (fun i h => IsZip h z TI TO .none ∧ IsTupOf2 h TI (.ref i1) (.ref i2) ∧ (∃ x y, IsTupOf2 h TO x y) ∧ h.IsTupleIter i1 a i ∧ h.IsListIter i2 b i) where
  mem := by simp
  obj := fun i h st c hc => by
    obtain ⟨hz, hTI, ⟨x, y, hTO⟩, ⟨o1, e1, _, d1⟩, ⟨o2, e2, _, d2⟩⟩ := st
    have five : c = z ∨ c = TI ∨ c = TO ∨ c = i1 ∨ c = i2 := by simpa using hc
    rcases five with rfl | rfl | rfl | rfl | rfl
    · exact ⟨_, hz, fun v q => nomatch q⟩
    · exact ⟨_, hTI, fun v q => nomatch q⟩
    · exact ⟨_, hTO, fun v q => nomatch q⟩
    · exact ⟨o1, e1, fun v q => by rw [d1] at q; cases q⟩
    · exact ⟨o2, e2, fun v q => by rw [d2] at q; cases q⟩
  keep := fun i h h' st k => by
    obtain ⟨hz, hTI, ⟨x, y, hTO⟩, h1, h2⟩ := st
    refine ⟨k z (by simp) _ hz, k TI (by simp) _ hTI, ⟨x, y, k TO (by simp) _ hTO⟩, ?_, ?_⟩
    · exact h1.at fun o q => k i1 (by simp) o q
    · exact h2.at fun o q => k i2 (by simp) o q
  item := by
    intro X eP ew eK calm i pins s σ H E I hf st go
    subst eP ew eK
    obtain ⟨hz, hTI, ⟨x0, y0, hTO⟩, h1, h2⟩ := st
    obtain ⟨xs, ys, x, y, qx, qy, hx, hy⟩ := go
    obtain ⟨its, rv, pT, _⟩ := I.tuple qx
    obtain ⟨its2, rv2, pL, _⟩ := I.list qy
    obtain ⟨u, hu, ru⟩ := rv.get hx
    obtain ⟨u2, hu2, ru2⟩ := rv2.get hy
    have hh := I.ok.hd calm
    have lz : z < s.heap.objs.size := Heap.lt_size hz
    have s1 : i < its.toArray.size := by simpa using (List.getElem?_eq_some_iff.1 hu).1
    have s2 : i < its2.toArray.size := by simpa using (List.getElem?_eq_some_iff.1 hu2).1
    refine wpAny_pyNext_zipD2_item (zipSep D) (drawsT (A := X.A.in1) hh i1 a D.l1i1 its.toArray) (Draws.list (A := X.A.in1) hh i2 b D.l2i2 its2.toArray) hz hTI hTO ⟨h1, pT⟩ ⟨h2, pL.isList⟩ s1 s2
      fun v1 v2 g tk w1 w2 z' TO' st1 st2 hT hsz hk => ?_
    obtain rfl : u = v1 := by
      have w1' : its[i]? = some v1 := by simpa using w1
      rw [hu] at w1'; cases w1'; rfl
    obtain rfl : u2 = v2 := by
      have w2' : its2[i]? = some v2 := by simpa using w2
      rw [hu2] at w2'; cases w2'; rfl
    refine ⟨_, rfl, wpAny_letOwnedTupleGo_zip (s := { s with heap := g, toks := tk }) z' fun g2 z2 sb => ?_⟩
    have T2 : g2.get? s.heap.objs.size = some { cls := .type "tuple", data := .seq #[u, u2] } := (sb.2 _ (Nat.ne_of_gt lz)).trans hT
    have fresh : ObjOk X.prog X.w (upd H s.heap.objs.size (.tup [x, y])) g2 s.heap.objs.size (.tup [x, y]) :=
      ⟨by show 2 ≤ sizeLine; decide, [u, u2], .cons ru (.cons ru2 .nil), ⟨_, T2, rfl, _, rfl⟩⟩
    have I1 : Inv X pins σ (upd H s.heap.objs.size (.tup [x, y])) { s with heap := g2, toks := tk } :=
      I.turnedNew (t' := tk) (ch := [z, TI, TO, i1, i2]) (fun c o hb q => by
        simp only [List.mem_cons, List.not_mem_nil, or_false, not_or] at hb
        obtain ⟨c1, c2, c3, c4, c5⟩ := hb
        exact (sb.2 c c1).trans (hk c o c1 c3 c4 c5 q)) hf (Nat.le_refl _) fresh
    refine ⟨.ref s.heap.objs.size, _, I1, rfl, ⟨_, x, y, rfl, I.hok.fresh (Nat.le_refl _), rfl, fun l hl => ?_, fun l hl => ?_⟩, ⟨z2, ?_, ⟨u, u2, ?_⟩, ?_, ?_⟩, fun c hcm => ?_⟩
    · rw [I.tuple_inj hl qx]; exact hx
    · rw [I.list_inj hl qy]; exact hy
    · exact (sb.2 _ D.TIz).trans (hk _ _ D.TIz D.TITO D.TIi1 D.TIi2 hTI)
    · exact (sb.2 _ D.TOz).trans TO'
    · exact st1.1.at fun o q => (sb.2 _ D.i1z).trans q
    · exact st2.1.at fun o q => (sb.2 _ D.i2z).trans q
    · have lt : c < s.heap.objs.size := by
        simp only [List.mem_cons, List.not_mem_nil, or_false] at hcm
        rcases hcm with rfl | rfl | rfl | rfl | rfl
        · exact lz
        · exact Heap.lt_size hTI
        · exact Heap.lt_size hTO
        · obtain ⟨_, e1, _⟩ := h1; exact Heap.lt_size e1
        · obtain ⟨_, e2, _⟩ := h2; exact Heap.lt_size e2
      rw [upd_ne (Nat.ne_of_lt lt)]
      exact (hf c hcm).1
  done := by
    intro X eP ew eK calm i pins s σ H E I hf st stop
    subst eP ew eK
    obtain ⟨hz, hTI, ⟨x0, y0, hTO⟩, h1, h2⟩ := st
    obtain ⟨xs, ys, qx, qy, hend⟩ := stop
    obtain ⟨its, rv, pT, _⟩ := I.tuple qx
    obtain ⟨its2, rv2, pL, _⟩ := I.list qy
    have hh := I.ok.hd calm
    have l1 := rv.length
    have l2 := rv2.length
    have fin : ∀ (g : Heap) (tk : Nat), (∀ c o, c ≠ z → c ≠ TO → c ≠ i1 → c ≠ i2 → s.heap.get? c = some o → g.get? c = some o) → Inv X pins σ H { s with heap := g, toks := tk } := fun g tk hk =>
      I.turnedL (t' := tk) (ch := [z, TI, TO, i1, i2]) (fun c o hb q => by
        simp only [List.mem_cons, List.not_mem_nil, or_false, not_or] at hb
        obtain ⟨c1, c2, c3, c4, c5⟩ := hb
        exact hk c o c1 c3 c4 c5 q) hf
    by_cases e1 : its.toArray[i]? = none
    · by_cases e2 : its2.toArray[i]? = none
      · exact wpAny_pyNext_zipD2_end (zipSep D) (endT (A := X.A.in1) hh i1 a its.toArray i e1) (endL (A := X.A.in1) hh i2 b its2.toArray i e2) hz hTI hTO ⟨rfl, h1, pT⟩ ⟨rfl, h2, pL.isList⟩ (Nat.le_refl _) (Nat.le_refl _) (.inl rfl)
          fun g tk hk => ⟨rfl, fin g tk hk⟩
      · have s2 : i < its2.toArray.size := by
          by_cases q : i < its2.toArray.size
          · exact q
          · exact (e2 (Array.getElem?_eq_none (by omega))).elim
        exact wpAny_pyNext_zipD2_end (zipSep D) (endT (A := X.A.in1) hh i1 a its.toArray i e1) (Draws.list (A := X.A.in1) hh i2 b D.l2i2 its2.toArray) hz hTI hTO ⟨rfl, h1, pT⟩ ⟨h2, pL.isList⟩ (Nat.le_refl _) (by omega) (.inl rfl)
          fun g tk hk => ⟨rfl, fin g tk hk⟩
    · have s1 : i < its.toArray.size := by
        by_cases q : i < its.toArray.size
        · exact q
        · exact (e1 (Array.getElem?_eq_none (by omega))).elim
      have s1' : i < its.length := by simpa using s1
      have e2 : its2.toArray[i]? = none := by
        rcases hend with q | q
        · omega
        · exact Array.getElem?_eq_none (by simp; omega)
      exact wpAny_pyNext_zipD2_end (zipSep D) (drawsT (A := X.A.in1) hh i1 a D.l1i1 its.toArray) (endL (A := X.A.in1) hh i2 b its2.toArray i e2) hz hTI hTO ⟨h1, pT⟩ ⟨rfl, h2, pL.isList⟩ (by omega) (Nat.le_refl _) (.inr rfl)
        fun g tk hk => ⟨rfl, fin g tk hk⟩
  self := fun A i s Q E st h => wpAny_pyIter_zip st.1 h
def iZipM (K : PySem.W.Frag) (ta : TA) : TI := fun σ H R => ta σ H fun vs H1 => ∃ a b xs ys, vs = [.ref a, .ref b] ∧ SqT K H1 a xs ∧ SqL K H1 b ys ∧ R (ItzM K a b) H1
theorem pi_zipM {X : Cx} {e e2 : Expr} {ta : TA} {p pos tpos : Pos} {elts : List Expr} {kk : Nat} (hg : Gl X "zip") (hm : X.mg "zip" = none) (ha : PA X [e, e2] ta)
    (hs : starEach [e, e2] X.env = (false, eval e X.env) :: starEach [e2] X.env := by rfl) (hpl : (backTo pos (starEach [e2] X.env)).any (·.1) = false := by rfl) :
    PI X (.Tuple elts kk tpos) (.Call (.Name "zip" p) [e, e2] [] pos) (iZipM X.K ta) := by
  refine ⟨fun pins s σ H R I h => ?_⟩
  refine Call_ (ld_blt I hg hm PyProof.Rows.boot_zip (PyProof.Rows.callWith_type1 (thn (ha.run pos pins s σ H _ I h) fun us s1 ⟨vs, H1, I1, r1, q1⟩ => ?_) hs hpl))
  obtain ⟨a, b, xs, ys, rfl, qx, qy, q⟩ := q1
  obtain ⟨ua, us, rfl, ra, r2⟩ : ∃ u us', us = u :: us' ∧ RelV (.ref a) u ∧ Vals [.ref b] us' := by cases r1 with | cons r t => exact ⟨_, _, rfl, r, t⟩
  obtain ⟨ub, rfl, rb⟩ := vals1 r2
  cases ra
  cases rb
  obtain ⟨its, rv, pT, _⟩ := I1.tuple qx
  obtain ⟨its2, rv2, pL, _⟩ := I1.list qy
  obtain ⟨o1, ho1, _⟩ := id pT
  refine zip_begins2 (begins_tuple a its.toArray) (begins_list b its2.toArray) pT pL.isList fun g hz hTI hTO h1 h2 hsz hk => wpAny_pyIter_zip hz ?_
  have I2 : Inv X pins σ H1 { s1 with heap := g } := I1.kept (t' := s1.toks) hk
  refine ⟨s1.heap.objs.size + 4, [s1.heap.objs.size + 4, s1.heap.objs.size + 2, s1.heap.objs.size + 3, s1.heap.objs.size, s1.heap.objs.size + 1], _, _, H1, rfl, I2,
    turn_zipM (PySem.W.ktu_apart s1.heap.objs.size a b (Heap.lt_size ho1) pL.lt), ⟨hz, hTI, ⟨_, _, hTO⟩, ⟨_, h1, rfl, rfl⟩, ⟨_, h2, rfl, rfl⟩⟩, fun c hcm => ?_, q⟩
  have le : s1.heap.objs.size ≤ c := by
    simp only [List.mem_cons, List.not_mem_nil, or_false] at hcm
    rcases hcm with rfl | rfl | rfl | rfl | rfl <;> omega
  exact I1.fpOk le (I1.hok.fresh le)
theorem itOk_zM {K : PySem.W.Frag} {F : Hp} {a b : Addr} {vs ws : List V} {ds es : List D} (h : SqT K F a vs) (r : Reps K F vs ds) (h' : SqL K F b ws) (r' : Reps K F ws es) : ItOk K (ItzM K a b) F (zipD ds es) := by
  intro i F1 H1 s1 s2
  have hs : SqT K H1 a vs := SqT.mono (s1.trans s2) h
  have hs' : SqL K H1 b ws := (s1.trans s2).seq h'
  rw [zipD_get]
  refine ⟨fun d e => ?_, fun e => ⟨vs, ws, hs, hs', ?_⟩⟩
  · obtain ⟨x, q1, e⟩ := Option.bind_eq_some_iff.mp e
    obtain ⟨y, q2, e⟩ := Option.bind_eq_some_iff.mp e
    cases e
    obtain ⟨v, h1, h2⟩ := r.get q1
    obtain ⟨w, h3, h4⟩ := r'.get q2
    refine ⟨⟨vs, ws, v, w, hs, hs', h1, h3⟩, fun x H2 hy => ?_⟩
    obtain ⟨T, y1, y2, rfl, nT, rfl, hy1, hy2⟩ := hy
    have ex := hy1 vs hs
    rw [h1] at ex
    cases ex
    have ey := hy2 ws hs'
    rw [h3] at ey
    cases ey
    have g := Grow.alloc (o := .tup [v, w]) s2 nT
    exact ⟨_, g, .tup (.inl (.inl upd_same)) (.cons (h2.mono (s1.trans g.f)) (.cons (h4.mono (s1.trans g.f)) .nil))⟩
  · rw [r.length, r'.length]
    cases q1 : ds[i]? with
    | none => exact .inl (List.getElem?_eq_none_iff.mp q1)
    | some x =>
      cases q2 : es[i]? with
      | none => exact .inr (List.getElem?_eq_none_iff.mp q2)
      | some y => rw [q1, q2] at e; cases e
def zipOfM : List D → En → M.R (List D)
  | [.tuple xs, .list ys], e => .ok (zipD xs ys) e
  | _, _ => .bad
def iZM (fs : Ev (List A)) : Ev (List D) := fun e => (eHolds fs e).bind zipOfM
@[simp] theorem iZM_r (fs : Ev (List A)) (e : En) : iZM fs e = (eHolds fs e).bind fun ds e1 => zipOfM ds e1 := rfl
@[simp] theorem zipOfM_m (xs ys : List D) (e : En) : zipOfM [.tuple xs, .list ys] e = .ok (zipD xs ys) e := rfl
theorem di_zipM {X : Cx} {W : WX} {a b : Expr} {p pos tpos : Pos} {fs : Ev (List A)} {elts : List Expr} {kk : Nat} (ha : DA X W [a, b] fs) (hm : X.mg "zip" = none) (hg : Gl X "zip" := by rfl) (hs : starEach [a, b] X.env = (false, eval a X.env) :: starEach [b] X.env := by rfl) (hpl : (backTo pos (starEach [b] X.env)).any (·.1) = false := by rfl) : DI X W (.Tuple elts kk tpos) (.Call (.Name "zip" p) [a, b] [] pos) (iZM fs) := by
  obtain ⟨t, pt, q⟩ := ha.ex
  refine ⟨_, pi_zipM hg hm pt hs hpl, fun G en F H σ R' R h => holdsI_run q R h fun ds e vs F1 H1 R1 s1 rp k => ?_⟩
  unfold zipOfM at k
  split at k
  · rename_i xs ys e1
    cases rp with
    | cons r1 rp =>
      obtain ⟨w, rfl, r2⟩ := rp.one_of
      cases r1 with
      | tup h1 q1 =>
        cases r2 with
        | lst h2 q2 => exact ⟨_, _, _, _, rfl, SqT.mono R1.fh h1, R1.fh.seq h2, k _ F1 H1 R1 (.refl _) (itOk_zM h1 q1 h2 q2)⟩
  · exact k.elim
end
end M
set_option Elab.async false
set_option linter.all false
set_option autoImplicit false
/-! T1: least costs from a place: what they are, that they are one, that going round often enough finds them. No program in sight. -/
namespace TD
/-- arcs: G u v c says that a tie leads from u to v at the cost c -/
abbrev Gf := Nat → Nat → Int → Prop
abbrev Lab := List (Option Int)
def Le (x : Option Int) (y : Int) : Prop := ∃ z, x = some z ∧ z ≤ y
structure Dist (n : Nat) (G : Gf) (s : Nat) (f : Lab) : Prop where
  len : f.length = n
  s0 : f[s]? = some (some 0)
  rel : ∀ (u v : Nat) (c x : Int), f[u]? = some (some x) → G u v c → ∃ y : Int, f[v]? = some (some y) ∧ y ≤ x + c
  why : ∀ (v : Nat) (y : Int), f[v]? = some (some y) → (v = s ∧ y = 0) ∨ ∃ (u : Nat) (x c : Int), f[u]? = some (some x) ∧ G u v c ∧ y = x + c
  pos : ∀ (v : Nat) (y : Int), f[v]? = some (some y) → 0 ≤ y
def GOk (n : Nat) (G : Gf) : Prop := ∀ u v c, G u v c → v < n ∧ 0 < c
theorem dist_le {n : Nat} {G : Gf} {s : Nat} {f g : Lab} (hG : GOk n G) (hf : Dist n G s f) (hg : Dist n G s g) : ∀ (m : Nat) (v : Nat) (y : Int), y.toNat ≤ m → f[v]? = some (some y) → ∃ z, g[v]? = some (some z) ∧ z ≤ y := by
  intro m
  induction m with
  | zero =>
    intro v y hm h
    have h0 := hf.pos v y h
    rcases hf.why v y h with ⟨rfl, rfl⟩ | ⟨u, x, c, h1, h2, h3⟩
    · exact ⟨0, hg.s0, by omega⟩
    · have := hf.pos u x h1; have := (hG u v c h2).2; omega
  | succ m ih =>
    intro v y hm h
    have h0 := hf.pos v y h
    rcases hf.why v y h with ⟨rfl, rfl⟩ | ⟨u, x, c, h1, h2, h3⟩
    · exact ⟨0, hg.s0, by omega⟩
    · have a := hf.pos u x h1; have b := (hG u v c h2).2
      obtain ⟨z, e, l⟩ := ih u x (by omega) h1
      obtain ⟨y', e', l'⟩ := hg.rel u v c z e h2
      exact ⟨y', e', by omega⟩
theorem dist_one {n : Nat} {G : Gf} {s : Nat} {f g : Lab} (hG : GOk n G) (hf : Dist n G s f) (hg : Dist n G s g) : f = g := by
  apply List.ext_getElem?
  intro v
  cases e1 : f[v]? with
  | none =>
    rw [List.getElem?_eq_none_iff, hf.len] at e1
    rw [List.getElem?_eq_none (by rw [hg.len]; omega)]
  | some o =>
    have hv : v < n := by have := (List.getElem?_eq_some_iff.1 e1).1; rw [hf.len] at this; exact this
    cases e2 : g[v]? with
    | none => rw [List.getElem?_eq_none_iff, hg.len] at e2; omega
    | some o' =>
      cases o with
      | none =>
        cases o' with
        | none => rfl
        | some y =>
          obtain ⟨z, w, _⟩ := dist_le hG hg hf _ v y (Nat.le_refl _) e2
          rw [e1] at w; cases w
      | some x =>
        obtain ⟨z, w, l⟩ := dist_le hG hf hg _ v x (Nat.le_refl _) e1
        obtain ⟨z', w', l'⟩ := dist_le hG hg hf _ v z (Nat.le_refl _) w
        rw [e1] at w'
        cases w'
        rw [← e2, w, show z = x by omega]
/-! ### relaxing -/
def better (x : Int) : Option Int → Bool
  | none => true
  | some y => decide (x < y)
def relax (u v : Nat) (c : Int) (f : Lab) : Lab := match f[u]?.join with
  | none => f
  | some x => if better (x + c) f[v]?.join then f.set v (some (x + c)) else f
theorem join_get {f : Lab} {v : Nat} {x : Int} : f[v]?.join = some x ↔ f[v]? = some (some x) := by
  cases h : f[v]? with
  | none => simp
  | some o => simp
theorem relax_len (u v : Nat) (c : Int) (f : Lab) : (relax u v c f).length = f.length := by
  unfold relax; split
  · rfl
  · split <;> simp
/-- between: each number is that of some road (no less than the least), and no less than d -/
structure Above (d f : Lab) : Prop where
  len : f.length = d.length
  ge : ∀ (v : Nat) (y : Int), f[v]? = some (some y) → ∃ z, d[v]? = some (some z) ∧ z ≤ y
theorem relax_above {n : Nat} {G : Gf} {s : Nat} {d f : Lab} (hd : Dist n G s d) (h : Above d f) {u v : Nat} {c : Int} (g : G u v c) : Above d (relax u v c f) := by
  refine ⟨by rw [relax_len]; exact h.len, fun w y e => ?_⟩
  unfold relax at e
  split at e
  · exact h.ge w y e
  · rename_i x hx
    split at e
    · by_cases q : v = w
      · subst q
        by_cases hl : v < f.length
        · rw [List.getElem?_set_self hl] at e
          cases e
          obtain ⟨z, e1, l1⟩ := h.ge u x (join_get.1 hx)
          obtain ⟨z', e2, l2⟩ := hd.rel u v c z e1 g
          exact ⟨z', e2, by omega⟩
        · rw [List.getElem?_eq_none (by rw [List.length_set]; omega)] at e; cases e
      · rw [List.getElem?_set_ne q] at e; exact h.ge w y e
    · exact h.ge w y e
/-- numbers only fall -/
def Down (f g : Lab) : Prop := ∀ (v : Nat) (y : Int), f[v]? = some (some y) → ∃ z, g[v]? = some (some z) ∧ z ≤ y
theorem Down.refl (f : Lab) : Down f f := fun v y e => ⟨y, e, by omega⟩
theorem Down.trans {f g h : Lab} (a : Down f g) (b : Down g h) : Down f h := fun v y e => by
  obtain ⟨z, e1, l1⟩ := a v y e
  obtain ⟨z', e2, l2⟩ := b v z e1
  exact ⟨z', e2, by omega⟩
theorem relax_down (u v : Nat) (c : Int) (f : Lab) : Down f (relax u v c f) := by
  intro w y e
  unfold relax
  split
  · exact ⟨y, e, by omega⟩
  · rename_i x hx
    split
    · rename_i hb
      by_cases q : v = w
      · subst q
        have hl : v < f.length := (List.getElem?_eq_some_iff.1 e).1
        refine ⟨x + c, List.getElem?_set_self hl, ?_⟩
        have : f[v]?.join = some y := join_get.2 e
        rw [this] at hb
        simp [better] at hb
        omega
      · exact ⟨y, by rw [List.getElem?_set_ne q]; exact e, by omega⟩
    · exact ⟨y, e, by omega⟩
theorem relax_done {u v : Nat} {c x : Int} {f : Lab} (e : f[u]? = some (some x)) (hv : v < f.length) : ∃ z, (relax u v c f)[v]? = some (some z) ∧ z ≤ x + c := by
  unfold relax
  rw [join_get.2 e]
  simp only
  by_cases hb : better (x + c) f[v]?.join = true
  · rw [if_pos hb]; exact ⟨x + c, List.getElem?_set_self hv, by omega⟩
  · rw [if_neg hb]
    have q : f[v]? = some f[v] := List.getElem?_eq_getElem hv
    cases w : f[v] with
    | none => rw [q, w] at hb; exact absurd rfl hb
    | some y =>
      rw [w] at q
      rw [q] at hb
      simp [better] at hb
      exact ⟨y, q, by omega⟩
/-- a list of arcs relaxed one behind the other -/
abbrev Arc := Nat × Nat × Int
def relaxs (L : List Arc) (f : Lab) : Lab := L.foldl (fun f a => relax a.1 a.2.1 a.2.2 f) f
theorem relaxs_len : ∀ (L : List Arc) (f : Lab), (relaxs L f).length = f.length
  | [], _ => rfl
  | a :: L, f => by
    show (relaxs L (relax a.1 a.2.1 a.2.2 f)).length = _
    rw [relaxs_len L, relax_len]
theorem relaxs_above {n : Nat} {G : Gf} {s : Nat} {d : Lab} (hd : Dist n G s d) : ∀ (L : List Arc) (f : Lab), (∀ a ∈ L, G a.1 a.2.1 a.2.2) → Above d f → Above d (relaxs L f)
  | [], _, _, h => h
  | a :: L, f, hL, h => relaxs_above hd L _ (fun b m => hL b (List.mem_cons_of_mem _ m)) (relax_above hd h (hL a (List.mem_cons_self ..)))
theorem relaxs_down : ∀ (L : List Arc) (f : Lab), Down f (relaxs L f)
  | [], f => Down.refl f
  | a :: L, f => (relax_down a.1 a.2.1 a.2.2 f).trans (relaxs_down L _)
theorem relaxs_done : ∀ (L : List Arc) (f : Lab) (u v : Nat) (c x : Int), (u, v, c) ∈ L → f[u]? = some (some x) → v < f.length → ∃ z, (relaxs L f)[v]? = some (some z) ∧ z ≤ x + c
  | [], _, _, _, _, _, h, _, _ => by simp at h
  | a :: L, f, u, v, c, x, h, e, hv => by
    show ∃ z, (relaxs L (relax a.1 a.2.1 a.2.2 f))[v]? = _ ∧ _
    rcases List.mem_cons.1 h with rfl | h
    · obtain ⟨z, e1, l1⟩ := relax_done (c := c) e hv
      obtain ⟨z', e2, l2⟩ := relaxs_down L _ v z e1
      exact ⟨z', e2, by omega⟩
    · obtain ⟨z, e1, l1⟩ := relax_down a.1 a.2.1 a.2.2 f u x e
      obtain ⟨z', e2, l2⟩ := relaxs_done L _ u v c z h e1 (by rw [relax_len]; exact hv)
      exact ⟨z', e2, by omega⟩
def rounds (L : List Arc) : Nat → Lab → Lab
  | 0, f => f
  | t + 1, f => rounds L t (relaxs L f)
def start (n s : Nat) : Lab := (List.replicate n none).set s (some 0)
/-- how many places are nearer -/
def nearer (d : Lab) (y : Int) : Nat := d.countP fun o => match o with
  | some x => decide (x < y)
  | none => false
theorem countP_lt {α : Type} {p q : α → Bool} : ∀ {l : List α} {a : α}, (∀ x ∈ l, p x = true → q x = true) → a ∈ l → q a = true → p a = false → l.countP p < l.countP q
  | [], _, _, h, _, _ => by simp at h
  | b :: l, a, hpq, hm, h1, h2 => by
    have mono : l.countP p ≤ l.countP q := List.countP_mono_left fun x hx => hpq x (List.mem_cons_of_mem _ hx)
    rw [List.countP_cons, List.countP_cons]
    rcases List.mem_cons.1 hm with rfl | hm
    · rw [h1, h2]; simp; omega
    · have := countP_lt (fun x hx => hpq x (List.mem_cons_of_mem _ hx)) hm h1 h2
      have hb := hpq b (List.mem_cons_self ..)
      by_cases hp : p b = true
      · rw [if_pos hp, if_pos (hb hp)]; omega
      · rw [if_neg hp]; split <;> omega
theorem nearer_lt {d : Lab} {u : Nat} {x y : Int} (e : d[u]? = some (some x)) (h : x < y) : nearer d x < nearer d y := by
  refine countP_lt (a := some x) (fun o _ => ?_) (List.mem_of_getElem? e) (by simp [h]) (by simp)
  cases o with
  | none => simp
  | some z => simp; omega
theorem nearer_le (d : Lab) (y : Int) : nearer d y ≤ d.length := List.countP_le_length
theorem nearer_lt_len {d : Lab} {v : Nat} {y : Int} (e : d[v]? = some (some y)) : nearer d y < d.length := by
  have h := nearer_lt e (Int.lt_add_one_of_le (Int.le_refl y))
  exact Nat.lt_of_lt_of_le h (nearer_le d _)
/-- THE LAW of going round: as often as there are places -/
theorem rounds_at {n : Nat} {G : Gf} {s : Nat} {d : Lab} {L : List Arc} (hG : GOk n G) (hd : Dist n G s d) (hL : ∀ u v c, G u v c → (u, v, c) ∈ L) (hL' : ∀ a ∈ L, G a.1 a.2.1 a.2.2) :
    ∀ (t k : Nat) (f : Lab), 1 ≤ k → Above d f → (∀ (v : Nat) (y : Int), d[v]? = some (some y) → nearer d y < k → f[v]? = some (some y)) → 
      Above d (rounds L t f) ∧ ∀ (v : Nat) (y : Int), d[v]? = some (some y) → nearer d y < k + t → (rounds L t f)[v]? = some (some y)
  | 0, k, f, _, ha, h => ⟨ha, fun v y e l => h v y e l⟩
  | t + 1, k, f, hk, ha, h => by
    obtain ⟨r1, r2⟩ := rounds_at hG hd hL hL' t (k + 1) (relaxs L f) (by omega) (relaxs_above hd L f hL' ha) (fun v y e l => by
      have exact_of : ∀ z : Int, (relaxs L f)[v]? = some (some z) → z ≤ y → (relaxs L f)[v]? = some (some y) := fun z e1 l1 => by
        obtain ⟨z', e2, l2⟩ := (relaxs_above hd L f hL' ha).ge v z e1
        rw [e] at e2
        cases e2
        rw [e1, show z = y by omega]
      rcases hd.why v y e with ⟨rfl, rfl⟩ | ⟨u, x, c, h1, h2, h3⟩
      · have z0 : nearer d 0 = 0 := by
          unfold nearer
          rw [List.countP_eq_zero]
          intro o ho
          cases o with
          | none => simp
          | some x =>
            obtain ⟨i, hi⟩ := List.getElem?_of_mem ho
            have := hd.pos i x hi
            simp; omega
        obtain ⟨z, e1, l1⟩ := relaxs_down L f v 0 (h v 0 e (by omega))
        exact exact_of z e1 l1
      · have lt := nearer_lt h1 (show x < y by have := (hG u v c h2).2; omega)
        have hv : v < f.length := by rw [ha.len, hd.len]; exact (hG u v c h2).1
        obtain ⟨z, e1, l1⟩ := relaxs_done L f u v c x (hL u v c h2) (h u x h1 (by omega)) hv
        exact exact_of z e1 (by omega))
    exact ⟨r1, fun v y e l => r2 v y e (by omega)⟩
theorem above_eq {d f : Lab} (h : Above d f) (h2 : ∀ (v : Nat) (y : Int), d[v]? = some (some y) → f[v]? = some (some y)) : f = d := by
  apply List.ext_getElem?
  intro v
  by_cases hv : v < d.length
  · have e1 : d[v]? = some d[v] := List.getElem?_eq_getElem hv
    cases q : d[v] with
    | some y => rw [q] at e1; rw [h2 v y e1, e1]
    | none =>
      rw [q] at e1
      have e2 : f[v]? = some (f[v]'(by rw [h.len]; exact hv)) := List.getElem?_eq_getElem _
      cases w : (f[v]'(by rw [h.len]; exact hv)) with
      | none => rw [e2, w, e1]
      | some y =>
        rw [w] at e2
        obtain ⟨z, e3, _⟩ := h.ge v y e2
        rw [e1] at e3; cases e3
  · rw [List.getElem?_eq_none (by rw [h.len]; omega), List.getElem?_eq_none (by omega)]
theorem start_get {n s v : Nat} {y : Int} (e : (start n s)[v]? = some (some y)) : v = s ∧ y = 0 := by
  unfold start at e
  by_cases q : s = v
  · subst q
    by_cases h : s < n
    · rw [List.getElem?_set_self (by simpa using h)] at e; cases e; exact ⟨rfl, rfl⟩
    · rw [List.getElem?_eq_none (by simp; omega)] at e; cases e
  · rw [List.getElem?_set_ne q, List.getElem?_replicate] at e
    split at e <;> cases e
theorem start_s {n s : Nat} (h : s < n) : (start n s)[s]? = some (some 0) := by
  unfold start; rw [List.getElem?_set_self (by simpa using h)]
theorem start_len (n s : Nat) : (start n s).length = n := by simp [start]
theorem dist_lt {n : Nat} {G : Gf} {s : Nat} {d : Lab} (hd : Dist n G s d) : s < n := by
  have := (List.getElem?_eq_some_iff.1 hd.s0).1; rw [hd.len] at this; exact this
theorem rounds_dist {n : Nat} {G : Gf} {s : Nat} {d : Lab} {L : List Arc} (hG : GOk n G) (hd : Dist n G s d) (hL : ∀ u v c, G u v c → (u, v, c) ∈ L) (hL' : ∀ a ∈ L, G a.1 a.2.1 a.2.2) :
    rounds L n (start n s) = d := by
  have hs := dist_lt hd
  obtain ⟨r1, r2⟩ := rounds_at hG hd hL hL' n 1 (start n s) (by omega) ⟨by rw [start_len, hd.len], fun v y e => by
    obtain ⟨rfl, rfl⟩ := start_get e
    exact ⟨0, hd.s0, by omega⟩⟩ (fun v y e l => by
    rcases hd.why v y e with ⟨rfl, rfl⟩ | ⟨u, x, c, h1, h2, h3⟩
    · exact start_s hs
    · have := nearer_lt h1 (show x < y by have := (hG u v c h2).2; omega)
      omega)
  exact above_eq r1 fun v y e => r2 v y e (by have := nearer_lt_len e; rw [hd.len] at this; omega)
theorem rounds_fold {α : Type} (L : List Arc) : ∀ (xs : List α) (f : Lab), xs.foldl (fun f _ => relaxs L f) f = rounds L xs.length f
  | [], _ => rfl
  | _ :: xs, f => rounds_fold L xs (relaxs L f)
theorem relaxs_app (L K : List Arc) (f : Lab) : relaxs (L ++ K) f = relaxs K (relaxs L f) := by unfold relaxs; rw [List.foldl_append]
theorem relaxs_flat {α : Type} (F : α → List Arc) : ∀ (xs : List α) (f : Lab), relaxs (xs.flatMap F) f = xs.foldl (fun f x => relaxs (F x) f) f
  | [], _ => rfl
  | x :: xs, f => by rw [List.flatMap_cons, relaxs_app, relaxs_flat F xs]; rfl
/-- dearer arcs, no lesser numbers -/
theorem dist_mono {n : Nat} {G G' : Gf} {s : Nat} {f f' : Lab} (hf : Dist n G s f) (hf' : Dist n G' s f') (hG' : ∀ u v c, G' u v c → 0 < c) (h : ∀ u v c', G' u v c' → ∃ c, G u v c ∧ c ≤ c') :
    ∀ (m : Nat) (v : Nat) (y : Int), y.toNat ≤ m → f'[v]? = some (some y) → ∃ z : Int, f[v]? = some (some z) ∧ z ≤ y := by
  intro m
  induction m with
  | zero =>
    intro v y hm e
    have h0 := hf'.pos v y e
    rcases hf'.why v y e with ⟨rfl, rfl⟩ | ⟨u, x, c, h1, h2, h3⟩
    · exact ⟨0, hf.s0, by omega⟩
    · have := hf'.pos u x h1; have := hG' u v c h2; omega
  | succ m ih =>
    intro v y hm e
    have h0 := hf'.pos v y e
    rcases hf'.why v y e with ⟨rfl, rfl⟩ | ⟨u, x, c, h1, h2, h3⟩
    · exact ⟨0, hf.s0, by omega⟩
    · have a := hf'.pos u x h1; have b := hG' u v c h2
      obtain ⟨z, e1, l⟩ := ih u x (by omega) h1
      obtain ⟨c0, g1, lc⟩ := h u v c h2
      obtain ⟨y', e', l'⟩ := hf.rel u v c0 z e1 g1
      exact ⟨y', e', by omega⟩
end TD
set_option Elab.async false
set_option linter.all false
set_option autoImplicit false
/-! T2: a queue of places whose steps are still to be relaxed: it ends, and what it ends with is the least costs. -/
namespace TD
/-- what a place's steps do: the places that became nearer are put behind the queue -/
def bump (u v : Nat) (c : Int) (p : Lab × List Nat) : Lab × List Nat := match p.1[u]?.join with
  | none => p
  | some x => if better (x + c) p.1[v]?.join then (p.1.set v (some (x + c)), p.2 ++ [v]) else p
def bumps (u : Nat) (L : List (Nat × Int)) (p : Lab × List Nat) : Lab × List Nat := L.foldl (fun p a => bump u a.1 a.2 p) p
/-- weight of a number -/
def wt (B : Int) : Option Int → Nat
  | none => (B + 1).toNat
  | some x => x.toNat
def wts (B : Int) (f : Lab) : Nat := (f.map (wt B)).sum
def nones (f : Lab) : Nat := f.countP (·.isNone)
theorem sum_set : ∀ (l : List Nat) (i a : Nat) (b : Nat), l[i]? = some a → (l.set i b).sum + a = l.sum + b
  | [], _, _, _, h => by simp at h
  | x :: l, 0, a, b, h => by simp at h; subst h; simp; omega
  | x :: l, i + 1, a, b, h => by
    have := sum_set l i a b (by simpa using h)
    simp; omega
theorem nones_set : ∀ (f : Lab) (i : Nat) (x : Int), i < f.length → nones (f.set i (some x)) + (if f[i]?.join = none then 1 else 0) = nones f
  | [], _, _, h => by simp at h
  | o :: f, 0, x, _ => by cases o <;> simp [nones, List.countP_cons]
  | o :: f, i + 1, x, h => by
    have := nones_set f i x (by simpa using h)
    simp only [nones, List.set_cons_succ, List.countP_cons, List.getElem?_cons_succ] at this ⊢
    omega
/-- what holds in the queue -/
structure QI (n : Nat) (G : Gf) (s : Nat) (C : Int) (f : Lab) (Q : List Nat) : Prop where
  len : f.length = n
  s0 : f[s]? = some (some 0)
  pos : ∀ (v : Nat) (y : Int), f[v]? = some (some y) → 0 ≤ y ∧ y + C * nones f ≤ C * n
  why : ∀ (v : Nat) (y : Int), f[v]? = some (some y) → (v = s ∧ y = 0) ∨ ∃ (u : Nat) (x c : Int), f[u]? = some (some x) ∧ G u v c ∧ x + c ≤ y
  inq : ∀ v ∈ Q, ∃ y : Int, f[v]? = some (some y)
  rel : ∀ (u v : Nat) (c x : Int), f[u]? = some (some x) → G u v c → u ∈ Q ∨ ∃ y : Int, f[v]? = some (some y) ∧ y ≤ x + c
/-- the same while u's steps are gone through: D are those that are done -/
structure QJ (n : Nat) (G : Gf) (s : Nat) (C : Int) (u0 : Nat) (T : Gf) (f : Lab) (Q : List Nat) : Prop where
  len : f.length = n
  s0 : f[s]? = some (some 0)
  pos : ∀ (v : Nat) (y : Int), f[v]? = some (some y) → 0 ≤ y ∧ y + C * nones f ≤ C * n
  why : ∀ (v : Nat) (y : Int), f[v]? = some (some y) → (v = s ∧ y = 0) ∨ ∃ (u : Nat) (x c : Int), f[u]? = some (some x) ∧ G u v c ∧ x + c ≤ y
  inq : ∀ v ∈ Q, ∃ y : Int, f[v]? = some (some y)
  rel : ∀ (u v : Nat) (c x : Int), f[u]? = some (some x) → G u v c → u ∈ Q ∨ (u = u0 ∧ T u v c) ∨ ∃ y : Int, f[v]? = some (some y) ∧ y ≤ x + c
  u0 : ∃ x : Int, f[u0]? = some (some x)
theorem QI.open {n : Nat} {G : Gf} {s : Nat} {C : Int} {f : Lab} {u : Nat} {Q : List Nat} (h : QI n G s C f (u :: Q)) : QJ n G s C u G f Q :=
  ⟨h.len, h.s0, h.pos, h.why, fun v m => h.inq v (List.mem_cons_of_mem _ m), fun a v c x e g => by
    rcases h.rel a v c x e g with m | m
    · rcases List.mem_cons.1 m with rfl | m
      · exact .inr (.inl ⟨rfl, g⟩)
      · exact .inl m
    · exact .inr (.inr m), h.inq u (List.mem_cons_self ..)⟩
theorem QJ.close {n : Nat} {G T : Gf} {s : Nat} {C : Int} {f : Lab} {u : Nat} {Q : List Nat} (h : QJ n G s C u T f Q) (hT : ∀ v c, ¬ T u v c) : QI n G s C f Q :=
  ⟨h.len, h.s0, h.pos, h.why, h.inq, fun a v c x e g => by
    rcases h.rel a v c x e g with m | ⟨rfl, m⟩ | m
    · exact .inl m
    · exact (hT v c m).elim
    · exact .inr m⟩
/-- one step: u0's step to v at c is done -/
theorem QJ.step {n : Nat} {G T T' : Gf} {s : Nat} {C : Int} {f : Lab} {u v : Nat} {c : Int} {Q : List Nat} (hG : GOk n G) (hC : c ≤ C) (hu : u ≠ v) (h : QJ n G s C u T f Q) (g : G u v c) (hT : ∀ v' c', T u v' c' → T' u v' c' ∨ (v' = v ∧ c' = c)) :
    QJ n G s C u T' (bump u v c (f, Q)).1 (bump u v c (f, Q)).2 ∧ 2 * wts (C * n) (bump u v c (f, Q)).1 + (bump u v c (f, Q)).2.length ≤ 2 * wts (C * n) f + Q.length := by
  obtain ⟨x, hx⟩ := h.u0
  have hv := (hG u v c g).1
  have c0 := (hG u v c g).2
  have hvl : v < f.length := by rw [h.len]; exact hv
  have hxp := h.pos u x hx
  unfold bump
  rw [join_get.2 hx]
  simp only
  by_cases hb : better (x + c) f[v]?.join = true
  · rw [if_pos hb]
    simp only
    have old : f[v]? = some f[v] := List.getElem?_eq_getElem hvl
    have ns := nones_set f v (x + c) hvl
    have set_get : ∀ (w : Nat) (y : Int), (f.set v (some (x + c)))[w]? = some (some y) → (w = v ∧ y = x + c) ∨ (w ≠ v ∧ f[w]? = some (some y)) := fun w y e => by
      by_cases q : v = w
      · subst q; rw [List.getElem?_set_self hvl] at e; cases e; exact .inl ⟨rfl, rfl⟩
      · rw [List.getElem?_set_ne q] at e; exact .inr ⟨fun z => q z.symm, e⟩
    have get_set : ∀ (w : Nat) (y : Int), f[w]? = some (some y) → ∃ z : Int, (f.set v (some (x + c)))[w]? = some (some z) ∧ z ≤ y := fun w y e => by
      by_cases q : v = w
      · subst q
        refine ⟨x + c, List.getElem?_set_self hvl, ?_⟩
        rw [join_get.2 e] at hb
        simp [better] at hb; omega
      · exact ⟨y, by rw [List.getElem?_set_ne q]; exact e, by omega⟩
    have nn : nones (f.set v (some (x + c))) ≤ nones f := by omega
    have hCn : C * (nones (f.set v (some (x + c))) : Int) ≤ C * (nones f : Int) := Int.mul_le_mul_of_nonneg_left (by omega) (by omega)
    refine ⟨⟨by rw [List.length_set]; exact h.len, ?_, fun w y e => ?_, fun w y e => ?_, fun w m => ?_, fun a w c' x' e gg => ?_, ?_⟩, ?_⟩
    · by_cases q : v = s
      · subst q
        rw [join_get.2 h.s0] at hb
        simp [better] at hb; omega
      · rw [List.getElem?_set_ne q]; exact h.s0
    · rcases set_get w y e with ⟨rfl, rfl⟩ | ⟨q, e⟩
      · refine ⟨by omega, ?_⟩
        by_cases z : f[w]?.join = none
        · rw [if_pos z] at ns
          have e2 : C * (nones f : Int) = C * (nones (f.set w (some (x + c))) : Int) + C := by
            rw [← ns]; simp [Int.mul_add]
          omega
        · have e3 : ∃ y0 : Int, f[w]? = some (some y0) := by
            cases q : f[w] with
            | none => rw [old, q] at z; exact (z rfl).elim
            | some y0 => exact ⟨y0, by rw [old, q]⟩
          obtain ⟨y0, e3⟩ := e3
          have := (h.pos w y0 e3).2
          rw [join_get.2 e3] at hb
          simp [better] at hb
          omega
      · have := h.pos w y e; omega
    · rcases set_get w y e with ⟨rfl, rfl⟩ | ⟨q, e⟩
      · exact .inr ⟨u, x, c, by rw [List.getElem?_set_ne (Ne.symm hu)]; exact hx, g, by omega⟩
      · rcases h.why w y e with q | ⟨a, x', c', h1, h2, h3⟩
        · exact .inl q
        · obtain ⟨z, e1, l1⟩ := get_set a x' h1
          exact .inr ⟨a, z, c', e1, h2, by omega⟩
    · rcases List.mem_append.1 m with m | m
      · obtain ⟨y, e⟩ := h.inq w m
        obtain ⟨z, e1, _⟩ := get_set w y e
        exact ⟨z, e1⟩
      · rw [List.mem_singleton.1 m]; exact ⟨x + c, List.getElem?_set_self hvl⟩
    · rcases set_get a x' e with ⟨rfl, rfl⟩ | ⟨q, e8⟩
      · exact .inl (List.mem_append_right _ (List.mem_singleton.2 rfl))
      · rcases h.rel a w c' x' e8 gg with m | ⟨rfl, m⟩ | ⟨y, e1, l1⟩
        · exact .inl (List.mem_append_left _ m)
        · rcases hT w c' m with m | ⟨rfl, rfl⟩
          · exact .inr (.inl ⟨rfl, m⟩)
          · rw [hx] at e8; cases e8
            exact .inr (.inr ⟨x + c', List.getElem?_set_self hvl, by omega⟩)
        · obtain ⟨z, e2, l2⟩ := get_set w y e1
          exact .inr (.inr ⟨z, e2, by omega⟩)
    · obtain ⟨z, e1, _⟩ := get_set u x hx
      exact ⟨z, e1⟩
    · have e4 : (f.map (wt (C * n)))[v]? = some (wt (C * n) f[v]) := by rw [List.getElem?_map, old]; rfl
      have e5 := sum_set _ v _ (wt (C * n) (some (x + c))) e4
      have e6 : wt (C * n) (some (x + c)) + 1 ≤ wt (C * n) f[v] := by
        cases q : f[v] with
        | none =>
          have z : f[v]?.join = none := by rw [old, q]; rfl
          rw [if_pos z] at ns
          have e2 : C * (nones f : Int) = C * (nones (f.set v (some (x + c))) : Int) + C := by
            rw [← ns]; simp [Int.mul_add]
          have e7 : 0 ≤ C * (nones (f.set v (some (x + c))) : Int) := Int.mul_nonneg (by omega) (by omega)
          simp only [wt]; omega
        | some y0 =>
          rw [old, q] at hb
          simp [better] at hb
          simp only [wt]; omega
      unfold wts
      rw [List.map_set, List.length_append, List.length_singleton]
      omega
  · rw [if_neg hb]
    refine ⟨⟨h.len, h.s0, h.pos, h.why, h.inq, fun a w c' x' e gg => ?_, h.u0⟩, Nat.le_refl _⟩
    rcases h.rel a w c' x' e gg with m | ⟨rfl, m⟩ | m
    · exact .inl m
    · rcases hT w c' m with m | ⟨rfl, rfl⟩
      · exact .inr (.inl ⟨rfl, m⟩)
      · rw [hx] at e; cases e
        have old : f[w]? = some f[w] := List.getElem?_eq_getElem hvl
        cases q : f[w] with
        | none => rw [old, q] at hb; exact absurd rfl hb
        | some y =>
          rw [old, q] at hb
          simp [better] at hb
          exact .inr (.inr ⟨y, by rw [old, q], by omega⟩)
    · exact .inr (.inr m)
theorem bumps_ok {n : Nat} {G : Gf} {s : Nat} {C : Int} {u : Nat} (hG : GOk n G) (hl : ∀ v c, G u v c → u ≠ v) : ∀ (L : List (Nat × Int)) (f : Lab) (Q : List Nat), (∀ a ∈ L, G u a.1 a.2 ∧ a.2 ≤ C) →
    QJ n G s C u (fun _ v c => (v, c) ∈ L) f Q → QI n G s C (bumps u L (f, Q)).1 (bumps u L (f, Q)).2 ∧ 2 * wts (C * n) (bumps u L (f, Q)).1 + (bumps u L (f, Q)).2.length ≤ 2 * wts (C * n) f + Q.length
  | [], f, Q, _, h => ⟨h.close (fun v c m => by simp at m), Nat.le_refl _⟩
  | a :: L, f, Q, hL, h => by
    obtain ⟨g, hC⟩ := hL a (List.mem_cons_self ..)
    obtain ⟨h1, h2⟩ := h.step (T' := fun _ v c => (v, c) ∈ L) hG hC (hl _ _ g) g (fun v' c' m => by
      rcases List.mem_cons.1 m with m | m
      · exact .inr (by cases m; exact ⟨rfl, rfl⟩)
      · exact .inl m)
    obtain ⟨h3, h4⟩ := bumps_ok hG hl L _ _ (fun b m => hL b (List.mem_cons_of_mem _ m)) h1
    exact ⟨h3, Nat.le_trans h4 h2⟩
theorem QI.init {n s : Nat} {G : Gf} {C : Int} (hs : s < n) (hC : 0 ≤ C) : QI n G s C (start n s) [s] := by
  refine ⟨start_len n s, start_s hs, fun v y e => ?_, fun v y e => .inl (start_get e), fun v m => ?_, fun u v c x e _ => ?_⟩
  · obtain ⟨rfl, rfl⟩ := start_get e
    refine ⟨by omega, ?_⟩
    have := List.countP_le_length (p := (·.isNone)) (l := start n v)
    rw [start_len] at this
    have := Int.mul_le_mul_of_nonneg_left (show (nones (start n v) : Int) ≤ n by unfold nones; omega) hC
    omega
  · rw [List.mem_singleton.1 m]; exact ⟨0, start_s hs⟩
  · exact .inl (by rw [(start_get e).1]; exact List.mem_singleton.2 rfl)
theorem QI.dist {n s : Nat} {G : Gf} {C : Int} {f : Lab} (h : QI n G s C f []) : Dist n G s f := by
  refine ⟨h.len, h.s0, fun u v c x e g => ?_, fun v y e => ?_, fun v y e => (h.pos v y e).1⟩
  · rcases h.rel u v c x e g with m | m
    · simp at m
    · exact m
  · rcases h.why v y e with q | ⟨u, x, c, h1, h2, h3⟩
    · exact .inl q
    · refine .inr ⟨u, x, c, h1, h2, ?_⟩
      rcases h.rel u v c x h1 h2 with m | ⟨y', e', l⟩
      · simp at m
      · rw [e] at e'; cases e'; omega
end TD
set_option Elab.async false
set_option linter.all false
set_option maxRecDepth 100000
set_option autoImplicit false
/-! N1: grounds, states, numbers for places, as data. -/
namespace M
open PySem PySem.Spec L2 TD
structure Ti where
  a : Nat
  b : Nat
  r : Int
  w : Int
  h : Int
def tiD (t : Ti) : D := .tuple [.int t.a, .int t.b, .int t.r, .int t.w, .int t.h]
structure Gr where
  n : Nat
  ts : List Ti
def grD (g : Gr) : D := .tuple [.int g.n, .tuple (g.ts.map tiD)]
structure TiOk (n : Nat) (t : Ti) : Prop where
  ab : t.a < t.b
  bn : t.b < n
  w1 : 1 ≤ t.w
  wr : t.w < t.r
  r9 : t.r ≤ 99
  h1 : 1 ≤ t.h
  h6 : t.h ≤ 6
structure GrOk (g : Gr) : Prop where
  n2 : 2 ≤ g.n
  n8 : g.n ≤ 8
  t1 : 1 ≤ g.ts.length
  t14 : g.ts.length ≤ 14
  ok : ∀ t ∈ g.ts, TiOk g.n t
def inD (xs : List Int) : List D := xs.map .int
@[simp] theorem inD_nil : inD [] = [] := rfl
@[simp] theorem inD_cons (x : Int) (xs : List Int) : inD (x :: xs) = .int x :: inD xs := rfl
@[simp] theorem inD_len (xs : List Int) : (inD xs).length = xs.length := by simp [inD]
@[simp] theorem inD_at (xs : List Int) (i : Nat) : atI (inD xs) (i : Int) = (xs[i]?).map .int := by unfold inD; rw [atI_map]
@[simp] theorem inD_get (xs : List Int) (i : Nat) : (inD xs)[i]? = (xs[i]?).map .int := by unfold inD; rw [List.getElem?_map]
theorem inD_eq (xs : List Int) : inD xs = xs.map .int := rfl
theorem zip_mi {α : Type} (f : α → D) (xs : List α) (ys : List Int) : zipD (xs.map f) (inD ys) = (xs.zip ys).map fun p => .tuple [f p.1, .int p.2] := zip_map f .int xs ys
theorem inD_app (xs ys : List Int) : inD (xs ++ ys) = inD xs ++ inD ys := by simp [inD]
/-- the state in which all ties are rough, and worn -/
def roughS (n : Nat) : List Int := List.replicate n 0
def oD : Option Int → D
  | none => .none
  | some i => .int i
@[simp] theorem oD_n : oD none = .none := rfl
@[simp] theorem oD_s (i : Int) : oD (some i) = .int i := rfl
@[simp] theorem isN_oD (o : Option Int) : isN (oD o) = o.isNone := by cases o <;> rfl
/-- a list or a tuple of whole numbers -/
def sqD (b : Bool) (xs : List Int) : D := if b then .list (inD xs) else .tuple (inD xs)
@[simp] theorem sqD_t (xs : List Int) : sqD true xs = .list (inD xs) := rfl
@[simp] theorem sqD_f (xs : List Int) : sqD false xs = .tuple (inD xs) := rfl
theorem dInI_sq (z : Bool) (i : Int) (b : Bool) (xs : List Int) : dInI z (.int i) (sqD b xs) = some (.bool (if z then !xs.contains i else xs.contains i)) := by
  cases b <;> simp [dInI, sqD, inD]
theorem dInI_t2 (z : Bool) (i a b : Int) : dInI z (.int i) (.tuple [.int a, .int b]) = some (.bool (if z then !(i == a || i == b) else (i == a || i == b))) := by
  have := dInI_sq z i false [a, b]
  rw [sqD_f] at this
  simpa only [inD_cons, inD_nil, List.contains_cons, List.contains_nil, Bool.or_false] using this
def wornS (g : Gr) : List Int := g.ts.map Ti.h
@[simp] theorem wornS_len (g : Gr) : (wornS g).length = g.ts.length := by simp [wornS]
@[simp] theorem roughS_len (n : Nat) : (roughS n).length = n := by simp [roughS]
/-! ### costs -/
def pay (t : Ti) (l : Int) : Int := if 0 < l then t.w else t.r
def pays (g : Gr) (s : List Int) : List Int := (g.ts.zip s).map fun p => pay p.1 p.2
/-- the ties that lead on from a place -/
def steps (g : Gr) (fz : List Int) (u : Nat) : List (Nat × Nat) := (g.ts.zipIdx.filter fun p => !fz.contains (p.2 : Int) && (u == p.1.a || u == p.1.b)).map fun p => (p.2, p.1.a + p.1.b - u)
def stepD (p : Nat × Nat) : D := .tuple [.int p.1, .int p.2]
/-- a tie that is not fenced leads from u to v -/
def Garc (g : Gr) (pr fz : List Int) : Gf := fun u v c => ∃ (k : Nat) (t : Ti), g.ts[k]? = some t ∧ fz.contains (k : Int) = false ∧ (u = t.a ∧ v = t.b ∨ u = t.b ∧ v = t.a) ∧ pr[k]? = some c
theorem Garc.sym {g : Gr} {pr fz : List Int} {u v : Nat} {c : Int} (h : Garc g pr fz u v c) : Garc g pr fz v u c := by
  obtain ⟨k, t, h1, h2, h3, h4⟩ := h
  exact ⟨k, t, h1, h2, by rcases h3 with ⟨a, b⟩ | ⟨a, b⟩ <;> simp [a, b], h4⟩
theorem Garc.ok {g : Gr} (hg : GrOk g) {pr fz : List Int} (hp : ∀ c ∈ pr, 0 < c) : GOk g.n (Garc g pr fz) := by
  rintro u v c ⟨k, t, h1, h2, h3, h4⟩
  have := hg.ok t (List.mem_of_getElem? h1)
  have a := this.ab; have b := this.bn
  exact ⟨by rcases h3 with ⟨_, rfl⟩ | ⟨_, rfl⟩ <;> omega, hp c (List.mem_of_getElem? h4)⟩
theorem Garc.ne {g : Gr} (hg : GrOk g) {pr fz : List Int} {u v : Nat} {c : Int} (h : Garc g pr fz u v c) : u ≠ v := by
  obtain ⟨k, t, h1, h2, h3, h4⟩ := h
  have := (hg.ok t (List.mem_of_getElem? h1)).ab
  rcases h3 with ⟨rfl, rfl⟩ | ⟨rfl, rfl⟩ <;> omega
theorem steps_mem {g : Gr} {fz : List Int} {u k v : Nat} : (k, v) ∈ steps g fz u ↔ ∃ t, g.ts[k]? = some t ∧ fz.contains (k : Int) = false ∧ (u = t.a ∨ u = t.b) ∧ v = t.a + t.b - u := by
  unfold steps
  simp only [List.mem_map, List.mem_filter, Bool.and_eq_true, Bool.not_eq_true', Bool.or_eq_true, beq_iff_eq]
  constructor
  · rintro ⟨⟨t, k'⟩, ⟨h1, h2, h3⟩, h4⟩
    cases h4
    exact ⟨t, by simpa using List.mem_zipIdx_iff_getElem?.1 h1, h2, h3, rfl⟩
  · rintro ⟨t, h1, h2, h3, rfl⟩
    exact ⟨(t, k), ⟨List.mem_zipIdx_iff_getElem?.2 (by simpa using h1), h2, h3⟩, rfl⟩
theorem steps_arc {g : Gr} {pr fz : List Int} {u v : Nat} {c : Int} : Garc g pr fz u v c ↔ ∃ k, (k, v) ∈ steps g fz u ∧ pr[k]? = some c := by
  constructor
  · rintro ⟨k, t, h1, h2, h3, h4⟩
    refine ⟨k, steps_mem.2 ⟨t, h1, h2, ?_, ?_⟩, h4⟩
    · rcases h3 with ⟨rfl, rfl⟩ | ⟨rfl, rfl⟩ <;> simp
    · rcases h3 with ⟨rfl, rfl⟩ | ⟨rfl, rfl⟩ <;> omega
  · rintro ⟨k, h, h4⟩
    obtain ⟨t, h1, h2, h3, h5⟩ := steps_mem.1 h
    refine ⟨k, t, h1, h2, ?_, h4⟩
    rcases h3 with rfl | rfl
    · exact .inl ⟨rfl, by omega⟩
    · exact .inr ⟨rfl, by omega⟩
theorem steps_len (g : Gr) (fz : List Int) (u : Nat) : (steps g fz u).length ≤ g.ts.length := by
  unfold steps
  rw [List.length_map]
  exact Nat.le_trans (List.length_filter_le _ _) (by simp)
theorem pays_len {g : Gr} {s : List Int} (h : s.length = g.ts.length) : (pays g s).length = g.ts.length := by simp [pays, h]
theorem pays_get {g : Gr} {s : List Int} {k : Nat} {t : Ti} {l : Int} (h1 : g.ts[k]? = some t) (h2 : s[k]? = some l) : (pays g s)[k]? = some (pay t l) := by
  unfold pays
  have q : (g.ts.zip s)[k]? = some (t, l) := by rw [List.getElem?_zip_eq_some]; exact ⟨h1, h2⟩
  rw [List.getElem?_map, q]; rfl
theorem pays_pos {g : Gr} (hg : GrOk g) {s : List Int} : ∀ c ∈ pays g s, 0 < c ∧ c ≤ 99 := by
  intro c h
  unfold pays at h
  obtain ⟨⟨t, l⟩, h1, rfl⟩ := List.mem_map.1 h
  have := hg.ok t (List.of_mem_zip h1).1
  have a := this.w1; have b := this.wr; have c := this.r9
  unfold pay; simp only; split <;> omega
/-! ### the least costs -/
open Classical in
noncomputable def dst (g : Gr) (pr fz : List Int) (s : Nat) : Lab := if h : ∃ f, Dist g.n (Garc g pr fz) s f then h.choose else []
theorem dst_of {g : Gr} {pr fz : List Int} {s : Nat} {f : Lab} (hg : GrOk g) (hp : ∀ c ∈ pr, 0 < c ∧ c ≤ 99) (h : Dist g.n (Garc g pr fz) s f) : dst g pr fz s = f := by
  have ex : ∃ f, Dist g.n (Garc g pr fz) s f := ⟨f, h⟩
  unfold dst
  rw [dif_pos ex]
  exact dist_one (Garc.ok hg fun c m => (hp c m).1) ex.choose_spec h
/-! ### what can be come to -/
inductive Conn (g : Gr) (s : Nat) : Nat → Prop
  | start : Conn g s s
  | step {u v : Nat} (t : Ti) : Conn g s u → t ∈ g.ts → (u = t.a ∧ v = t.b ∨ u = t.b ∧ v = t.a) → Conn g s v
theorem Conn.dist {g : Gr} {s v : Nat} {pr : List Int} {f : Lab} (h : Conn g s v) (d : Dist g.n (Garc g pr []) s f) (hl : pr.length = g.ts.length) : ∃ x : Int, f[v]? = some (some x) := by
  induction h with
  | start => exact ⟨0, d.s0⟩
  | step t _ m q ih =>
    obtain ⟨x, hx⟩ := ih
    obtain ⟨k, hk⟩ := List.getElem?_of_mem m
    have kl : k < pr.length := by rw [hl]; exact (List.getElem?_eq_some_iff.1 hk).1
    obtain ⟨y, hy, _⟩ := d.rel _ _ pr[k] x hx ⟨k, t, hk, rfl, q, List.getElem?_eq_getElem kl⟩
    exact ⟨y, hy⟩
theorem Conn.lt {g : Gr} (hg : GrOk g) {s v : Nat} (h : Conn g s v) (hs : s < g.n) : v < g.n := by
  cases h with
  | start => exact hs
  | step t _ m q =>
    have tk := hg.ok t m
    have := tk.ab; have := tk.bn
    rcases q with ⟨_, rfl⟩ | ⟨_, rfl⟩ <;> omega
/-- a list of numbers -/
def nsD (L : List Nat) : List D := L.map fun v : Nat => .int (v : Int)
@[simp] theorem nsD_nil : nsD [] = [] := rfl
@[simp] theorem nsD_cons (x : Nat) (L : List Nat) : nsD (x :: L) = .int x :: nsD L := rfl
@[simp] theorem nsD_len (L : List Nat) : (nsD L).length = L.length := by simp [nsD]
@[simp] theorem nsD_at (L : List Nat) (i : Nat) : atI (nsD L) (i : Int) = (L[i]?).map fun v : Nat => .int (v : Int) := by unfold nsD; rw [atI_map]
theorem nsD_app (L K : List Nat) : nsD (L ++ K) = nsD L ++ nsD K := by simp [nsD]
theorem nsD_in (L : List Nat) : nsD L = inD (L.map Int.ofNat) := by simp [nsD, inD, Function.comp_def]
theorem dInI_ns (z : Bool) (v : Nat) (L : List Nat) : dInI z (.int v) (.list (nsD L)) = some (.bool (if z then !decide (v ∈ L) else decide (v ∈ L))) := by
  have h := dInI_sq z v true (L.map Int.ofNat)
  rw [sqD_t, ← nsD_in] at h
  rw [h]
  have e : (L.map Int.ofNat).contains (v : Int) = decide (v ∈ L) := by
    rw [Bool.eq_iff_iff, List.contains_iff_mem, decide_eq_true_iff]
    simp only [List.mem_map]
    constructor
    · rintro ⟨a, ha, hq⟩
      rw [← Int.ofNat_inj.1 hq]; exact ha
    · exact fun h => ⟨v, h, rfl⟩
  rw [e]
/-! ### going round -/
def tiZ : Ti := ⟨0, 0, 0, 0, 0⟩
def arcsAt (g : Gr) (pr : List Int) (k : Nat) : List Arc := [((g.ts.getD k tiZ).a, (g.ts.getD k tiZ).b, pr.getD k 0), ((g.ts.getD k tiZ).b, (g.ts.getD k tiZ).a, pr.getD k 0)]
def arcsOf (g : Gr) (pr : List Int) : List Arc := (List.range g.ts.length).flatMap (arcsAt g pr)
theorem arcs_mem {g : Gr} {pr : List Int} (hl : pr.length = g.ts.length) (a : Arc) : a ∈ arcsOf g pr ↔ Garc g pr [] a.1 a.2.1 a.2.2 := by
  unfold arcsOf
  rw [List.mem_flatMap]
  constructor
  · rintro ⟨k, hk, h⟩
    have hk := List.mem_range.1 hk
    have e1 : g.ts[k]? = some g.ts[k] := List.getElem?_eq_getElem hk
    have e2 : pr[k]? = some (pr[k]'(by omega)) := List.getElem?_eq_getElem (by omega)
    have d1 : g.ts.getD k tiZ = g.ts[k] := by simp [List.getD, e1]
    have d2 : pr.getD k 0 = pr[k]'(by omega) := by simp [List.getD, e2]
    unfold arcsAt at h
    rw [d1, d2] at h
    simp only [List.mem_cons, List.not_mem_nil, or_false] at h
    rcases h with rfl | rfl
    · exact ⟨k, _, e1, rfl, .inl ⟨rfl, rfl⟩, e2⟩
    · exact ⟨k, _, e1, rfl, .inr ⟨rfl, rfl⟩, e2⟩
  · rintro ⟨k, t, h1, _, h3, h4⟩
    refine ⟨k, List.mem_range.2 (List.getElem?_eq_some_iff.1 h1).1, ?_⟩
    have d1 : g.ts.getD k tiZ = t := by simp [List.getD, h1]
    have d2 : pr.getD k 0 = a.2.2 := by simp [List.getD, h4]
    unfold arcsAt
    rw [d1, d2]
    obtain ⟨u, v, c⟩ := a
    simp only at h3
    rcases h3 with ⟨rfl, rfl⟩ | ⟨rfl, rfl⟩ <;> simp
end M
set_option Elab.async false
set_option linter.all false
set_option maxRecDepth 100000
set_option autoImplicit false
/-! N2: reckoning with data. -/
namespace M
open PySem PySem.Spec L2
/-! ### isinstance -/
theorem kq_nb : kitB "NoneType" "bool" = some false := by decide +kernel
theorem kq_ni : kitB "NoneType" "int" = some false := by decide +kernel
theorem kq_ns : kitB "NoneType" "str" = some false := by decide +kernel
theorem kq_nl : kitB "NoneType" "list" = some false := by decide +kernel
theorem kq_nt : kitB "NoneType" "tuple" = some false := by decide +kernel
theorem kq_nd : kitB "NoneType" "dict" = some false := by decide +kernel
theorem kq_bi : kitB "bool" "int" = some true := by decide +kernel
theorem kq_bs : kitB "bool" "str" = some false := by decide +kernel
theorem kq_bd : kitB "bool" "dict" = some false := by decide +kernel
theorem kq_ii : kitB "int" "int" = some true := by decide +kernel
theorem kq_is : kitB "int" "str" = some false := by decide +kernel
theorem kq_id : kitB "int" "dict" = some false := by decide +kernel
theorem kq_sb : kitB "str" "bool" = some false := by decide +kernel
theorem kq_si : kitB "str" "int" = some false := by decide +kernel
theorem kq_ss : kitB "str" "str" = some true := by decide +kernel
theorem kq_sl : kitB "str" "list" = some false := by decide +kernel
theorem kq_st : kitB "str" "tuple" = some false := by decide +kernel
theorem kq_sd : kitB "str" "dict" = some false := by decide +kernel
theorem kq_li : kitB "list" "int" = some false := by decide +kernel
theorem kq_ls : kitB "list" "str" = some false := by decide +kernel
theorem kq_ld : kitB "list" "dict" = some false := by decide +kernel
theorem kq_ti : kitB "tuple" "int" = some false := by decide +kernel
theorem kq_ts : kitB "tuple" "str" = some false := by decide +kernel
theorem kq_td : kitB "tuple" "dict" = some false := by decide +kernel
section
variable (b : Bool) (i : Int) (x : Str) (xs : List D)
@[simp] theorem is_nb : dIsi "bool" .none = some (.bool false) := by simp [dIsi, noFT, tyD, kq_nb]
@[simp] theorem is_ni : dIsi "int" .none = some (.bool false) := by simp [dIsi, noFT, tyD, kq_ni]
@[simp] theorem is_ns : dIsi "str" .none = some (.bool false) := by simp [dIsi, noFT, tyD, kq_ns]
@[simp] theorem is_nl : dIsi "list" .none = some (.bool false) := by simp [dIsi, noFT, tyD, kq_nl]
@[simp] theorem is_nt : dIsi "tuple" .none = some (.bool false) := by simp [dIsi, noFT, tyD, kq_nt]
@[simp] theorem is_nd : dIsi "dict" .none = some (.bool false) := by simp [dIsi, noFT, tyD, kq_nd]
@[simp] theorem is_bb : dIsi "bool" (.bool b) = some (.bool true) := by simp [dIsi, noFT, tyD, kb_bb]
@[simp] theorem is_bi : dIsi "int" (.bool b) = some (.bool true) := by simp [dIsi, noFT, tyD, kq_bi]
@[simp] theorem is_bs : dIsi "str" (.bool b) = some (.bool false) := by simp [dIsi, noFT, tyD, kq_bs]
@[simp] theorem is_bl : dIsi "list" (.bool b) = some (.bool false) := by simp [dIsi, noFT, tyD, kb_bl]
@[simp] theorem is_bt : dIsi "tuple" (.bool b) = some (.bool false) := by simp [dIsi, noFT, tyD, kb_bt]
@[simp] theorem is_bd : dIsi "dict" (.bool b) = some (.bool false) := by simp [dIsi, noFT, tyD, kq_bd]
@[simp] theorem is_ib : dIsi "bool" (.int i) = some (.bool false) := by simp [dIsi, noFT, tyD, kb_ib]
@[simp] theorem is_ii : dIsi "int" (.int i) = some (.bool true) := by simp [dIsi, noFT, tyD, kq_ii]
@[simp] theorem is_is : dIsi "str" (.int i) = some (.bool false) := by simp [dIsi, noFT, tyD, kq_is]
@[simp] theorem is_il : dIsi "list" (.int i) = some (.bool false) := by simp [dIsi, noFT, tyD, kb_il]
@[simp] theorem is_it : dIsi "tuple" (.int i) = some (.bool false) := by simp [dIsi, noFT, tyD, kb_it]
@[simp] theorem is_id : dIsi "dict" (.int i) = some (.bool false) := by simp [dIsi, noFT, tyD, kq_id]
@[simp] theorem is_sb : dIsi "bool" (.str x) = some (.bool false) := by simp [dIsi, noFT, tyD, kq_sb]
@[simp] theorem is_si : dIsi "int" (.str x) = some (.bool false) := by simp [dIsi, noFT, tyD, kq_si]
@[simp] theorem is_ss : dIsi "str" (.str x) = some (.bool true) := by simp [dIsi, noFT, tyD, kq_ss]
@[simp] theorem is_sl : dIsi "list" (.str x) = some (.bool false) := by simp [dIsi, noFT, tyD, kq_sl]
@[simp] theorem is_st : dIsi "tuple" (.str x) = some (.bool false) := by simp [dIsi, noFT, tyD, kq_st]
@[simp] theorem is_sd : dIsi "dict" (.str x) = some (.bool false) := by simp [dIsi, noFT, tyD, kq_sd]
@[simp] theorem is_lb : dIsi "bool" (.list xs) = some (.bool false) := by simp [dIsi, noFT, tyD, kb_lb]
@[simp] theorem is_li : dIsi "int" (.list xs) = some (.bool false) := by simp [dIsi, noFT, tyD, kq_li]
@[simp] theorem is_ls : dIsi "str" (.list xs) = some (.bool false) := by simp [dIsi, noFT, tyD, kq_ls]
@[simp] theorem is_ll : dIsi "list" (.list xs) = some (.bool true) := by simp [dIsi, noFT, tyD, kb_ll]
@[simp] theorem is_lt : dIsi "tuple" (.list xs) = some (.bool false) := by simp [dIsi, noFT, tyD, kb_lt]
@[simp] theorem is_ld : dIsi "dict" (.list xs) = some (.bool false) := by simp [dIsi, noFT, tyD, kq_ld]
@[simp] theorem is_tb : dIsi "bool" (.tuple xs) = some (.bool false) := by simp [dIsi, noFT, tyD, kb_tb]
@[simp] theorem is_ti : dIsi "int" (.tuple xs) = some (.bool false) := by simp [dIsi, noFT, tyD, kq_ti]
@[simp] theorem is_ts : dIsi "str" (.tuple xs) = some (.bool false) := by simp [dIsi, noFT, tyD, kq_ts]
@[simp] theorem is_tl : dIsi "list" (.tuple xs) = some (.bool false) := by simp [dIsi, noFT, tyD, kb_tl]
@[simp] theorem is_tt : dIsi "tuple" (.tuple xs) = some (.bool true) := by simp [dIsi, noFT, tyD, kb_tt]
@[simp] theorem is_td : dIsi "dict" (.tuple xs) = some (.bool false) := by simp [dIsi, noFT, tyD, kq_td]
@[simp] theorem is2_n : dIsi2 "list" "tuple" .none = some (.bool false) := by simp [dIsi2, noFT, tyD, kq_nl, kq_nt]
@[simp] theorem is2_b : dIsi2 "list" "tuple" (.bool b) = some (.bool false) := by simp [dIsi2, noFT, tyD, kb_bl, kb_bt]
@[simp] theorem is2_i : dIsi2 "list" "tuple" (.int i) = some (.bool false) := by simp [dIsi2, noFT, tyD, kb_il, kb_it]
@[simp] theorem is2_s : dIsi2 "list" "tuple" (.str x) = some (.bool false) := by simp [dIsi2, noFT, tyD, kq_sl, kq_st]
@[simp] theorem is2_l : dIsi2 "list" "tuple" (.list xs) = some (.bool true) := by simp [dIsi2, noFT, tyD, kb_ll, kb_lt]
@[simp] theorem is2_t : dIsi2 "list" "tuple" (.tuple xs) = some (.bool true) := by simp [dIsi2, noFT, tyD, kb_tl, kb_tt]
end
/-! ### data that can be compared -/
structure Pl (k : Nat) (d : D) : Prop where
  nd : nd d = true
  lay : d.canLay0 = true
  dep : d.depth ≤ k
theorem Pl.mono {k m : Nat} {d : D} (h : Pl k d) (l : k ≤ m) : Pl m d := ⟨h.nd, h.lay, Nat.le_trans h.dep l⟩
theorem Pl.non {k : Nat} : Pl k .none := ⟨rfl, by simp [PyData.canLay0], by simp [PyData.depth]⟩
theorem Pl.int {k : Nat} (i : Int) : Pl k (.int i) := ⟨rfl, by simp [PyData.canLay0], by simp [PyData.depth]⟩
theorem Pl.bool {k : Nat} (i : Bool) : Pl k (.bool i) := ⟨rfl, by simp [PyData.canLay0], by simp [PyData.depth]⟩
theorem Pl.list {k : Nat} {xs : List D} (h : ∀ x ∈ xs, Pl k x) : Pl (k + 1) (.list xs) :=
  ⟨by show nds xs = true; exact nds_all fun x m => (h x m).nd, by simpa [PyData.canLay0] using layAll_all fun x m => (h x m).lay, by simpa [PyData.depth] using depthAll_le fun x m => (h x m).dep⟩
theorem Pl.tuple {k : Nat} {xs : List D} (h : ∀ x ∈ xs, Pl k x) : Pl (k + 1) (.tuple xs) :=
  ⟨by show nds xs = true; exact nds_all fun x m => (h x m).nd, by simpa [PyData.canLay0] using layAll_all fun x m => (h x m).lay, by simpa [PyData.depth] using depthAll_le fun x m => (h x m).dep⟩
theorem Pl.nil (k : Nat) : Pl (k + 1) (.list []) := .list (by simp)
theorem Pl.nilT (k : Nat) : Pl (k + 1) (.tuple []) := .tuple (by simp)
theorem Pl.ints (xs : List Int) : ∀ d ∈ inD xs, Pl 0 d := by
  intro d h
  obtain ⟨i, _, rfl⟩ := List.mem_map.1 h
  exact .int i
theorem Pl.cons {k : Nat} {x : D} {xs : List D} (h : Pl k x) (t : ∀ y ∈ xs, Pl k y) : ∀ y ∈ x :: xs, Pl k y := by
  intro y m
  rcases List.mem_cons.1 m with rfl | m
  · exact h
  · exact t y m
theorem Pl.oD (o : Option Int) : Pl 0 (oD o) := by cases o; exact .non; exact .int _
theorem Pl.tiD (t : Ti) : Pl 1 (tiD t) := .tuple (by intro x h; exact Pl.ints [(t.a : Int), t.b, t.r, t.w, t.h] x h)
theorem Pl.shaped {k : Nat} {d : D} (h : Pl k d) (l : k ≤ 60) : SeqAt.shaped d = true := by
  unfold SeqAt.shaped
  have := h.dep
  simp [h.lay]; omega
theorem dEq_pl {k m : Nat} {a b : D} (ha : Pl k a) (hb : Pl m b) (l : k ≤ 60) (l2 : m ≤ 60) : dEq a b = some (.bool (PyData.eqv a b)) := by
  have h : dEqN a b = some (.bool (PyData.eqv a b)) := by simp [dEqN, ha.nd, hb.nd, ha.shaped l, hb.shaped l2]
  cases a <;> first | exact h | (cases b <;> first | exact h | (simp [dEq, PyData.eqv]))
theorem dNe_pl {k m : Nat} {a b : D} (ha : Pl k a) (hb : Pl m b) (l : k ≤ 60) (l2 : m ≤ 60) : dNe a b = some (.bool (!PyData.eqv a b)) := by
  have h : dNeN a b = some (.bool (!PyData.eqv a b)) := by simp [dNeN, ha.nd, hb.nd, ha.shaped l, hb.shaped l2]
  cases a <;> first | exact h | (cases b <;> first | exact h | (simp [dNe, PyData.eqv]))
@[simp] theorem dNe_ni (i : Int) : dNe .none (.int i) = some (.bool true) := by rw [dNe_pl (k := 0) (m := 0) .non (.int _) (by omega) (by omega)]; simp [PyData.eqv]
@[simp] theorem dNe_in (i : Int) : dNe (.int i) .none = some (.bool true) := by rw [dNe_pl (k := 0) (m := 0) (.int _) .non (by omega) (by omega)]; simp [PyData.eqv]
@[simp] theorem dEq_ni (i : Int) : dEq .none (.int i) = some (.bool false) := by rw [dEq_pl (k := 0) (m := 0) .non (.int _) (by omega) (by omega)]; simp [PyData.eqv]
@[simp] theorem dEq_in (i : Int) : dEq (.int i) .none = some (.bool false) := by rw [dEq_pl (k := 0) (m := 0) (.int _) .non (by omega) (by omega)]; simp [PyData.eqv]
/-! ### data without truths: alike just where the same -/
mutual
def bf : D → Bool
  | .bool _ => false
  | .dict _ => false
  | .list xs => bfs xs
  | .tuple xs => bfs xs
  | _ => true
def bfs : List D → Bool
  | [] => true
  | x :: xs => bf x && bfs xs
end
theorem bfs_all : ∀ {xs : List D}, (∀ x ∈ xs, bf x = true) → bfs xs = true
  | [], _ => rfl
  | x :: xs, h => by simp [bfs, h x (List.mem_cons_self ..), bfs_all fun y m => h y (List.mem_cons_of_mem _ m)]
mutual
theorem eqv_bf : ∀ (a b : D), bf a = true → bf b = true → (PyData.eqv a b = true ↔ a = b)
  | .none, b, _, hb => by cases b <;> simp [PyData.eqv]
  | .int i, b, _, hb => by cases b <;> simp_all [PyData.eqv, bf]
  | .str i, b, _, hb => by cases b <;> simp [PyData.eqv]
  | .list xs, b, ha, hb => by
    cases b <;> simp [PyData.eqv]
    exact eqvAll_bf xs _ (by simpa [bf] using ha) (by simpa [bf] using hb)
  | .tuple xs, b, ha, hb => by
    cases b <;> simp [PyData.eqv]
    exact eqvAll_bf xs _ (by simpa [bf] using ha) (by simpa [bf] using hb)
  | .bool _, _, ha, _ => by simp [bf] at ha
  | .dict _, _, ha, _ => by simp [bf] at ha
theorem eqvAll_bf : ∀ (a b : List D), bfs a = true → bfs b = true → (PyData.eqvAll a b = true ↔ a = b)
  | [], [], _, _ => by simp [PyData.eqvAll]
  | [], _ :: _, _, _ => by simp [PyData.eqvAll]
  | _ :: _, [], _, _ => by simp [PyData.eqvAll]
  | x :: xs, y :: ys, ha, hb => by
    simp only [bfs, Bool.and_eq_true] at ha hb
    simp [PyData.eqvAll, eqv_bf x y ha.1 hb.1, eqvAll_bf xs ys ha.2 hb.2]
end
theorem eqv_same {a : D} (h : bf a = true) : PyData.eqv a a = true := (eqv_bf a a h h).2 rfl
theorem eqv_other {a b : D} (ha : bf a = true) (hb : bf b = true) (h : a ≠ b) : PyData.eqv a b = false := by
  cases q : PyData.eqv a b with
  | true => exact (h ((eqv_bf a b ha hb).1 q)).elim
  | false => rfl
theorem bf_ints (xs : List Int) : bfs (inD xs) = true := bfs_all fun d h => by obtain ⟨i, _, rfl⟩ := List.mem_map.1 h; rfl
@[simp] theorem bf_oD (o : Option Int) : bf (oD o) = true := by cases o <;> rfl
@[simp] theorem bf_int (i : Int) : bf (.int i) = true := rfl
@[simp] theorem bf_non : bf .none = true := rfl
@[simp] theorem bf_str (i : Str) : bf (.str i) = true := rfl
@[simp] theorem bf_l (xs : List D) : bf (.list xs) = bfs xs := rfl
@[simp] theorem bf_t (xs : List D) : bf (.tuple xs) = bfs xs := rfl
@[simp] theorem bfs_nil : bfs [] = true := rfl
@[simp] theorem bfs_cons (x : D) (xs : List D) : bfs (x :: xs) = (bf x && bfs xs) := rfl
/-- is a list empty -/
theorem dNe_nil {xs : List D} (h : ∀ x ∈ xs, Pl 50 x) : dNe (.list xs) (.list []) = some (.bool (!xs.isEmpty)) := by
  rw [dNe_pl (.list h) (.nil 0) (by omega) (by omega)]
  cases xs <;> simp [PyData.eqv, PyData.eqvAll]
theorem dEq_nil {xs : List D} (h : ∀ x ∈ xs, Pl 50 x) : dEq (.list xs) (.list []) = some (.bool xs.isEmpty) := by
  rw [dEq_pl (.list h) (.nil 0) (by omega) (by omega)]
  cases xs <;> simp [PyData.eqv, PyData.eqvAll]
theorem dNe_nilT {xs : List D} (h : ∀ x ∈ xs, Pl 50 x) : dNe (.tuple xs) (.tuple []) = some (.bool (!xs.isEmpty)) := by
  rw [dNe_pl (.tuple h) (.nilT 0) (by omega) (by omega)]
  cases xs <;> simp [PyData.eqv, PyData.eqvAll]
theorem dEq_nilT {xs : List D} (h : ∀ x ∈ xs, Pl 50 x) : dEq (.tuple xs) (.tuple []) = some (.bool xs.isEmpty) := by
  rw [dEq_pl (.tuple h) (.nilT 0) (by omega) (by omega)]
  cases xs <;> simp [PyData.eqv, PyData.eqvAll]
/-! ### all, any, sum -/
theorem bsD_map : ∀ bs : List Bool, bsD (bs.map .bool) = some bs
  | [] => rfl
  | b :: bs => by simp [bsD, bsD_map bs]
theorem dAll_map {Y : Type} (p : Y → Bool) (xs : List Y) : dAll (.list (xs.map fun x => .bool (p x))) = some (.bool (xs.all p)) := by
  have : xs.map (fun x => PyData.bool (p x)) = (xs.map p).map .bool := by simp
  rw [this]; unfold dAll; simp only [bsD_map]; simp [List.all_map, Function.comp_def]
theorem dAny_map {Y : Type} (p : Y → Bool) (xs : List Y) : dAny (.list (xs.map fun x => .bool (p x))) = some (.bool (xs.any p)) := by
  have : xs.map (fun x => PyData.bool (p x)) = (xs.map p).map .bool := by simp
  rw [this]; unfold dAny; simp only [bsD_map]; simp [List.any_map, Function.comp_def]
theorem isD_map : ∀ bs : List Int, isD (inD bs) = some bs
  | [] => rfl
  | b :: bs => by
    have := isD_map bs
    simp [isD, this]
theorem dSum_ints (xs : List Int) : dSum (.list (inD xs)) = some (.int xs.sum) := by unfold dSum; simp only [isD_map]; simp
/-! ### places of a list -/
theorem set_nat (i : Nat) (d : D) (e2 : En) (v : Nat) (b : Bool) (xs : List D) (h : v < xs.length) : setSl i d e2 (some (.int (v : Int))) (some (.ow b (.list xs))) = .nx (e2.set i (.ow b (.list (xs.set v d)))) :=
  setSl_l i d e2 v b xs v (by rw [ixN_nat, if_pos h])
theorem popAt_nat (xs : List D) (k : Nat) (x : D) (h : xs[k]? = some x) (hk : k < 1000000) : gPopAt (.list xs) [.int (k : Int)] = some (.list (xs.eraseIdx k), x) := by
  have hl := (List.getElem?_eq_some_iff.1 h).1
  have e : seqIndex? (k : Int) xs.length = some k := by unfold seqIndex?; simp; omega
  unfold gPopAt
  simp only
  rw [if_pos (by rw [in63_d]; simp; omega), e]
  simp [h]
theorem pop0 (x : D) (xs : List D) : gPopAt (.list (x :: xs)) [.int 0] = some (.list xs, x) := popAt_nat (x :: xs) 0 x rfl (by omega)
theorem pop_last (xs : List D) (x : D) : gPop (.list (xs ++ [x])) [] = some (.list xs, x) := by simp [gPop]
theorem rep_n (x : D) (n : Nat) (h : n ≤ 1000000) : dRep (.list [x]) (.int n) = some (.list (List.replicate n x)) := by
  simp [dRep, small_lit, h, in63_d]; omega
theorem mulU_n (x : D) (n : Nat) (h : n ≤ 1000000) : dMulU (.list [x]) (.int n) = some (.list (List.replicate n x)) := by
  simp [dMulU, small_lit, h, in63_d]; omega
theorem cut_to (xs : List D) (k : Nat) : cutD xs none (some (k : Int)) = xs.take k := by
  have e : HT.sIx xs.length xs.length (some (k : Int)) = min k xs.length := by rw [HT.sIx_nat]
  have e0 : HT.sIx xs.length 0 none = 0 := by unfold HT.sIx; rfl
  unfold cutD; rw [e, e0]
  simp [List.take_eq_take_min.symm]
theorem cut_from (xs : List D) (k : Nat) : cutD xs (some (k : Int)) none = xs.drop k := by
  have e : HT.sIx xs.length 0 (some (k : Int)) = min k xs.length := by rw [HT.sIx_nat]
  have e0 : HT.sIx xs.length xs.length none = xs.length := by unfold HT.sIx; rfl
  unfold cutD; rw [e, e0]
  by_cases h : k ≤ xs.length
  · rw [Nat.min_eq_left h, List.take_of_length_le (by simp)]
  · rw [Nat.min_eq_right (by omega)]; simp; omega
theorem flat_one {α : Type} (n : Nat) (d : α) : (List.replicate n [d]).flatten = List.replicate n d := by
  induction n with
  | zero => rfl
  | succ n ih => rw [List.replicate_succ, List.flatten_cons, ih, List.replicate_succ]; rfl
theorem mulT_n (x : D) (n : Nat) (h1 : 1 ≤ n) (h : n ≤ 1000) : dMulT (.tuple [x]) (.int n) = some (.tuple (List.replicate n x)) := by
  have m1 := dMulT_i [x] (n : Int) ⟨by simp, by omega, by omega, by simp⟩
  rw [Int.toNat_natCast, flat_one] at m1
  exact m1
/-! ### walkers and worlds -/
structure Wa where
  name : Str
  s : Nat
  t : Nat
  days : List Int
def waD (w : Wa) : D := .tuple [.str w.name, .int w.s, .int w.t, .tuple (inD w.days)]
structure Wo where
  g : Gr
  wk : Int
  ws : List Wa
def woD (w : Wo) : D := .tuple [grD w.g, .int w.wk, .tuple (w.ws.map waD)]
@[simp] theorem atI_n {α : Type} (f : α → D) (xs : List α) (i : Nat) : atI (xs.map f) (i : Int) = (xs[i]?).map f := atI_map f xs i
theorem eraseIdx_map' {α β : Type} (f : α → β) : ∀ (xs : List α) (i : Nat), (xs.map f).eraseIdx i = (xs.eraseIdx i).map f
  | [], _ => rfl
  | _ :: _, 0 => rfl
  | x :: xs, i + 1 => by simp [eraseIdx_map' f xs i]
@[simp] theorem cast_beq (a b : Nat) : ((a : Int) == (b : Int)) = (a == b) := by
  rw [Bool.eq_iff_iff, beq_iff_eq, beq_iff_eq]; omega
end M
set_option Elab.async false
set_option linter.all false
set_option maxRecDepth 100000
/-! N3: the first of the least ways -/
namespace M
open PySem PySem.Spec L2 TD
def tightB (pr : List Int) (L : Lab) (x : Int) (p : Nat × Nat) : Bool := match L[p.2]?.join with
  | some y => decide (x = pr.getD p.1 0 + y)
  | none => false
def tights (g : Gr) (pr fz : List Int) (L : Lab) (u : Nat) : List (Nat × Nat) := (steps g fz u).filter (tightB pr L (L[u]?.join.getD 0))
/-- the way that takes the first tight tie each time -/
def fw (g : Gr) (pr fz : List Int) (L : Lab) (t : Nat) : Nat → Nat → List Nat
  | 0, _ => []
  | n + 1, u => if u = t then [] else match tights g pr fz L u with
    | p :: _ => p.1 :: fw g pr fz L t n p.2
    | [] => []
/-- how many places are no further than so much -/
def rank (L : Lab) (x : Int) : Nat := L.countP fun o => match o with
  | some y => decide (y ≤ x)
  | none => false
theorem countP_lt {α : Type} {p q : α → Bool} : ∀ {l : List α} {a : α}, (∀ b ∈ l, p b = true → q b = true) → a ∈ l → q a = true → p a = false → l.countP p < l.countP q
  | b :: l, a, h, m, hq, hp => by
    rw [List.countP_cons, List.countP_cons]
    have mono : l.countP p ≤ l.countP q := List.countP_mono_left fun c mc => h c (List.mem_cons_of_mem _ mc)
    rcases List.mem_cons.1 m with rfl | m
    · rw [hq, hp]; simp; omega
    · have := countP_lt (fun c mc => h c (List.mem_cons_of_mem _ mc)) m hq hp
      have hb := h b (List.mem_cons_self ..)
      cases e : p b
      · simp; split <;> omega
      · rw [hb e]; simp; omega
theorem rank_le (L : Lab) (x : Int) : rank L x ≤ L.length := List.countP_le_length
theorem rank_lt {L : Lab} {u : Nat} {x y : Int} (hu : L[u]? = some (some x)) (h : y < x) : rank L y < rank L x :=
  countP_lt (fun o _ e => by
    cases o with
    | none => simp at e
    | some z => simp at e ⊢; omega) (List.mem_of_getElem? hu) (by simp) (by simp; omega)
theorem rank_pos {L : Lab} {u : Nat} {x : Int} (hu : L[u]? = some (some x)) : 1 ≤ rank L x := by
  have := rank_lt hu (show x - 1 < x by omega)
  omega
/-! ### ways -/
inductive Path (g : Gr) (fz : List Int) : Nat → Nat → List Nat → Prop
  | nil (u : Nat) : Path g fz u u []
  | cons {k u v w : Nat} {ks : List Nat} : (k, v) ∈ steps g fz u → Path g fz v w ks → Path g fz u w (k :: ks)
def paid (pr : List Int) (ks : List Nat) : Int := (ks.map fun k => pr.getD k 0).sum
theorem paid_nil (pr : List Int) : paid pr [] = 0 := rfl
theorem paid_cons (pr : List Int) (k : Nat) (ks : List Nat) : paid pr (k :: ks) = pr.getD k 0 + paid pr ks := by simp [paid]
theorem tight_mem {g : Gr} {pr fz : List Int} {L : Lab} {u : Nat} {x : Int} (hu : L[u]? = some (some x)) {p : Nat × Nat} : p ∈ tights g pr fz L u ↔ p ∈ steps g fz u ∧ ∃ y, L[p.2]? = some (some y) ∧ x = pr.getD p.1 0 + y := by
  unfold tights
  rw [List.mem_filter, hu]
  simp only [Option.join_some, Option.getD_some]
  unfold tightB
  cases e : L[p.2]?.join with
  | none =>
    simp only [Bool.false_eq_true, and_false, false_iff, not_and, not_exists]
    rintro _ y h
    rw [h] at e; simp at e
  | some y =>
    have e2 : L[p.2]? = some (some y) := by
      cases h : L[p.2]? with
      | none => rw [h] at e; simp at e
      | some o => rw [h] at e; simp at e; rw [e]
    rw [e2]
    constructor
    · rintro ⟨a, b⟩; exact ⟨a, y, rfl, of_decide_eq_true b⟩
    · rintro ⟨a, z, h1, h2⟩; cases h1; exact ⟨a, decide_eq_true h2⟩
/-- away from the goal there is a tight tie -/
theorem tight_ex {g : Gr} (hg : GrOk g) {pr fz : List Int} {t : Nat} {L : Lab} (hp : ∀ c ∈ pr, 0 < c ∧ c ≤ 99) (d : Dist g.n (Garc g pr fz) t L) {u : Nat} {x : Int} (hu : L[u]? = some (some x)) (hn : u ≠ t) :
    ∃ p ps, tights g pr fz L u = p :: ps := by
  rcases d.why u x hu with ⟨e, _⟩ | ⟨v, y, c, hv, arc, e⟩
  · exact (hn e).elim
  · obtain ⟨k, hk, hc⟩ := steps_arc.1 arc.sym
    have m : (k, v) ∈ tights g pr fz L u := (tight_mem hu).2 ⟨hk, y, hv, by simp [List.getD, hc]; omega⟩
    cases h : tights g pr fz L u with
    | nil => rw [h] at m; simp at m
    | cons p ps => exact ⟨p, ps, rfl⟩
theorem tight_lt {g : Gr} {pr fz : List Int} {L : Lab} (hp : ∀ c ∈ pr, 0 < c ∧ c ≤ 99) (hpl : pr.length = g.ts.length) {u : Nat} {x : Int} (hu : L[u]? = some (some x)) {p : Nat × Nat} (m : p ∈ tights g pr fz L u) :
    ∃ y, L[p.2]? = some (some y) ∧ x = pr.getD p.1 0 + y ∧ y < x ∧ p ∈ steps g fz u ∧ p.1 < pr.length := by
  obtain ⟨hs, y, hy, e⟩ := (tight_mem hu).1 m
  obtain ⟨t, h1, _⟩ := steps_mem.1 (show (p.1, p.2) ∈ steps g fz u from hs)
  have hk : p.1 < pr.length := by rw [hpl]; exact (List.getElem?_eq_some_iff.1 h1).1
  have := hp _ (List.getElem_mem hk)
  have e2 : pr.getD p.1 0 = pr[p.1] := by simp [List.getD, List.getElem?_eq_getElem hk]
  exact ⟨y, hy, e, by omega, hs, hk⟩
theorem fw_len (g : Gr) (pr fz : List Int) (L : Lab) (t : Nat) : ∀ n u, (fw g pr fz L t n u).length ≤ n
  | 0, _ => by simp [fw]
  | n + 1, u => by
    unfold fw
    split
    · simp
    · split
      · simp only [List.length_cons]; have := fw_len g pr fz L t n; exact Nat.succ_le_succ (this _)
      · simp
/-- it is a way, of least cost -/
theorem fw_path {g : Gr} (hg : GrOk g) {pr fz : List Int} {t : Nat} {L : Lab} (hp : ∀ c ∈ pr, 0 < c ∧ c ≤ 99) (hpl : pr.length = g.ts.length) (d : Dist g.n (Garc g pr fz) t L) :
    ∀ (n u : Nat) (x : Int), L[u]? = some (some x) → rank L x ≤ n → Path g fz u t (fw g pr fz L t n u) ∧ paid pr (fw g pr fz L t n u) = x
  | 0, u, x, hu, h => by have := rank_pos hu; omega
  | n + 1, u, x, hu, h => by
    unfold fw
    by_cases e : u = t
    · rw [if_pos e]
      subst e
      refine ⟨.nil _, ?_⟩
      have := d.s0
      rw [hu] at this; cases this; rfl
    · rw [if_neg e]
      obtain ⟨p, ps, q⟩ := tight_ex hg hp d hu e
      rw [q]
      obtain ⟨y, hy, ex, lt, hs, _⟩ := tight_lt hp hpl hu (show p ∈ tights g pr fz L u by rw [q]; exact List.mem_cons_self ..)
      obtain ⟨a, b⟩ := fw_path hg hp hpl d n p.2 y hy (by have := rank_lt hu lt; omega)
      exact ⟨.cons hs a, by rw [paid_cons, b]; omega⟩
/-- no way is cheaper than the least cost -/
theorem path_ge {g : Gr} (hg : GrOk g) {pr fz : List Int} {t : Nat} {L : Lab} (hpl : pr.length = g.ts.length) (d : Dist g.n (Garc g pr fz) t L) {u : Nat} {ks : List Nat} (h : Path g fz u t ks) : ∃ x, L[u]? = some (some x) ∧ x ≤ paid pr ks := by
  induction h with
  | nil => exact ⟨0, d.s0, Int.le_refl _⟩
  | @cons k u v w ks hs _ ih =>
    obtain ⟨x, hx, l⟩ := ih d
    obtain ⟨t', h1, _⟩ := steps_mem.1 hs
    have hk : k < pr.length := by rw [hpl]; exact (List.getElem?_eq_some_iff.1 h1).1
    have arc : Garc g pr fz u v pr[k] := steps_arc.2 ⟨k, hs, List.getElem?_eq_getElem hk⟩
    obtain ⟨y, hy, l2⟩ := d.rel _ _ _ _ hx arc.sym
    refine ⟨y, hy, ?_⟩
    have e2 : pr.getD k 0 = pr[k] := by simp [List.getD, List.getElem?_eq_getElem hk]
    rw [paid_cons, e2]; omega
theorem Path.lt {g : Gr} (hg : GrOk g) {fz : List Int} {u w : Nat} {ks : List Nat} (h : Path g fz u w ks) : ∀ k ∈ ks, k < g.ts.length := by
  induction h with
  | nil => simp
  | @cons k u v w ks hs _ ih =>
    intro j hj
    rcases List.mem_cons.1 hj with rfl | hj
    · obtain ⟨t, h1, _⟩ := steps_mem.1 hs
      exact (List.getElem?_eq_some_iff.1 h1).1
    · exact ih j hj
theorem Path.split {g : Gr} {fz : List Int} {u w : Nat} {ks : List Nat} (h : Path g fz u w ks) {k : Nat} (m : k ∈ ks) : ∃ a b v v', ks = a ++ k :: b ∧ Path g fz u v a ∧ (k, v') ∈ steps g fz v ∧ Path g fz v' w b := by
  induction h with
  | nil => simp at m
  | @cons j u v w ks hs hp ih =>
    rcases List.mem_cons.1 m with rfl | m
    · exact ⟨[], ks, u, v, rfl, .nil u, hs, hp⟩
    · obtain ⟨a, b, x, x', e, p1, p2, p3⟩ := ih m
      exact ⟨j :: a, b, x, x', by rw [e]; rfl, .cons hs p1, p2, p3⟩
theorem paid_app (pr : List Int) (a b : List Nat) : paid pr (a ++ b) = paid pr a + paid pr b := by simp [paid]
theorem step_back {g : Gr} (hg : GrOk g) {fz : List Int} {k u v : Nat} (h : (k, v) ∈ steps g fz u) : (k, u) ∈ steps g fz v := by
  obtain ⟨t, h1, h2, h3, h4⟩ := steps_mem.1 h
  have T := (hg.ok t (List.mem_of_getElem? h1)).ab
  refine steps_mem.2 ⟨t, h1, h2, ?_, ?_⟩ <;> rcases h3 with rfl | rfl <;> omega
theorem Path.app {g : Gr} {fz : List Int} {u v w : Nat} {a b : List Nat} (h : Path g fz u v a) (h2 : Path g fz v w b) : Path g fz u w (a ++ b) := by
  induction h with
  | nil => exact h2
  | cons hs _ ih => exact .cons hs (ih h2)
theorem Path.rev {g : Gr} (hg : GrOk g) {fz : List Int} {u w : Nat} {ks : List Nat} (h : Path g fz u w ks) : Path g fz w u ks.reverse := by
  induction h with
  | nil => exact .nil _
  | cons hs _ ih => rw [List.reverse_cons]; exact ih.app (.cons (step_back hg hs) (.nil _))
theorem paid_rev (pr : List Int) (ks : List Nat) : paid pr ks.reverse = paid pr ks := by
  induction ks with
  | nil => rfl
  | cons k ks ih => rw [List.reverse_cons, paid_app, ih, paid_cons, paid_cons, paid_nil]; omega
theorem paid_le {p q : List Int} {ks : List Nat} (h : ∀ k ∈ ks, p.getD k 0 ≤ q.getD k 0) : paid p ks ≤ paid q ks := by
  induction ks with
  | nil => exact Int.le_refl _
  | cons k ks ih =>
    rw [paid_cons, paid_cons]
    have := h k (List.mem_cons_self ..)
    have := ih fun j m => h j (List.mem_cons_of_mem _ m)
    omega
def wayD (ks : List Nat) : D := .tuple (nsD ks)
def wayO (g : Gr) (pr fz : List Int) (L : Lab) (s t : Nat) : D := match L[s]?.join with
  | some _ => wayD (fw g pr fz L t g.n s)
  | none => .none
end M
set_option Elab.async false
set_option linter.all false
set_option maxRecDepth 100000
/-! N4: all simple ways, as the laws list them -/
namespace M
open PySem PySem.Spec L2 TD
/-- a way that is begun: its ties, the places behind, the place where it stands -/
structure Wy where
  line : List Nat
  pre : List Nat
  at_ : Nat
def wyD (w : Wy) : D := .tuple [.tuple (nsD w.line), .list (nsD (w.pre ++ [w.at_]))]
def fresh (w : Wy) (p : Nat × Nat) : Bool := !decide (p.2 ∈ w.pre ++ [w.at_])
def kids (g : Gr) (fz : List Int) (w : Wy) : List Wy := ((steps g fz w.at_).filter (fresh w)).map fun p => ⟨w.line ++ [p.1], w.pre ++ [w.at_], p.2⟩
def ext (g : Gr) (fz : List Int) (t : Nat) : Nat → Wy → List (List Nat)
  | 0, _ => []
  | n + 1, w => if w.at_ = t then [w.line] else (kids g fz w).reverse.flatMap (ext g fz t n)
/-- the ties that no place behind has -/
def free (g : Gr) (pre : List Nat) : Nat := g.ts.countP fun t => !decide (t.a ∈ pre) && !decide (t.b ∈ pre)
theorem countP_add {α : Type} {p q r : α → Bool} : ∀ {l : List α}, (∀ x ∈ l, (p x = true → r x = true ∧ q x = false) ∧ (q x = true → r x = true)) → l.countP p + l.countP q ≤ l.countP r
  | [], _ => by simp
  | x :: l, h => by
    have ih := countP_add (p := p) (q := q) (r := r) (l := l) fun y m => h y (List.mem_cons_of_mem _ m)
    obtain ⟨h1, h2⟩ := h x (List.mem_cons_self ..)
    rw [List.countP_cons, List.countP_cons, List.countP_cons]
    cases e1 : p x
    · cases e2 : q x
      · simp; omega
      · rw [h2 e2]; simp; omega
    · obtain ⟨a, b⟩ := h1 e1
      rw [a, b]; simp; omega
theorem countP_zip {α : Type} (p : α → Bool) : ∀ (l : List α) (n : Nat), (l.zipIdx n).countP (fun x => p x.1) = l.countP p
  | [], _ => rfl
  | x :: l, n => by rw [List.zipIdx_cons, List.countP_cons, List.countP_cons, countP_zip p l (n + 1)]
theorem kids_len (g : Gr) (hg : GrOk g) (fz : List Int) (w : Wy) (hw : w.at_ ∉ w.pre) : (kids g fz w).length + free g (w.pre ++ [w.at_]) ≤ free g w.pre := by
  unfold kids free steps
  rw [List.length_map, List.filter_map, List.length_map, List.filter_filter, ← List.countP_eq_length_filter, ← countP_zip _ g.ts 0, ← countP_zip _ g.ts 0]
  refine countP_add fun p m => ?_
  have T := hg.ok p.1 (by have := List.mem_zipIdx_iff_getElem?.1 (show (p.1, p.2) ∈ g.ts.zipIdx from m); exact List.mem_of_getElem? (by simpa using this))
  have ab := T.ab
  constructor
  · intro h
    simp only [Bool.and_eq_true, Function.comp_apply, fresh, Bool.not_eq_true', decide_eq_false_iff_not, Bool.or_eq_true, beq_iff_eq, List.mem_append, List.mem_singleton, not_or] at h
    obtain ⟨⟨h1, h2⟩, _, h3⟩ := h
    rcases h3 with h3 | h3
    · have e : p.1.a + p.1.b - w.at_ = p.1.b := by omega
      rw [e] at h1
      constructor
      · simp only [Bool.and_eq_true, Bool.not_eq_true', decide_eq_false_iff_not]
        exact ⟨by rw [← h3]; exact hw, h1⟩
      · simp [h3]
    · have e : p.1.a + p.1.b - w.at_ = p.1.a := by omega
      rw [e] at h1
      constructor
      · simp only [Bool.and_eq_true, Bool.not_eq_true', decide_eq_false_iff_not]
        exact ⟨h1, by rw [← h3]; exact hw⟩
      · simp [h3]
  · intro h
    simp only [Bool.and_eq_true, Bool.not_eq_true', decide_eq_false_iff_not, List.mem_append, List.mem_singleton, not_or] at h ⊢
    exact ⟨h.1.1, h.2.1⟩
theorem le_pow2 : ∀ d : Nat, d ≤ 2 ^ d
  | 0 => by simp
  | d + 1 => by have := le_pow2 d; have : 1 ≤ 2 ^ d := Nat.one_le_two_pow; rw [Nat.pow_succ]; omega
theorem kids_mem {g : Gr} {fz : List Int} {w v : Wy} (h : v ∈ kids g fz w) : v.pre = w.pre ++ [w.at_] ∧ v.at_ ∉ v.pre ∧ ∃ k, v.line = w.line ++ [k] ∧ (k, v.at_) ∈ steps g fz w.at_ := by
  obtain ⟨p, hp, rfl⟩ := List.mem_map.1 h
  obtain ⟨a, b⟩ := List.mem_filter.1 hp
  exact ⟨rfl, by simpa [fresh] using b, p.1, rfl, a⟩
theorem flat_len {α β : Type} (f : α → List β) (m : Nat) : ∀ l : List α, (∀ x ∈ l, (f x).length ≤ m) → (l.flatMap f).length ≤ l.length * m
  | [], _ => by simp
  | x :: l, h => by
    have := flat_len f m l fun y q => h y (List.mem_cons_of_mem _ q)
    have := h x (List.mem_cons_self ..)
    rw [List.flatMap_cons, List.length_append, List.length_cons, Nat.add_mul]; omega
theorem ext_len {g : Gr} (hg : GrOk g) (fz : List Int) (t : Nat) : ∀ (n : Nat) (w : Wy), w.at_ ∉ w.pre → (ext g fz t n w).length ≤ 2 ^ free g w.pre
  | 0, w, _ => by simp [ext]
  | n + 1, w, hw => by
    unfold ext
    split
    · simp only [List.length_singleton]; exact Nat.one_le_two_pow
    · have kl := kids_len g hg fz w hw
      have := flat_len (ext g fz t n) (2 ^ free g (w.pre ++ [w.at_])) (kids g fz w).reverse fun v m => by
        obtain ⟨a, b, _⟩ := kids_mem (List.mem_reverse.1 m)
        have := ext_len hg fz t n v b
        rw [a] at this; exact this
      rw [List.length_reverse] at this
      refine Nat.le_trans this ?_
      refine Nat.le_trans (Nat.mul_le_mul_right _ (le_pow2 _)) ?_
      rw [← Nat.pow_add]
      exact Nat.pow_le_pow_right (by omega) kl
/-! ### the heap of ways that are begun -/
inductive St : Nat → List Wy → Prop
  | nil (k : Nat) : St k []
  | push {k : Nat} {ws vs : List Wy} : St k ws → vs.length ≤ 14 → (∀ v ∈ vs, v.pre.length = k) → St (k + 1) (ws ++ vs)
theorem St.len {k : Nat} {ws : List Wy} (h : St k ws) : ws.length ≤ 14 * k := by
  induction h with
  | nil => simp
  | push _ l _ ih => rw [List.length_append]; omega
theorem St.pop {k : Nat} {ws : List Wy} (h : St k ws) : ∀ {rest : List Wy} {x : Wy}, ws = rest ++ [x] → St (x.pre.length + 1) rest ∧ x.pre.length < k := by
  induction h with
  | nil => intro rest x e; simp at e
  | @push k ws vs hs l hv ih =>
    intro rest x e
    rcases List.eq_nil_or_concat vs with rfl | ⟨us, y, rfl⟩
    · rw [List.append_nil] at e
      obtain ⟨a, b⟩ := ih e
      exact ⟨a, by omega⟩
    · rw [List.concat_eq_append, ← List.append_assoc] at e
      obtain ⟨e1, e2⟩ := List.append_inj' e rfl
      cases e2
      have := hv x (by simp)
      rw [this]
      refine ⟨?_, by omega⟩
      rw [← e1]
      exact .push hs (by simp at l; omega) fun v m => hv v (by simp [m])
end M
set_option Elab.async false
set_option linter.all false
set_option maxRecDepth 100000
/-! N5: the listing of all simple ways, by a heap of ways that are begun -/
namespace M
open PySem PySem.Spec L2 TD
def exts (g : Gr) (fz : List Int) (t : Nat) (w : Wy) : List (List Nat) := ext g fz t (15 - w.pre.length) w
structure AI (g : Gr) (fz : List Int) (t : Nat) (E0 : List (List Nat)) (found : List (List Nat)) (ws : List Wy) : Prop where
  sum : found ++ ws.reverse.flatMap (exts g fz t) = E0
  st : ∃ k, k ≤ 15 ∧ St k ws
  ok : ∀ w ∈ ws, w.at_ ∉ w.pre ∧ w.pre.length + free g w.pre ≤ 14 ∧ w.line.length = w.pre.length
def mu (ws : List Wy) : Nat := (ws.map fun w => 15 ^ (15 - w.pre.length)).sum
theorem mu_app (a b : List Wy) : mu (a ++ b) = mu a + mu b := by simp [mu]
theorem mu_le (m : Nat) : ∀ ws : List Wy, (∀ w ∈ ws, 15 - w.pre.length = m) → mu ws = ws.length * 15 ^ m
  | [], _ => by simp [mu]
  | w :: ws, h => by
    have := mu_le m ws fun v q => h v (List.mem_cons_of_mem _ q)
    have e := h w (List.mem_cons_self ..)
    have c : mu (w :: ws) = 15 ^ (15 - w.pre.length) + mu ws := by simp [mu]
    rw [c, this, e, List.length_cons, Nat.add_mul]; omega
theorem free_le (g : Gr) (pre : List Nat) : free g pre ≤ g.ts.length := List.countP_le_length
theorem kids_14 {g : Gr} (hg : GrOk g) (fz : List Int) (w : Wy) : (kids g fz w).length ≤ 14 := by
  unfold kids
  rw [List.length_map]
  exact Nat.le_trans (List.length_filter_le _ _) (Nat.le_trans (steps_len g fz w.at_) hg.t14)
theorem flat_congr {α β : Type} {f h : α → List β} : ∀ {l : List α}, (∀ x ∈ l, f x = h x) → l.flatMap f = l.flatMap h
  | [], _ => rfl
  | x :: l, q => by rw [List.flatMap_cons, List.flatMap_cons, q x (List.mem_cons_self ..), flat_congr fun y m => q y (List.mem_cons_of_mem _ m)]
theorem AI.begin {g : Gr} (hg : GrOk g) (fz : List Int) (t s : Nat) : AI g fz t (exts g fz t ⟨[], [], s⟩) [] [⟨[], [], s⟩] :=
  ⟨by simp, ⟨1, by omega, .push (ws := []) (.nil 0) (by simp) (by simp)⟩, by
    intro w m
    rw [List.mem_singleton.1 m]
    have := free_le g []
    have := hg.t14
    exact ⟨by simp, by dsimp only [List.length_nil]; omega, rfl⟩⟩
theorem AI.found {g : Gr} {fz : List Int} {t : Nat} {E0 found : List (List Nat)} {rest : List Wy} {w : Wy} (h : AI g fz t E0 found (rest ++ [w])) (e : w.at_ = t) : AI g fz t E0 (found ++ [w.line]) rest := by
  obtain ⟨k, hk, hs⟩ := h.st
  obtain ⟨s1, s2⟩ := hs.pop rfl
  have ok := h.ok w (by simp)
  have hl : 15 - w.pre.length = (14 - w.pre.length) + 1 := by omega
  refine ⟨?_, ⟨w.pre.length + 1, by omega, s1⟩, fun v m => h.ok v (List.mem_append_left _ m)⟩
  have := h.sum
  rw [List.reverse_append, List.reverse_singleton, List.singleton_append, List.flatMap_cons] at this
  have ex : exts g fz t w = [w.line] := by unfold exts; rw [hl]; unfold ext; rw [if_pos e]
  rw [ex] at this
  rw [← this, List.append_assoc]
theorem AI.more {g : Gr} (hg : GrOk g) {fz : List Int} {t : Nat} {E0 found : List (List Nat)} {rest : List Wy} {w : Wy} (h : AI g fz t E0 found (rest ++ [w])) (e : w.at_ ≠ t) : AI g fz t E0 found (rest ++ kids g fz w) := by
  obtain ⟨k, hk, hs⟩ := h.st
  obtain ⟨s1, s2⟩ := hs.pop rfl
  obtain ⟨o1, o2, o3⟩ := h.ok w (by simp)
  have kl := kids_len g hg fz w o1
  have hl : 15 - w.pre.length = (14 - w.pre.length) + 1 := by omega
  refine ⟨?_, ?_, ?_⟩
  · have := h.sum
    rw [List.reverse_append, List.reverse_singleton, List.singleton_append, List.flatMap_cons] at this
    have ex : exts g fz t w = (kids g fz w).reverse.flatMap (exts g fz t) := by
      show ext g fz t (15 - w.pre.length) w = _
      rw [hl]
      unfold ext
      rw [if_neg e]
      have : ∀ v ∈ (kids g fz w).reverse, ext g fz t (14 - w.pre.length) v = exts g fz t v := fun v m => by
        obtain ⟨a, _⟩ := kids_mem (List.mem_reverse.1 m)
        unfold exts
        rw [a, List.length_append, List.length_singleton, show 15 - (w.pre.length + 1) = 14 - w.pre.length by omega]
      exact flat_congr this
    rw [ex] at this
    rw [List.reverse_append, List.flatMap_append]
    exact this
  · by_cases z : kids g fz w = []
    · rw [z, List.append_nil]; exact ⟨w.pre.length + 1, by omega, s1⟩
    · have : 1 ≤ (kids g fz w).length := by cases q : kids g fz w with | nil => exact (z q).elim | cons => simp
      exact ⟨w.pre.length + 1 + 1, by omega, .push s1 (kids_14 hg fz w) fun v m => by
        obtain ⟨a, _⟩ := kids_mem m
        rw [a, List.length_append, List.length_singleton]⟩
  · intro v m
    rcases List.mem_append.1 m with m | m
    · exact h.ok v (List.mem_append_left _ m)
    · obtain ⟨a, b, j, c, _⟩ := kids_mem m
      have : 1 ≤ (kids g fz w).length := List.length_pos_of_mem m
      refine ⟨b, ?_, ?_⟩
      · rw [a, List.length_append, List.length_singleton]; omega
      · rw [a, c, List.length_append, List.length_append, o3]; rfl
theorem mu_more {g : Gr} (hg : GrOk g) (fz : List Int) {rest : List Wy} {w : Wy} (h : w.pre.length ≤ 14) : mu (rest ++ kids g fz w) < mu (rest ++ [w]) := by
  rw [mu_app, mu_app]
  have a := mu_le (14 - w.pre.length) (kids g fz w) fun v m => by
    obtain ⟨a, _⟩ := kids_mem m
    rw [a, List.length_append, List.length_singleton]; omega
  have b : mu [w] = 15 ^ (14 - w.pre.length) * 15 := by
    have : mu [w] = 15 ^ (15 - w.pre.length) := by simp [mu]
    rw [this, show 15 - w.pre.length = (14 - w.pre.length) + 1 by omega, Nat.pow_succ]
  have c := kids_14 hg fz w
  have p : 1 ≤ 15 ^ (14 - w.pre.length) := Nat.one_le_pow _ _ (by omega)
  have d := Nat.mul_le_mul_right (15 ^ (14 - w.pre.length)) c
  rw [a, b]; omega
theorem mu_found {rest : List Wy} {w : Wy} : mu rest < mu (rest ++ [w]) := by
  rw [mu_app]
  have : mu [w] = 15 ^ (15 - w.pre.length) := by simp [mu]
  have p : 1 ≤ 15 ^ (15 - w.pre.length) := Nat.one_le_pow _ _ (by omega)
  omega
theorem AI.lens {g : Gr} (hg : GrOk g) {fz : List Int} {t s : Nat} {found : List (List Nat)} {ws : List Wy} (h : AI g fz t (exts g fz t ⟨[], [], s⟩) found ws) : found.length ≤ 16384 ∧ ws.length ≤ 210 := by
  obtain ⟨k, hk, hs⟩ := h.st
  have a := hs.len
  have b : (exts g fz t ⟨[], [], s⟩).length ≤ 2 ^ free g [] := ext_len hg fz t _ _ (by simp)
  have c : free g [] ≤ 14 := Nat.le_trans (free_le g []) hg.t14
  have d : 2 ^ free g [] ≤ 2 ^ 14 := Nat.pow_le_pow_right (by omega) c
  have e := congrArg List.length h.sum
  rw [List.length_append] at e
  have : 2 ^ 14 = 16384 := by decide
  omega
/-! ### the ties that lead on, by number -/
theorem zip_range (g : Gr) : g.ts.zipIdx = (List.range g.ts.length).map fun k => (g.ts.getD k tiZ, k) := by
  apply List.ext_getElem?
  intro i
  rw [List.getElem?_zipIdx, List.getElem?_map]
  by_cases h : i < g.ts.length
  · rw [List.getElem?_range h, List.getElem?_eq_getElem h]
    simp [List.getD, List.getElem?_eq_getElem h]
  · rw [List.getElem?_eq_none (by omega), List.getElem?_eq_none (by simp; omega)]; rfl
def kidB (g : Gr) (fz : List Int) (w : Wy) (k : Nat) : Bool := !fz.contains (k : Int) && (w.at_ == (g.ts.getD k tiZ).a || w.at_ == (g.ts.getD k tiZ).b) && !decide ((g.ts.getD k tiZ).a + (g.ts.getD k tiZ).b - w.at_ ∈ w.pre ++ [w.at_])
def kidW (g : Gr) (w : Wy) (k : Nat) : Wy := ⟨w.line ++ [k], w.pre ++ [w.at_], (g.ts.getD k tiZ).a + (g.ts.getD k tiZ).b - w.at_⟩
theorem kids_range (g : Gr) (fz : List Int) (w : Wy) : kids g fz w = ((List.range g.ts.length).filter (kidB g fz w)).map (kidW g w) := by
  unfold kids steps
  rw [zip_range, List.filter_map, List.map_map, List.filter_map, List.filter_map, List.map_map, List.filter_filter]
  congr 1
  apply List.filter_congr
  intro k _
  simp [kidB, fresh, Function.comp_def, Bool.and_comm]
end M
set_option Elab.async false
set_option linter.all false
set_option maxRecDepth 100000
/-! N6: of all ways as they are listed the first of the least ones is the one that takes the first tight tie each time -/
namespace M
open PySem PySem.Spec L2 TD PySem.W
/-- strictly ahead, by the order of tuples -/
def Bef : List Nat → List Nat → Prop
  | [], [] => False
  | [], _ :: _ => True
  | _ :: _, [] => False
  | x :: xs, y :: ys => x < y ∨ (x = y ∧ Bef xs ys)
theorem Bef.irr : ∀ xs : List Nat, ¬ Bef xs xs
  | [], h => h
  | x :: xs, h => by
    rcases h with h | ⟨_, h⟩
    · omega
    · exact Bef.irr xs h
theorem Bef.asymm : ∀ {xs ys : List Nat}, Bef xs ys → ¬ Bef ys xs
  | [], [], h => h.elim
  | [], _ :: _, _ => fun h => h
  | _ :: _, [], h => h.elim
  | x :: xs, y :: ys, h => fun h2 => by
    rcases h with h | ⟨e, h⟩
    · rcases h2 with h2 | ⟨e, _⟩ <;> omega
    · rcases h2 with h2 | ⟨_, h2⟩
      · omega
      · exact Bef.asymm h h2
theorem zip_sorted : ∀ (l : List Ti) (n : Nat), (l.zipIdx n).Pairwise (fun p q => p.2 < q.2)
  | [], _ => .nil
  | t :: l, n => by
    rw [List.zipIdx_cons]
    refine .cons (fun q m => ?_) (zip_sorted l (n + 1))
    have := List.le_snd_of_mem_zipIdx m
    dsimp only; omega
theorem steps_sorted (g : Gr) (fz : List Int) (u : Nat) : (steps g fz u).Pairwise (fun p q => p.1 < q.1) := by
  unfold steps
  rw [List.pairwise_map]
  exact (zip_sorted g.ts 0).filter _
theorem tights_sorted (g : Gr) (pr fz : List Int) (L : Lab) (u : Nat) : (tights g pr fz L u).Pairwise (fun p q => p.1 < q.1) := (steps_sorted g fz u).filter _
theorem paid_pos {g : Gr} {pr fz : List Int} (hp : ∀ c ∈ pr, 0 < c ∧ c ≤ 99) (hpl : pr.length = g.ts.length) {u w k : Nat} {ks : List Nat} (h : Path g fz u w ks) (hn : ks ≠ []) : 0 < paid pr ks := by
  induction h with
  | nil => exact (hn rfl).elim
  | @cons k u v w ks hs hp2 ih =>
    obtain ⟨t, h1, _⟩ := steps_mem.1 hs
    have hk : k < pr.length := by rw [hpl]; exact (List.getElem?_eq_some_iff.1 h1).1
    have e2 : pr.getD k 0 = pr[k] := by simp [List.getD, List.getElem?_eq_getElem hk]
    have := hp _ (List.getElem_mem hk)
    rw [paid_cons, e2]
    by_cases e : ks = []
    · rw [e, paid_nil]; omega
    · have := ih e; omega
/-- of the least ways it is the first -/
theorem fw_first {g : Gr} (hg : GrOk g) {pr fz : List Int} {t : Nat} {L : Lab} (hp : ∀ c ∈ pr, 0 < c ∧ c ≤ 99) (hpl : pr.length = g.ts.length) (d : Dist g.n (Garc g pr fz) t L) :
    ∀ (n u : Nat) (x : Int) (l : List Nat), L[u]? = some (some x) → rank L x ≤ n → Path g fz u t l → paid pr l = x → l = fw g pr fz L t n u ∨ Bef (fw g pr fz L t n u) l
  | 0, u, x, l, hu, h, _, _ => by have := rank_pos hu; omega
  | n + 1, u, x, l, hu, h, hl, hx => by
    unfold fw
    by_cases e : u = t
    · rw [if_pos e]
      subst e
      have := d.s0
      rw [hu] at this; cases this
      by_cases z : l = []
      · exact .inl z
      · have := paid_pos (k := 0) hp hpl hl z; omega
    · rw [if_neg e]
      cases hl with
      | nil => exact (e rfl).elim
      | @cons k u v w ks hs hp2 =>
        obtain ⟨y, hy, l1⟩ := path_ge hg hpl d hp2
        obtain ⟨ti, h1, _⟩ := steps_mem.1 hs
        have hk : k < pr.length := by rw [hpl]; exact (List.getElem?_eq_some_iff.1 h1).1
        have arc : Garc g pr fz u v pr[k] := steps_arc.2 ⟨k, hs, List.getElem?_eq_getElem hk⟩
        obtain ⟨x', hx', l2⟩ := d.rel _ _ _ _ hy arc.sym
        rw [hu] at hx'; cases hx'
        have e2 : pr.getD k 0 = pr[k] := by simp [List.getD, List.getElem?_eq_getElem hk]
        rw [paid_cons, e2] at hx
        have hm : (k, v) ∈ tights g pr fz L u := (tight_mem hu).2 ⟨hs, y, hy, by rw [e2]; omega⟩
        have so := tights_sorted g pr fz L u
        cases q : tights g pr fz L u with
        | nil => rw [q] at hm; cases hm
        | cons p ps =>
          have pm : p ∈ tights g pr fz L u := by rw [q]; exact List.mem_cons_self ..
          obtain ⟨y2, hy2, ex, lt, hs2, _⟩ := tight_lt hp hpl hu pm
          rw [q] at hm so
          dsimp only
          rcases List.mem_cons.1 hm with rfl | m
          · rw [hy] at hy2; cases hy2
            dsimp only at *
            rcases fw_first hg hp hpl d n v y ks hy (by have := rank_lt hu lt; omega) hp2 (by omega) with z | z
            · exact .inl (by rw [← z])
            · exact .inr (.inr ⟨rfl, z⟩)
          · have := (List.pairwise_cons.1 so).1 _ m
            exact .inr (.inl this)
/-- what is listed is a way -/
theorem ext_path {g : Gr} {fz : List Int} {t : Nat} : ∀ (n : Nat) (w : Wy) (l : List Nat), l ∈ ext g fz t n w → ∃ ks, l = w.line ++ ks ∧ Path g fz w.at_ t ks
  | 0, _, _, h => by simp [ext] at h
  | n + 1, w, l, h => by
    unfold ext at h
    by_cases e : w.at_ = t
    · rw [if_pos e] at h
      rw [List.mem_singleton.1 h]
      exact ⟨[], by simp, by rw [e]; exact .nil _⟩
    · rw [if_neg e] at h
      obtain ⟨v, hv, hl⟩ := List.mem_flatMap.1 h
      obtain ⟨_, _, k, c, hs⟩ := kids_mem (List.mem_reverse.1 hv)
      obtain ⟨ks, e2, p⟩ := ext_path n v l hl
      exact ⟨k :: ks, by rw [e2, c, List.append_assoc]; rfl, .cons hs p⟩
theorem ext_short {g : Gr} {fz : List Int} {t : Nat} : ∀ (n : Nat) (w : Wy) (l : List Nat), l ∈ ext g fz t n w → l.length ≤ w.line.length + n
  | 0, _, _, h => by simp [ext] at h
  | n + 1, w, l, h => by
    unfold ext at h
    by_cases e : w.at_ = t
    · rw [if_pos e] at h
      rw [List.mem_singleton.1 h]; omega
    · rw [if_neg e] at h
      obtain ⟨v, hv, hl⟩ := List.mem_flatMap.1 h
      obtain ⟨_, _, k, c, _⟩ := kids_mem (List.mem_reverse.1 hv)
      have := ext_short n v l hl
      rw [c, List.length_append, List.length_singleton] at this
      omega
/-- the one that takes the first tight tie each time is listed -/
theorem fw_ext {g : Gr} (hg : GrOk g) {pr fz : List Int} {t : Nat} {L : Lab} (hp : ∀ c ∈ pr, 0 < c ∧ c ≤ 99) (hpl : pr.length = g.ts.length) (d : Dist g.n (Garc g pr fz) t L) :
    ∀ (n m : Nat) (w : Wy) (x : Int), L[w.at_]? = some (some x) → rank L x ≤ n → n < m → (∀ p ∈ w.pre, ∃ y, L[p]? = some (some y) ∧ x < y) → w.line ++ fw g pr fz L t n w.at_ ∈ ext g fz t m w
  | 0, m, w, x, hu, h, _, _ => by have := rank_pos hu; omega
  | n + 1, m, w, x, hu, h, hm, hpre => by
    obtain ⟨m, rfl⟩ : ∃ m', m = m' + 1 := ⟨m - 1, by omega⟩
    unfold fw ext
    by_cases e : w.at_ = t
    · rw [if_pos e, if_pos e]; simp
    · rw [if_neg e, if_neg e]
      obtain ⟨p, ps, q⟩ := tight_ex hg hp d hu e
      rw [q]
      obtain ⟨y, hy, ex, lt, hs, _⟩ := tight_lt hp hpl hu (show p ∈ tights g pr fz L w.at_ by rw [q]; exact List.mem_cons_self ..)
      have big : ∀ j ∈ w.pre ++ [w.at_], ∃ z, L[j]? = some (some z) ∧ y < z := by
        intro j hj
        rcases List.mem_append.1 hj with m | m
        · obtain ⟨z, a, b⟩ := hpre j m; exact ⟨z, a, by omega⟩
        · rw [List.mem_singleton.1 m]; exact ⟨x, hu, lt⟩
      have fr : fresh w p = true := by
        unfold fresh
        simp only [Bool.not_eq_true', decide_eq_false_iff_not]
        intro hj
        obtain ⟨z, a, b⟩ := big _ hj
        rw [hy] at a; cases a; omega
      have hk : (⟨w.line ++ [p.1], w.pre ++ [w.at_], p.2⟩ : Wy) ∈ kids g fz w := by
        unfold kids
        exact List.mem_map.2 ⟨p, List.mem_filter.2 ⟨hs, fr⟩, rfl⟩
      have := fw_ext hg hp hpl d n m ⟨w.line ++ [p.1], w.pre ++ [w.at_], p.2⟩ y hy (by have := rank_lt hu lt; omega) (by omega) big
      refine List.mem_flatMap.2 ⟨_, List.mem_reverse.2 hk, ?_⟩
      dsimp only at this ⊢
      rw [List.append_assoc] at this
      exact this
/-! ### the first of the least, by data -/
theorem minD_is {b : D} : ∀ (xs : List D) (x : D), b ∈ x :: xs → (∀ q ∈ x :: xs, q = b ∨ (dataLt b q = true ∧ dataLt q b = false)) → minD x xs = b
  | [], x, hb, _ => (List.mem_singleton.1 hb).symm
  | y :: ys, x, hb, h => by
    have e : minD x (y :: ys) = minD (if dataLt y x then y else x) ys := rfl
    rw [e]
    have hx := h x (by simp)
    have hy := h y (by simp)
    have acc : (if dataLt y x then y else x) = x ∨ (if dataLt y x then y else x) = y := by split <;> simp
    refine minD_is ys _ ?_ ?_
    · rcases List.mem_cons.1 hb with rfl | hb
      · have : (if dataLt y b then y else b) = b := by
          rcases hy with rfl | ⟨_, hy⟩
          · simp
          · rw [hy]; rfl
        rw [this]; exact List.mem_cons_self ..
      · rcases List.mem_cons.1 hb with rfl | hb
        · have : (if dataLt b x then b else x) = b := by
            rcases hx with rfl | ⟨hx, _⟩
            · simp
            · rw [hx]; rfl
          rw [this]; exact List.mem_cons_self ..
        · exact List.mem_cons_of_mem _ hb
    · intro q hq
      rcases List.mem_cons.1 hq with rfl | hq
      · rcases acc with a | a <;> rw [a]
        · exact hx
        · exact hy
      · exact h q (by simp [hq])
/-- a cost and a way -/
def pairD (pr : List Int) (l : List Nat) : D := .tuple [.int (paid pr l), wayD l]
def pairT (pr : List Int) (l : List Nat) : Int × Tup Int := (paid pr l, ⟨l.map fun x : Nat => (x : Int)⟩)
theorem pairD_T (pr : List Int) (l : List Nat) : pairD pr l = Datum.toD (pairT pr l) := by
  show _ = PyData.tuple [.int (paid pr l), .tuple ((l.map fun x : Nat => (x : Int)).map fun i => .int i)]
  unfold pairD wayD nsD
  rw [List.map_map]; rfl
theorem bef_lt : ∀ {xs ys : List Nat}, Bef xs ys → listLt (xs.map fun x : Nat => (x : Int)) (ys.map fun x : Nat => (x : Int)) = true
  | [], [], h => h.elim
  | [], _ :: _, _ => rfl
  | _ :: _, [], h => h.elim
  | x :: xs, y :: ys, h => by
    rw [List.map_cons, List.map_cons, listLt]
    rcases h with h | ⟨rfl, h⟩
    · rw [if_neg (by omega)]; exact decide_eq_true (show (x : Int) < y by omega)
    · rw [if_pos rfl]; exact bef_lt h
theorem bef_nlt : ∀ {xs ys : List Nat}, Bef xs ys → listLt (ys.map fun x : Nat => (x : Int)) (xs.map fun x : Nat => (x : Int)) = false
  | [], [], h => h.elim
  | [], _ :: _, _ => rfl
  | _ :: _, [], h => h.elim
  | x :: xs, y :: ys, h => by
    rw [List.map_cons, List.map_cons, listLt]
    rcases h with h | ⟨rfl, h⟩
    · rw [if_neg (by omega)]; exact decide_eq_false (show ¬ (y : Int) < x by omega)
    · rw [if_pos rfl]; exact bef_nlt h
theorem pair_lt {pr : List Int} {a b : List Nat} (h : paid pr a < paid pr b ∨ (paid pr a = paid pr b ∧ Bef a b)) : dataLt (pairD pr a) (pairD pr b) = true ∧ dataLt (pairD pr b) (pairD pr a) = false := by
  rw [pairD_T, pairD_T, DatumOrd.lt_eq, DatumOrd.lt_eq]
  show (if paid pr a = paid pr b then listLt (a.map fun x : Nat => (x : Int)) (b.map fun x : Nat => (x : Int)) else decide (paid pr a < paid pr b)) = true ∧
    (if paid pr b = paid pr a then listLt (b.map fun x : Nat => (x : Int)) (a.map fun x : Nat => (x : Int)) else decide (paid pr b < paid pr a)) = false
  rcases h with h | ⟨e, h⟩
  · rw [if_neg (by omega), if_neg (by omega)]
    exact ⟨decide_eq_true h, decide_eq_false (by omega)⟩
  · rw [if_pos e, if_pos e.symm]
    exact ⟨bef_lt h, bef_nlt h⟩
theorem nds_map {α : Type} (f : α → D) (h : ∀ a, nd (f a) = true) : ∀ xs : List α, nds (xs.map f) = true
  | [] => rfl
  | x :: xs => by rw [List.map_cons, nds, h x, nds_map f h xs]; rfl
theorem pair_nd (pr : List Int) (l : List Nat) : nd (pairD pr l) = true := by
  have := nds_map (fun v : Nat => PyData.int (v : Int)) (fun _ => rfl) l
  simp [pairD, wayD, nsD, nd, nds, this]
theorem pair_depth (pr : List Int) (l : List Nat) : (pairD pr l).depth ≤ 5 := by
  rw [pairD_T]
  exact Nat.le_trans (Datum.depth_le _) (by decide)
theorem depthAll_le' {n : Nat} : ∀ {xs : List D}, (∀ x ∈ xs, x.depth ≤ n) → PyData.depthAll xs ≤ n
  | [], _ => Nat.zero_le _
  | x :: xs, h => by
    rw [PyData.depthAll]
    exact Nat.max_le.2 ⟨h x (by simp), depthAll_le' fun y m => h y (by simp [m])⟩
theorem min_pairs {g : Gr} (hg : GrOk g) {pr fz : List Int} {s t : Nat} {L : Lab} (hp : ∀ c ∈ pr, 0 < c ∧ c ≤ 99) (hpl : pr.length = g.ts.length) (d : Dist g.n (Garc g pr fz) t L) (n8 : g.n ≤ 8) :
    (L[s]?.join = none → exts g fz t ⟨[], [], s⟩ = []) ∧
    (∀ x, L[s]?.join = some x → exts g fz t ⟨[], [], s⟩ ≠ [] ∧ dMin (.list ((exts g fz t ⟨[], [], s⟩).map (pairD pr))) = some (pairD pr (fw g pr fz L t g.n s))) := by
  have sound : ∀ l ∈ exts g fz t ⟨[], [], s⟩, Path g fz s t l := fun l m => by
    obtain ⟨ks, e, p⟩ := ext_path _ _ _ m
    rw [e]; exact p
  constructor
  · intro h0
    cases e : exts g fz t ⟨[], [], s⟩ with
    | nil => rfl
    | cons l ls =>
      obtain ⟨x, hx, _⟩ := path_ge hg hpl d (sound l (by rw [e]; simp))
      rw [hx] at h0; cases h0
  · intro x hx
    have hs : L[s]? = some (some x) := by
      cases h : L[s]? with
      | none => rw [h] at hx; cases hx
      | some o => rw [h] at hx; simp at hx; rw [hx]
    have rk : rank L x ≤ g.n := by have := rank_le L x; rw [d.len] at this; exact this
    have m : fw g pr fz L t g.n s ∈ exts g fz t ⟨[], [], s⟩ := by
      have := fw_ext hg hp hpl d g.n 15 ⟨[], [], s⟩ x hs rk (by omega) (by simp)
      simpa [exts] using this
    obtain ⟨fp, fx⟩ := fw_path hg hp hpl d g.n s x hs rk
    have all : ∀ l ∈ exts g fz t ⟨[], [], s⟩, pairD pr l = pairD pr (fw g pr fz L t g.n s) ∨ (dataLt (pairD pr (fw g pr fz L t g.n s)) (pairD pr l) = true ∧ dataLt (pairD pr l) (pairD pr (fw g pr fz L t g.n s)) = false) := by
      intro l hl
      have pl := sound l hl
      obtain ⟨x', hx', le⟩ := path_ge hg hpl d pl
      rw [hs] at hx'; cases hx'
      by_cases e : paid pr l = x
      · rcases fw_first hg hp hpl d g.n s x l hs rk pl e with z | z
        · exact .inl (by rw [← z])
        · exact .inr (pair_lt (.inr ⟨by rw [fx, e], z⟩))
      · exact .inr (pair_lt (.inl (by rw [fx]; omega)))
    cases e : exts g fz t ⟨[], [], s⟩ with
    | nil => rw [e] at m; cases m
    | cons l ls =>
      rw [e] at m all
      refine ⟨by simp, ?_⟩
      rw [List.map_cons, dMin_l]
      · refine congrArg some (minD_is _ _ ?_ ?_)
        · rw [← List.map_cons (f := pairD pr)]; exact List.mem_map.2 ⟨_, m, rfl⟩
        · intro q hq
          rw [← List.map_cons (f := pairD pr)] at hq
          obtain ⟨l2, m2, rfl⟩ := List.mem_map.1 hq
          exact all l2 m2
      · rw [← List.map_cons (f := pairD pr)]
        have := alikeAll_datum ((l :: ls).map (pairT pr))
        rw [List.map_map] at this
        rw [show (pairD pr : List Nat → D) = Datum.toD ∘ pairT pr from funext fun l => pairD_T pr l]
        exact this
      · rw [← List.map_cons (f := pairD pr)]; exact nds_map _ (pair_nd pr) _
      · rw [← List.map_cons (f := pairD pr)]
        refine Nat.le_trans (depthAll_le' (n := 5) ?_) (by omega)
        intro y hy
        obtain ⟨l2, _, rfl⟩ := List.mem_map.1 hy
        exact pair_depth pr l2
end M
set_option Elab.async false
set_option linter.all false
set_option maxRecDepth 100000
set_option maxHeartbeats 4000000
set_option autoImplicit false
namespace Lk36
open PySem PySem.Spec PyProof.Rows L2 M
noncomputable section
abbrev b_is_steady_C1 : Ev A := (eGe (eVar 9) (eVar 3))
/-- is_steady(world, places, ties, week, walkers, a, b, rough, worn, heal) -/
abbrev b_is_steady : En → SR := (sSeq (sAsg (gT [(gT [(gN 1), (gN 2)]), (gN 3), (gN 4)]) (eVar 0))
  (sRet (eFn (f1 dAll) (eCons (eOwn (oLc (iS (eVar 2)) (gT [(gN 5), (gN 6), (gN 7), (gN 8), (gN 9)]) tYes1 b_is_steady_C1 [5, 6, 7, 8, 9])) eNil))))
def F_is_steady : List Sl → Rt := run0 10 b_is_steady
/-- _law_bag(cell, turn) -/
abbrev b__law_bag : En → SR := (sRetO (oLst (eCons (eFn (f2 dMax2) (eCons (eC (.int 0)) (eCons (eSub (eFn (f1 dAbs) (eCons (eVar 0) eNil)) (ePow (eC (.int 10)) (eC (.int 18)))) eNil))) (eCons (eMod (eAdd (eBin dMulW (eVar 0) (ePow (eC (.int 7368787)) (eC (.int 5)))) (eBin dMulW (eC (.int 271828182845904)) (eAdd (eVar 1) (eC (.int 1))))) (eAdd (ePow (eC (.int 10)) (eC (.int 50))) (eC (.int 151)))) (eCons (eVar 1) eNil)))))
def F__law_bag : List Sl → Rt := run0 2 b__law_bag
/-- _law_draw(bag, many, found) -/
abbrev b__law_draw : En → SR := (sSeq (sIf (tOf (eGt (eIx (eVar 0) (eC (.int 0))) (eC (.int 1)))) (sSeq (sAsg (gN 2) (eMod (eIx (eVar 0) (eC (.int 0))) (eVar 1)))
  (sSeq (sSetIx 0 (eFdiv (eIx (eVar 0) (eC (.int 0))) (eVar 1)) (eC (.int 0)))
  (sRetV 2))) sNil)
  (sSeq (sSetIx 0 (eAdd (eIx (eVar 0) (eC (.int 2))) (eC (.int 1))) (eC (.int 2)))
  (sSeq (sSetIx 0 (eMod (eAdd (eBin dMulW (eIx (eVar 0) (eC (.int 1))) (eIx (eVar 0) (eC (.int 1)))) (eBin dMulW (eIx (eVar 0) (eC (.int 2))) (ePow (eC (.int 37156667)) (eC (.int 5))))) (eAdd (ePow (eC (.int 10)) (eC (.int 50))) (eC (.int 151)))) (eC (.int 1)))
  (sRet (eMod (eFdiv (eIx (eVar 0) (eC (.int 1))) (eC (.int 262147))) (eVar 1))))))
def F__law_draw : List Sl → Rt := run0 3 b__law_draw
/-- _law_tie(bag, a, b, least, rough, worn, heal) -/
abbrev b__law_tie : En → SR := (sSeq (sAsg (gN 4) (eIx (eOwn (oLst (eCons (eAdd (eC (.int 2)) (eCall F__law_draw (eCons (eVar 0) (eCons (eC (.int 3)) eNil)))) (eCons (eAdd (eC (.int 4)) (eCall F__law_draw (eCons (eVar 0) (eCons (eC (.int 8)) eNil)))) (eCons (eAdd (eC (.int 2)) (eCall F__law_draw (eCons (eVar 0) (eCons (eC (.int 98)) eNil)))) (eCons (eC (.int 99)) eNil)))))) (eCall F__law_draw (eCons (eVar 0) (eCons (eC (.int 4)) eNil)))))
  (sSeq (sAsg (gN 5) (eIx (eOwn (oLst (eCons (eC (.int 1)) (eCons (eAdd (eC (.int 1)) (eCall F__law_draw (eCons (eVar 0) (eCons (eSub (eVar 4) (eC (.int 1))) eNil)))) (eCons (eSub (eVar 4) (eC (.int 1))) eNil))))) (eCall F__law_draw (eCons (eVar 0) (eCons (eC (.int 3)) eNil)))))
  (sSeq (sAsg (gN 6) (eIx (eOwn (oLst (eCons (eVar 3) (eCons (eAdd (eVar 3) (eCall F__law_draw (eCons (eVar 0) (eCons (eSub (eC (.int 7)) (eVar 3)) eNil)))) (eCons (eC (.int 6)) eNil))))) (eCall F__law_draw (eCons (eVar 0) (eCons (eC (.int 3)) eNil)))))
  (sRet (eTup (eCons (eFn (f2 dMin2) (eCons (eVar 1) (eCons (eVar 2) eNil))) (eCons (eFn (f2 dMax2) (eCons (eVar 1) (eCons (eVar 2) eNil))) (eCons (eVar 4) (eCons (eVar 5) (eCons (eVar 6) eNil))))))))))
def F__law_tie : List Sl → Rt := run0 7 b__law_tie
abbrev b__law_ground_C1 : Ev A := (eMeth 3 gPopAt (eCons (eCall F__law_draw (eCons (eVar 0) (eCons (eFn (f1 dLen) (eCons (eVar 3) eNil)) eNil))) eNil))
abbrev b__law_ground_C2 : Ev A := (eTup (eCons (eIx (eVar 5) (eSub (eVar 7) (eC (.int 1)))) (eCons (eIx (eVar 5) (eVar 7)) eNil)))
abbrev b__law_ground_L3 : En → SR := (sUn [7] (sSeq (sPar 8 9 (eCons (eIx (eVar 5) (eCall F__law_draw (eCons (eVar 0) (eCons (eFn (f1 dLen) (eCons (eVar 5) eNil)) eNil)))) (eCons (eIx (eVar 5) (eCall F__law_draw (eCons (eVar 0) (eCons (eFn (f1 dLen) (eCons (eVar 5) eNil)) eNil)))) eNil)))
  (sIf (tOf (eNe (eVar 8) (eVar 9))) (sExpr (eMeth 6 gInsert (eCons (eCall F__law_draw (eCons (eVar 0) (eCons (eAdd (eFn (f1 dLen) (eCons (eVar 6) eNil)) (eC (.int 1))) eNil))) (eCons (eTup (eCons (eVar 8) (eCons (eVar 9) eNil))) eNil)))) sNil)))
abbrev b__law_ground_C4 : Ev A := (eCall F__law_tie (eCons (eVar 0) (eCons (eVar 8) (eCons (eVar 9) (eCons (eVar 1) eNil)))))
def b__law_ground_K1 : En → SR := (sRet (eTup (eCons (eTup (eCons (eVar 2) (eCons (eFn (f1 dTuple) (eCons (eOwn (oLc (iS (eVar 6)) (gT [(gN 8), (gN 9)]) tYes1 b__law_ground_C4 [8, 9])) eNil)) eNil))) (eCons (eVar 5) eNil))))
/-- _law_ground(bag, least, many, left, row, joined, pairs, k, a, b) -/
abbrev b__law_ground : En → SR := (sSeq (sAsg (gN 2) (eAdd (eC (.int 2)) (eCall F__law_draw (eCons (eVar 0) (eCons (eC (.int 7)) eNil)))))
  (sSeq (sSetO 3 (oLstRg (rg1 (eVar 2))))
  (sSeq (sSetO 4 (oLc (iR1 (eCons (eVar 2) eNil)) (gN 7) tYes1 b__law_ground_C1 [7]))
  (sSeq (sAsg (gN 5) (eSl (eVar 4) .no (.of (eIx (eOwn (oLst (eCons (eVar 2) (eCons (eVar 2) (eCons (eVar 2) (eCons (eAdd (eC (.int 2)) (eCall F__law_draw (eCons (eVar 0) (eCons (eSub (eVar 2) (eC (.int 1))) eNil)))) eNil)))))) (eCall F__law_draw (eCons (eVar 0) (eCons (eC (.int 4)) eNil)))))))
  (sSeq (sSetO 6 (oLc (iR2 (eCons (eC (.int 1)) (eCons (eFn (f1 dLen) (eCons (eVar 5) eNil)) eNil))) (gN 7) tYes1 b__law_ground_C2 [7]))
  (sSeq (sFor (iR1 (eCons (eCall F__law_draw (eCons (eVar 0) (eCons (eSub (eC (.int 15)) (eFn (f1 dLen) (eCons (eVar 6) eNil))) eNil))) eNil)) (gN 7) b__law_ground_L3)
  b__law_ground_K1))))))
def F__law_ground : List Sl → Rt := run0 10 b__law_ground
abbrev b__law_days_C1 : Ev A := (eVar 3)
/-- _law_days(bag, week, found, k) -/
abbrev b__law_days : En → SR := (sSeq (sSetO 2 (oLc (iR1 (eCons (eVar 1) eNil)) (gN 3) (tOf (eGt (eCall F__law_draw (eCons (eVar 0) (eCons (eC (.int 3)) eNil))) (eC (.int 0)))) b__law_days_C1 [3]))
  (sRet (eIf (tOf (eNe (eVar 2) (eOwn (oLst eNil)))) (eFn (f1 dTuple) (eCons (eVar 2) eNil)) (eTup (eCons (eCall F__law_draw (eCons (eVar 0) (eCons (eVar 1) eNil))) eNil)))))
def F__law_days : List Sl → Rt := run0 4 b__law_days
abbrev b__law_world_L1 : En → SR := (sUn [7, 8, 9, 10] (sSeq (sAsg (gN 8) (eMeth 5 gPopAt (eCons (eCall F__law_draw (eCons (eVar 0) (eCons (eFn (f1 dLen) (eCons (eVar 5) eNil)) eNil))) eNil)))
  (sSeq (sSetO 9 (oFn (f1 dList) (eCons (eVar 4) eNil)))
  (sSeq (sAsg (gN 10) (eMeth 9 gPopAt (eCons (eCall F__law_draw (eCons (eVar 0) (eCons (eFn (f1 dLen) (eCons (eVar 9) eNil)) eNil))) eNil)))
  (sExpr (eMeth 6 gAppend (eCons (eTup (eCons (eVar 8) (eCons (eVar 10) (eCons (eIx (eVar 9) (eCall F__law_draw (eCons (eVar 0) (eCons (eFn (f1 dLen) (eCons (eVar 9) eNil)) eNil)))) (eCons (eCall F__law_days (eCons (eVar 0) (eCons (eVar 2) eNil))) eNil))))) eNil)))))))
def b__law_world_K1 : En → SR := (sRet (eTup (eCons (eVar 3) (eCons (eVar 2) (eCons (eFn (f1 dTuple) (eCons (eOwn (oFn (f1 dSorted) (eCons (eVar 6) eNil))) eNil)) eNil)))))
/-- _law_world(bag, steady, week, ground, joined, names, walkers, k, name, some, start) -/
abbrev b__law_world : En → SR := (sSeq (sAsg (gN 2) (eAdd (eC (.int 1)) (eCall F__law_draw (eCons (eVar 0) (eCons (eC (.int 4)) eNil)))))
  (sSeq (sAsg (gT [(gN 3), (gN 4)]) (eCall F__law_ground (eCons (eVar 0) (eCons (eIf (tOf (eVar 1)) (eVar 2) (eC (.int 1))) eNil))))
  (sSeq (sSetO 5 (oLst (eCons (eC (.str "a")) (eCons (eC (.str "ann")) (eCons (eC (.str "b")) (eCons (eC (.str "bob")) (eCons (eC (.str "zoe")) (eCons (eC (.str "zz")) (eCons (eC (.str "abcdefgh")) eNil)))))))))
  (sSeq (sSetO 6 (oLst eNil))
  (sSeq (sFor (iR1 (eCons (eAdd (eC (.int 1)) (eCall F__law_draw (eCons (eVar 0) (eCons (eC (.int 5)) eNil)))) eNil)) (gN 7) b__law_world_L1)
  b__law_world_K1)))))
def F__law_world : List Sl → Rt := run0 11 b__law_world
abbrev b__law_healing_C1 : Ev A := (eAdd (eSl (eVar 6) .no (.of (eC (.int 4)))) (eTup (eCons (eVar 7) eNil)))
/-- _law_healing(land, heals, many, ties, week, walkers, cord, heal) -/
abbrev b__law_healing : En → SR := (sSeq (sAsg (gT [(gT [(gN 2), (gN 3)]), (gN 4), (gN 5)]) (eVar 0))
  (sRet (eTup (eCons (eTup (eCons (eVar 2) (eCons (eFn (f1 dTuple) (eCons (eOwn (oLc (iZM (eCons (eVar 3) (eCons (eVar 1) eNil))) (gT [(gN 6), (gN 7)]) tYes1 b__law_healing_C1 [6, 7])) eNil)) eNil))) (eCons (eVar 4) (eCons (eVar 5) eNil))))))
def F__law_healing : List Sl → Rt := run0 8 b__law_healing
abbrev b__law_one_right_C1 : Ev A := (eIx (eVar 4) (eC (.int 4)))
abbrev b__law_one_right_L2 : En → SR := (sUn [3] (sIf (tOr2 (tNo (tOf (eUn (dIsi "bool") (eVar 3)))) (tOf (eNe (eVar 3) (eVar 2)))) (sRet (eC (.bool false))) sNil))
def b__law_one_right_K1 : En → SR := (sRet (eEq (eFn (f1 dRepr) (eCons (eVar 0) eNil)) (eVar 1)))
/-- _law_one_right(land, kept, due, found, cord) -/
abbrev b__law_one_right : En → SR := (sSeq (sAsg (gN 1) (eFn (f1 dRepr) (eCons (eVar 0) eNil)))
  (sSeq (sAsg (gN 2) (eGe (eFn (f1 dMin) (eCons (eOwn (oLc (iS (eIx (eIx (eVar 0) (eC (.int 0))) (eC (.int 1)))) (gN 4) tYes1 b__law_one_right_C1 [4])) eNil)) (eIx (eVar 0) (eC (.int 1)))))
  (sSeq (sFor (iS (eOwn (oLst (eCons (eCallP F_is_steady [0] [] (eCons (eVar 0) eNil) eNil) (eCons (eCallP F_is_steady [0] [] eNil (eCons (eVar 0) eNil)) eNil))))) (gN 3) b__law_one_right_L2)
  b__law_one_right_K1)))
def F__law_one_right : List Sl → Rt := run0 5 b__law_one_right
abbrev b__law_right_C1 : Ev A := (eIx (eVar 8) (eC (.int 4)))
abbrev b__law_right_C2 : Ev A := (eFn (f2 dMax2) (eCons (eVar 9) (eCons (eVar 3) eNil)))
abbrev b__law_right_L3 : En → SR := (sUn [4, 5, 6, 7] (sSeq (sAsg (gN 5) (eFn (f2 dMax2) (eCons (eC (.int 1)) (eCons (eAdd (eVar 3) (eVar 4)) eNil))))
  (sSeq (sIf (tNo (tOf (eCall F__law_one_right (eCons (eCall F__law_healing (eCons (eVar 1) (eCons (eBin dMulW (eOwn (oLst (eCons (eVar 5) eNil))) (eFn (f1 dLen) (eCons (eVar 2) eNil))) eNil))) eNil)))) (sRet (eC (.bool false))) sNil)
  (sSeq (sAsg (gN 6) (eCall F__law_draw (eCons (eVar 0) (eCons (eFn (f1 dLen) (eCons (eVar 2) eNil)) eNil))))
  (sSeq (sSetO 7 (oLc (iS (eVar 2)) (gN 9) tYes1 b__law_right_C2 [9]))
  (sSeq (sSetIx 7 (eVar 5) (eVar 6))
  (sIf (tNo (tOf (eCall F__law_one_right (eCons (eView 7 (eCall F__law_healing (eCons (eVar 1) (eCons (eVar 7) eNil)))) eNil)))) (sRet (eC (.bool false))) sNil)))))))
/-- _law_right(bag, land, heals, week, more, heal, at, some, cord, one) -/
abbrev b__law_right : En → SR := (sSeq (sAsg (gN 1) (eCall F__law_world (eCons (eVar 0) (eCons (eEq (eCall F__law_draw (eCons (eVar 0) (eCons (eC (.int 2)) eNil))) (eC (.int 0))) eNil))))
  (sSeq (sSetO 2 (oLc (iS (eIx (eIx (eVar 1) (eC (.int 0))) (eC (.int 1)))) (gN 8) tYes1 b__law_right_C1 [8]))
  (sSeq (sAsg (gN 3) (eIx (eVar 1) (eC (.int 1))))
  (sSeq (sIf (tNo (tOf (eCall F__law_one_right (eCons (eVar 1) eNil)))) (sRet (eC (.bool false))) sNil)
  (sSeq (sFor (iS (eOwn (oLst (eCons (eUn dNeg (eC (.int 1))) (eCons (eC (.int 0)) (eCons (eC (.int 1)) eNil)))))) (gN 4) b__law_right_L3)
  (sRet (eC (.bool true))))))))
def F__law_right : List Sl → Rt := run0 10 b__law_right
abbrev b_law_L1 : En → SR := (sUn [1, 2] (sIf (tNo (tOf (eCallO F__law_right (oCall F__law_bag (eCons (eVar 2) (eCons (eVar 1) eNil)))))) (sRet (eC (.bool false))) sNil))
/-- law(script, k, cell) -/
abbrev b_law : En → SR := (sSeq (sFor (iEX (eCons (eAdd (eOwn (oLst (eCons (eFn (f1 dLen) (eCons (eVar 0) eNil)) eNil))) (eSl (eVar 0) .no (.of (eC (.int 10))))) eNil)) (gT [(gN 1), (gN 2)]) b_law_L1)
  (sRet (eC (.bool true))))
def F_law : List Sl → Rt := run0 3 b_law
end
end Lk36
set_option Elab.async false
set_option linter.all false
set_option maxRecDepth 100000
set_option maxHeartbeats 4000000
set_option autoImplicit false
namespace Lk36
open PySem PySem.Spec PyProof.Rows L2 M
def topS (i : Nat) : Stmt := PySem.Challenge.pw_wornways_k36_steady_worlds.main.body.getD i (.Pass ⟨0, 0, 0, 0⟩)
structure Blt (K : PySem.W.Frag) (mg : Str → Option Value) : Prop where
  z_abs : mg "abs" = none
  z_all : mg "all" = none
  z_bool : mg "bool" = none
  z_enumerate : mg "enumerate" = none
  z_isinstance : mg "isinstance" = none
  z_len : mg "len" = none
  z_list : mg "list" = none
  z_max : mg "max" = none
  z_min : mg "min" = none
  z_range : mg "range" = none
  z_repr : mg "repr" = none
  z_sorted : mg "sorted" = none
  z_tuple : mg "tuple" = none
  z_zip : mg "zip" = none
abbrev s_is_steady : Stmt := topS 1
abbrev N_is_steady : List Str := ["world", "places", "ties", "week", "walkers", "a", "b", "rough", "worn", "heal"]
theorem sc_is_steady : FnScope N_is_steady ["world"] (defScope s_is_steady) := ⟨rfl, rfl, rfl, by decide +kernel, rfl, by decide +kernel, by decide +kernel⟩
abbrev pt_is_steady : List (Nat × List Str × List Nat × List D) := [(1, [], [0], []), (0, ["world"], [0], [])]
abbrev s__law_bag : Stmt := topS 3
abbrev N__law_bag : List Str := ["cell", "turn"]
theorem sc__law_bag : FnScope N__law_bag ["cell", "turn"] (defScope s__law_bag) := ⟨rfl, rfl, rfl, by decide +kernel, rfl, by decide +kernel, by decide +kernel⟩
abbrev s__law_draw : Stmt := topS 4
abbrev N__law_draw : List Str := ["bag", "many", "found"]
theorem sc__law_draw : FnScope N__law_draw ["bag", "many"] (defScope s__law_draw) := ⟨rfl, rfl, rfl, by decide +kernel, rfl, by decide +kernel, by decide +kernel⟩
abbrev s__law_tie : Stmt := topS 5
abbrev N__law_tie : List Str := ["bag", "a", "b", "least", "rough", "worn", "heal"]
theorem sc__law_tie : FnScope N__law_tie ["bag", "a", "b", "least"] (defScope s__law_tie) := ⟨rfl, rfl, rfl, by decide +kernel, rfl, by decide +kernel, by decide +kernel⟩
abbrev s__law_ground : Stmt := topS 6
abbrev N__law_ground : List Str := ["bag", "least", "many", "left", "row", "joined", "pairs", "k", "a", "b"]
theorem sc__law_ground : FnScope N__law_ground ["bag", "least"] (defScope s__law_ground) := ⟨rfl, rfl, rfl, by decide +kernel, rfl, by decide +kernel, by decide +kernel⟩
abbrev s__law_days : Stmt := topS 7
abbrev N__law_days : List Str := ["bag", "week", "found", "k"]
theorem sc__law_days : FnScope N__law_days ["bag", "week"] (defScope s__law_days) := ⟨rfl, rfl, rfl, by decide +kernel, rfl, by decide +kernel, by decide +kernel⟩
abbrev s__law_world : Stmt := topS 8
abbrev N__law_world : List Str := ["bag", "steady", "week", "ground", "joined", "names", "walkers", "k", "name", "some", "start"]
theorem sc__law_world : FnScope N__law_world ["bag", "steady"] (defScope s__law_world) := ⟨rfl, rfl, rfl, by decide +kernel, rfl, by decide +kernel, by decide +kernel⟩
abbrev s__law_healing : Stmt := topS 9
abbrev N__law_healing : List Str := ["land", "heals", "many", "ties", "week", "walkers", "cord", "heal"]
theorem sc__law_healing : FnScope N__law_healing ["land", "heals"] (defScope s__law_healing) := ⟨rfl, rfl, rfl, by decide +kernel, rfl, by decide +kernel, by decide +kernel⟩
abbrev s__law_one_right : Stmt := topS 10
abbrev N__law_one_right : List Str := ["land", "kept", "due", "found", "cord"]
theorem sc__law_one_right : FnScope N__law_one_right ["land"] (defScope s__law_one_right) := ⟨rfl, rfl, rfl, by decide +kernel, rfl, by decide +kernel, by decide +kernel⟩
abbrev s__law_right : Stmt := topS 11
abbrev N__law_right : List Str := ["bag", "land", "heals", "week", "more", "heal", "at", "some", "cord", "one"]
theorem sc__law_right : FnScope N__law_right ["bag"] (defScope s__law_right) := ⟨rfl, rfl, rfl, by decide +kernel, rfl, by decide +kernel, by decide +kernel⟩
abbrev s_law : Stmt := topS 12
abbrev N_law : List Str := ["script", "k", "cell"]
theorem sc_law : FnScope N_law ["script"] (defScope s_law) := ⟨rfl, rfl, rfl, by decide +kernel, rfl, by decide +kernel, by decide +kernel⟩
section
variable {P : Program} {w : World} {K : PySem.W.Frag} {mg : Str → Option Value} {bs : Heap}
theorem ok_is_steady (B : Blt K mg) (F : FunP K mg "is_steady" "is_steady" s_is_steady ["world"] pt_is_steady) : CallP P w K mg bs 1 "is_steady" ["world"] pt_is_steady F_is_steady := by
  refine fun_okP (N := N_is_steady) (k := 0) (body := b_is_steady) F sc_is_steady (by decide) fun f cdv A out s H E hr gd => ?_
  exact (dss_cons (ds_asg (dx_var 0) (dg_tup rfl (dgs_cons (dg_tup rfl (dgs_cons (dg_name 1 sc_is_steady.nd) (dgs_cons (dg_name 2 sc_is_steady.nd) dgs_nil))) (dgs_cons (dg_name 3 sc_is_steady.nd) (dgs_cons (dg_name 4 sc_is_steady.nd) dgs_nil)))))
  (dss_one (ds_ret (dx_all rfl (DO.dx (do_lc (own := [("a", 5), ("b", 6), ("rough", 7), ("worn", 8), ("heal", 9)]) rfl sc_is_steady.nd (di_seq (dx_var 2)) (blkOk_by (N := N_is_steady) (sc := defScope s_is_steady) (own := [("a", 5), ("b", 6), ("rough", 7), ("worn", 8), ("heal", 9)]) (by decide +kernel)) (by decide) (fun _ _ _ _ _ => (dg_tup rfl (dgs_cons (dg_name 5 sc_is_steady.nd) (dgs_cons (dg_name 6 sc_is_steady.nd) (dgs_cons (dg_name 7 sc_is_steady.nd) (dgs_cons (dg_name 8 sc_is_steady.nd) (dgs_cons (dg_name 9 sc_is_steady.nd) dgs_nil))))))) (fun _ _ _ _ _ => dts_nil) (fun _ _ _ _ _ => (dx_ge (dx_var 9) (dx_var 3))))) B.z_all))))
theorem ok__law_bag (B : Blt K mg) (F : FunAt K mg "_law_bag" "_law_bag" s__law_bag ["cell", "turn"]) : CallOk P w K mg bs 1 "_law_bag" ["cell", "turn"] F__law_bag := by
  refine fun_ok (N := N__law_bag) (k := 0) (body := b__law_bag) F sc__law_bag (by decide) fun f cdv A out s H E hr gd => ?_
  exact (dss_one (ds_retO (do_lst (da_cons (dx_max2 rfl dx_int (dx_sub (dx_abs (dx_var 0) B.z_abs) (dx_pow dx_int dx_int)) B.z_max) (da_cons (dx_mod (dx_add (dx_mulV (dx_var 0) (dx_pow dx_int dx_int)) (dx_mulV dx_int (dx_add (dx_var 1) dx_int))) (dx_add (dx_pow dx_int dx_int) dx_int)) (da_cons (dx_var 1) da_nil))))))
theorem ok__law_draw (B : Blt K mg) (F : FunAt K mg "_law_draw" "_law_draw" s__law_draw ["bag", "many"]) : CallOk P w K mg bs 1 "_law_draw" ["bag", "many"] F__law_draw := by
  refine fun_ok (N := N__law_draw) (k := 0) (body := b__law_draw) F sc__law_draw (by decide) fun f cdv A out s H E hr gd => ?_
  exact (dss_cons (ds_if (dt_gt (dx_item (dx_var 0) dx_int) dx_int) (dss_cons (ds_asg (dx_mod (dx_item (dx_var 0) dx_int) (dx_var 1)) (dg_name 2 sc__law_draw.nd))
  (dss_cons (ds_setIx 0 (dx_fdiv (dx_item (dx_var 0) dx_int) (dx_var 1)) dx_int)
  (dss_one (ds_retV 2)))) dss_nil)
  (dss_cons (ds_setIx 0 (dx_add (dx_item (dx_var 0) dx_int) dx_int) dx_int)
  (dss_cons (ds_setIx 0 (dx_mod (dx_add (dx_mulV (dx_item (dx_var 0) dx_int) (dx_item (dx_var 0) dx_int)) (dx_mulV (dx_item (dx_var 0) dx_int) (dx_pow dx_int dx_int))) (dx_add (dx_pow dx_int dx_int) dx_int)) dx_int)
  (dss_one (ds_ret (dx_mod (dx_fdiv (dx_item (dx_var 0) dx_int) dx_int) (dx_var 1)))))))
theorem ok__law_tie (B : Blt K mg) (F : FunAt K mg "_law_tie" "_law_tie" s__law_tie ["bag", "a", "b", "least"]) (C__law_draw : CallOk P w K mg bs 1 "_law_draw" ["bag", "many"] F__law_draw) : CallOk P w K mg bs 2 "_law_tie" ["bag", "a", "b", "least"] F__law_tie := by
  refine fun_ok (N := N__law_tie) (k := 1) (body := b__law_tie) F sc__law_tie (by decide) fun f cdv A out s H E hr gd => ?_
  exact (dss_cons (ds_asg (dx_item (DO.dx (do_lst (da_cons (dx_add dx_int (dx_callC C__law_draw run0_keeps run0_nox (hr.mono (by omega)) gd (da_cons (dx_var 0) (da_cons dx_int da_nil)) (alen_cons (alen_cons alen0)))) (da_cons (dx_add dx_int (dx_callC C__law_draw run0_keeps run0_nox (hr.mono (by omega)) gd (da_cons (dx_var 0) (da_cons dx_int da_nil)) (alen_cons (alen_cons alen0)))) (da_cons (dx_add dx_int (dx_callC C__law_draw run0_keeps run0_nox (hr.mono (by omega)) gd (da_cons (dx_var 0) (da_cons dx_int da_nil)) (alen_cons (alen_cons alen0)))) (da_cons dx_int da_nil)))))) (dx_callC C__law_draw run0_keeps run0_nox (hr.mono (by omega)) gd (da_cons (dx_var 0) (da_cons dx_int da_nil)) (alen_cons (alen_cons alen0)))) (dg_name 4 sc__law_tie.nd))
  (dss_cons (ds_asg (dx_item (DO.dx (do_lst (da_cons dx_int (da_cons (dx_add dx_int (dx_callC C__law_draw run0_keeps run0_nox (hr.mono (by omega)) gd (da_cons (dx_var 0) (da_cons (dx_sub (dx_var 4) dx_int) da_nil)) (alen_cons (alen_cons alen0)))) (da_cons (dx_sub (dx_var 4) dx_int) da_nil))))) (dx_callC C__law_draw run0_keeps run0_nox (hr.mono (by omega)) gd (da_cons (dx_var 0) (da_cons dx_int da_nil)) (alen_cons (alen_cons alen0)))) (dg_name 5 sc__law_tie.nd))
  (dss_cons (ds_asg (dx_item (DO.dx (do_lst (da_cons (dx_var 3) (da_cons (dx_add (dx_var 3) (dx_callC C__law_draw run0_keeps run0_nox (hr.mono (by omega)) gd (da_cons (dx_var 0) (da_cons (dx_sub dx_int (dx_var 3)) da_nil)) (alen_cons (alen_cons alen0)))) (da_cons dx_int da_nil))))) (dx_callC C__law_draw run0_keeps run0_nox (hr.mono (by omega)) gd (da_cons (dx_var 0) (da_cons dx_int da_nil)) (alen_cons (alen_cons alen0)))) (dg_name 6 sc__law_tie.nd))
  (dss_one (ds_ret (dx_tup (da_cons (dx_min2 rfl (dx_var 1) (dx_var 2) B.z_min) (da_cons (dx_max2 rfl (dx_var 1) (dx_var 2) B.z_max) (da_cons (dx_var 4) (da_cons (dx_var 5) (da_cons (dx_var 6) da_nil)))))))))))
theorem ok__law_ground (B : Blt K mg) (F : FunAt K mg "_law_ground" "_law_ground" s__law_ground ["bag", "least"]) (C__law_draw : CallOk P w K mg bs 1 "_law_draw" ["bag", "many"] F__law_draw) (C__law_tie : CallOk P w K mg bs 2 "_law_tie" ["bag", "a", "b", "least"] F__law_tie) : CallOk P w K mg bs 3 "_law_ground" ["bag", "least"] F__law_ground := by
  refine fun_ok (N := N__law_ground) (k := 2) (body := b__law_ground) F sc__law_ground (by decide) fun f cdv A out s H E hr gd => ?_
  exact (dss_cons (ds_asg (dx_add dx_int (dx_callC C__law_draw run0_keeps run0_nox (hr.mono (by omega)) gd (da_cons (dx_var 0) (da_cons dx_int da_nil)) (alen_cons (alen_cons alen0)))) (dg_name 2 sc__law_ground.nd))
  (dss_cons (ds_setO 3 (do_listRg (drg_1 (dx_var 2) B.z_range) B.z_list) sc__law_ground.nd)
  (dss_cons (ds_setLc (own := [("k", 7)]) 4 rfl sc__law_ground.nd rfl (sw_true rfl rfl rfl (by decide +kernel)) (di_r1 (da_cons (dx_var 2) da_nil) B.z_range) (blkOk_by (N := N__law_ground) (sc := defScope s__law_ground) (own := [("k", 7)]) (by decide +kernel)) (by decide) (fun _ _ _ _ _ => (dg_name 7 sc__law_ground.nd)) (fun _ _ _ _ _ => dts_nil) (fun _ _ _ _ _ => (dx_methL 3 PySem.F.slot_list_pop PySem.F.type_list_pop mt_popAt mut_popAt (da_cons (dx_callC C__law_draw run0_keeps run0_nox (hr.mono (by omega)) gd (da_cons (dx_var 0) (da_cons (dx_len (dx_var 3) B.z_len) da_nil)) (alen_cons (alen_cons alen0))) da_nil))))
  (dss_cons (ds_asg (dx_sl (dx_var 4) dp_no (dp_of (dx_item (DO.dx (do_lst (da_cons (dx_var 2) (da_cons (dx_var 2) (da_cons (dx_var 2) (da_cons (dx_add dx_int (dx_callC C__law_draw run0_keeps run0_nox (hr.mono (by omega)) gd (da_cons (dx_var 0) (da_cons (dx_sub (dx_var 2) dx_int) da_nil)) (alen_cons (alen_cons alen0)))) da_nil)))))) (dx_callC C__law_draw run0_keeps run0_nox (hr.mono (by omega)) gd (da_cons (dx_var 0) (da_cons dx_int da_nil)) (alen_cons (alen_cons alen0)))))) (dg_name 5 sc__law_ground.nd))
  (dss_cons (ds_setLc (own := [("k", 7)]) 6 rfl sc__law_ground.nd rfl (sw_true rfl rfl rfl (by decide +kernel)) (di_r2 (da_cons dx_int (da_cons (dx_len (dx_var 5) B.z_len) da_nil)) B.z_range) (blkOk_by (N := N__law_ground) (sc := defScope s__law_ground) (own := [("k", 7)]) (by decide +kernel)) (by decide) (fun _ _ _ _ _ => (dg_name 7 sc__law_ground.nd)) (fun _ _ _ _ _ => dts_nil) (fun _ _ _ _ _ => (dx_tup (da_cons (dx_item (dx_var 5) (dx_sub (dx_var 7) dx_int)) (da_cons (dx_item (dx_var 5) (dx_var 7)) da_nil)))))
  (dss_cons (ds_for PassesOwn.never rfl (di_r1 (da_cons (dx_callC C__law_draw run0_keeps run0_nox (hr.mono (by omega)) gd (da_cons (dx_var 0) (da_cons (dx_sub dx_int (dx_len (dx_var 6) B.z_len)) da_nil)) (alen_cons (alen_cons alen0))) da_nil) B.z_range) (dg_name 7 sc__law_ground.nd) (dss_un [7] (dss_cons (ds_par 8 9 (da_cons (dx_item (dx_var 5) (dx_callC C__law_draw run0_keeps run0_nox (hr.mono (by omega)) gd (da_cons (dx_var 0) (da_cons (dx_len (dx_var 5) B.z_len) da_nil)) (alen_cons (alen_cons alen0)))) (da_cons (dx_item (dx_var 5) (dx_callC C__law_draw run0_keeps run0_nox (hr.mono (by omega)) gd (da_cons (dx_var 0) (da_cons (dx_len (dx_var 5) B.z_len) da_nil)) (alen_cons (alen_cons alen0)))) da_nil)) rfl sc__law_ground.nd)
  (dss_one (ds_if (dt_ne hr.units (dx_var 8) (dx_var 9)) (dss_one (ds_expr (dx_methL 6 PySem.F.slot_list_insert PySem.F.type_list_insert mt_insert mut_insert (da_cons (dx_callC C__law_draw run0_keeps run0_nox (hr.mono (by omega)) gd (da_cons (dx_var 0) (da_cons (dx_add (dx_len (dx_var 6) B.z_len) dx_int) da_nil)) (alen_cons (alen_cons alen0))) (da_cons (dx_tup (da_cons (dx_var 8) (da_cons (dx_var 9) da_nil))) da_nil))))) dss_nil)))))
  (dss_one (ds_ret (dx_tup (da_cons (dx_tup (da_cons (dx_var 2) (da_cons (dx_tuple (DO.dx (do_lc (own := [("a", 8), ("b", 9)]) rfl sc__law_ground.nd (di_seq (dx_var 6)) (blkOk_by (N := N__law_ground) (sc := defScope s__law_ground) (own := [("a", 8), ("b", 9)]) (by decide +kernel)) (by decide) (fun _ _ _ _ _ => (dg_tup rfl (dgs_cons (dg_name 8 sc__law_ground.nd) (dgs_cons (dg_name 9 sc__law_ground.nd) dgs_nil)))) (fun _ _ _ _ _ => dts_nil) (fun _ _ _ _ _ => (dx_callC C__law_tie run0_keeps run0_nox (hr.mono (by omega)) gd (da_cons (dx_var 0) (da_cons (dx_var 8) (da_cons (dx_var 9) (da_cons (dx_var 1) da_nil)))) (alen_cons (alen_cons (alen_cons (alen_cons alen0)))))))) B.z_tuple) da_nil))) (da_cons (dx_var 5) da_nil)))))))))))
theorem ok__law_days (B : Blt K mg) (F : FunAt K mg "_law_days" "_law_days" s__law_days ["bag", "week"]) (C__law_draw : CallOk P w K mg bs 1 "_law_draw" ["bag", "many"] F__law_draw) : CallOk P w K mg bs 2 "_law_days" ["bag", "week"] F__law_days := by
  refine fun_ok (N := N__law_days) (k := 1) (body := b__law_days) F sc__law_days (by decide) fun f cdv A out s H E hr gd => ?_
  exact (dss_cons (ds_setLc (own := [("k", 3)]) 2 rfl sc__law_days.nd rfl (sw_true rfl rfl rfl (by decide +kernel)) (di_r1 (da_cons (dx_var 1) da_nil) B.z_range) (blkOk_by (N := N__law_days) (sc := defScope s__law_days) (own := [("k", 3)]) (by decide +kernel)) (by decide) (fun _ _ _ _ _ => (dg_name 3 sc__law_days.nd)) (fun _ _ _ _ _ => (dts_one (dt_gt (dx_callC C__law_draw run0_keeps run0_nox (hr.mono (by omega)) gd (da_cons (dx_var 0) (da_cons dx_int da_nil)) (alen_cons (alen_cons alen0))) dx_int))) (fun _ _ _ _ _ => (dx_var 3)))
  (dss_one (ds_ret (dx_ifExp (dt_ne hr.units (dx_var 2) (DO.dx (do_lst da_nil))) (dx_tuple (dx_var 2) B.z_tuple) (dx_tup (da_cons (dx_callC C__law_draw run0_keeps run0_nox (hr.mono (by omega)) gd (da_cons (dx_var 0) (da_cons (dx_var 1) da_nil)) (alen_cons (alen_cons alen0))) da_nil))))))
theorem ok__law_world (B : Blt K mg) (F : FunAt K mg "_law_world" "_law_world" s__law_world ["bag", "steady"]) (C__law_draw : CallOk P w K mg bs 1 "_law_draw" ["bag", "many"] F__law_draw) (C__law_ground : CallOk P w K mg bs 3 "_law_ground" ["bag", "least"] F__law_ground) (C__law_days : CallOk P w K mg bs 2 "_law_days" ["bag", "week"] F__law_days) : CallOk P w K mg bs 4 "_law_world" ["bag", "steady"] F__law_world := by
  refine fun_ok (N := N__law_world) (k := 3) (body := b__law_world) F sc__law_world (by decide) fun f cdv A out s H E hr gd => ?_
  exact (dss_cons (ds_asg (dx_add dx_int (dx_callC C__law_draw run0_keeps run0_nox (hr.mono (by omega)) gd (da_cons (dx_var 0) (da_cons dx_int da_nil)) (alen_cons (alen_cons alen0)))) (dg_name 2 sc__law_world.nd))
  (dss_cons (ds_asg (dx_callC C__law_ground run0_keeps run0_nox (hr.mono (by omega)) gd (da_cons (dx_var 0) (da_cons (dx_ifExp (dt_val (dx_var 1)) (dx_var 2) dx_int) da_nil)) (alen_cons (alen_cons alen0))) (dg_tup rfl (dgs_cons (dg_name 3 sc__law_world.nd) (dgs_cons (dg_name 4 sc__law_world.nd) dgs_nil))))
  (dss_cons (ds_setO 5 (do_lst (da_cons dx_str (da_cons dx_str (da_cons dx_str (da_cons dx_str (da_cons dx_str (da_cons dx_str (da_cons dx_str da_nil)))))))) sc__law_world.nd)
  (dss_cons (ds_setO 6 (do_lst da_nil) sc__law_world.nd)
  (dss_cons (ds_for PassesOwn.never rfl (di_r1 (da_cons (dx_add dx_int (dx_callC C__law_draw run0_keeps run0_nox (hr.mono (by omega)) gd (da_cons (dx_var 0) (da_cons dx_int da_nil)) (alen_cons (alen_cons alen0)))) da_nil) B.z_range) (dg_name 7 sc__law_world.nd) (dss_un [7, 8, 9, 10] (dss_cons (ds_asg (dx_methL 5 PySem.F.slot_list_pop PySem.F.type_list_pop mt_popAt mut_popAt (da_cons (dx_callC C__law_draw run0_keeps run0_nox (hr.mono (by omega)) gd (da_cons (dx_var 0) (da_cons (dx_len (dx_var 5) B.z_len) da_nil)) (alen_cons (alen_cons alen0))) da_nil)) (dg_name 8 sc__law_world.nd))
  (dss_cons (ds_setO 9 (do_list (dx_var 4) B.z_list) sc__law_world.nd)
  (dss_cons (ds_asg (dx_methL 9 PySem.F.slot_list_pop PySem.F.type_list_pop mt_popAt mut_popAt (da_cons (dx_callC C__law_draw run0_keeps run0_nox (hr.mono (by omega)) gd (da_cons (dx_var 0) (da_cons (dx_len (dx_var 9) B.z_len) da_nil)) (alen_cons (alen_cons alen0))) da_nil)) (dg_name 10 sc__law_world.nd))
  (dss_one (ds_expr (dx_methL 6 PySem.F.slot_list_append PySem.F.type_list_append mt_append mut_append (da_cons (dx_tup (da_cons (dx_var 8) (da_cons (dx_var 10) (da_cons (dx_item (dx_var 9) (dx_callC C__law_draw run0_keeps run0_nox (hr.mono (by omega)) gd (da_cons (dx_var 0) (da_cons (dx_len (dx_var 9) B.z_len) da_nil)) (alen_cons (alen_cons alen0)))) (da_cons (dx_callC C__law_days run0_keeps run0_nox (hr.mono (by omega)) gd (da_cons (dx_var 0) (da_cons (dx_var 2) da_nil)) (alen_cons (alen_cons alen0))) da_nil))))) da_nil)))))))))
  (dss_one (ds_ret (dx_tup (da_cons (dx_var 3) (da_cons (dx_var 2) (da_cons (dx_tuple (DO.dx (do_sortD hr.units (dx_var 6) B.z_sorted)) B.z_tuple) da_nil)))))))))))
theorem ok__law_healing (B : Blt K mg) (F : FunAt K mg "_law_healing" "_law_healing" s__law_healing ["land", "heals"]) : CallOk P w K mg bs 1 "_law_healing" ["land", "heals"] F__law_healing := by
  refine fun_ok (N := N__law_healing) (k := 0) (body := b__law_healing) F sc__law_healing (by decide) fun f cdv A out s H E hr gd => ?_
  exact (dss_cons (ds_asg (dx_var 0) (dg_tup rfl (dgs_cons (dg_tup rfl (dgs_cons (dg_name 2 sc__law_healing.nd) (dgs_cons (dg_name 3 sc__law_healing.nd) dgs_nil))) (dgs_cons (dg_name 4 sc__law_healing.nd) (dgs_cons (dg_name 5 sc__law_healing.nd) dgs_nil)))))
  (dss_one (ds_ret (dx_tup (da_cons (dx_tup (da_cons (dx_var 2) (da_cons (dx_tuple (DO.dx (do_lc (own := [("cord", 6), ("heal", 7)]) rfl sc__law_healing.nd (di_zipM (da_cons (dx_var 3) (da_cons (dx_var 1) da_nil)) B.z_zip) (blkOk_by (N := N__law_healing) (sc := defScope s__law_healing) (own := [("cord", 6), ("heal", 7)]) (by decide +kernel)) (by decide) (fun _ _ _ _ _ => (dg_tup rfl (dgs_cons (dg_name 6 sc__law_healing.nd) (dgs_cons (dg_name 7 sc__law_healing.nd) dgs_nil)))) (fun _ _ _ _ _ => dts_nil) (fun _ _ _ _ _ => (dx_add (dx_sl (dx_var 6) dp_no (dp_of dx_int)) (dx_tup (da_cons (dx_var 7) da_nil)))))) B.z_tuple) da_nil))) (da_cons (dx_var 4) (da_cons (dx_var 5) da_nil)))))))
theorem ok__law_one_right (B : Blt K mg) (F : FunAt K mg "_law_one_right" "_law_one_right" s__law_one_right ["land"]) (C_is_steady : CallP P w K mg bs 1 "is_steady" ["world"] pt_is_steady F_is_steady) : CallOk P w K mg bs 2 "_law_one_right" ["land"] F__law_one_right := by
  refine fun_ok (N := N__law_one_right) (k := 1) (body := b__law_one_right) F sc__law_one_right (by decide) fun f cdv A out s H E hr gd => ?_
  exact (dss_cons (ds_asg (dx_repr gd hr.units (dx_var 0) B.z_repr) (dg_name 1 sc__law_one_right.nd))
  (dss_cons (ds_asg (dx_ge (dx_minL rfl hr.units (DO.dx (do_lc (own := [("cord", 4)]) rfl sc__law_one_right.nd (di_seq (dx_item (dx_item (dx_var 0) dx_int) dx_int)) (blkOk_by (N := N__law_one_right) (sc := defScope s__law_one_right) (own := [("cord", 4)]) (by decide +kernel)) (by decide) (fun _ _ _ _ _ => (dg_name 4 sc__law_one_right.nd)) (fun _ _ _ _ _ => dts_nil) (fun _ _ _ _ _ => (dx_item (dx_var 4) dx_int)))) B.z_min) (dx_item (dx_var 0) dx_int)) (dg_name 2 sc__law_one_right.nd))
  (dss_cons (ds_for PassesOwn.never rfl (di_seq (DO.dx (do_lst (da_cons (dx_callP0 C_is_steady (.head _) run0_keeps run0_nox (hr.mono (by omega)) gd (da_cons (dx_var 0) da_nil) (alen_cons alen0)) (da_cons (dx_callPK0 C_is_steady (.tail _ (.head _)) run0_keeps run0_nox (hr.mono (by omega)) gd (dk_cons (dx_var 0) dk_nil) (alen_cons alen0)) da_nil))))) (dg_name 3 sc__law_one_right.nd) (dss_un [3] (dss_one (ds_if (DW.dt (dw_or (dt_not (dt_val (dx_isi (dx_var 3) B.z_isinstance B.z_bool))) (dw_or1 (dt_ne hr.units (dx_var 3) (dx_var 2))))) (dss_one (ds_ret dx_bl)) dss_nil))))
  (dss_one (ds_ret (dx_eq hr.units (dx_repr gd hr.units (dx_var 0) B.z_repr) (dx_var 1)))))))
theorem ok__law_right (B : Blt K mg) (F : FunAt K mg "_law_right" "_law_right" s__law_right ["bag"]) (C__law_draw : CallOk P w K mg bs 1 "_law_draw" ["bag", "many"] F__law_draw) (C__law_world : CallOk P w K mg bs 4 "_law_world" ["bag", "steady"] F__law_world) (C__law_healing : CallOk P w K mg bs 1 "_law_healing" ["land", "heals"] F__law_healing) (C__law_one_right : CallOk P w K mg bs 2 "_law_one_right" ["land"] F__law_one_right) : CallOk P w K mg bs 5 "_law_right" ["bag"] F__law_right := by
  refine fun_ok (N := N__law_right) (k := 4) (body := b__law_right) F sc__law_right (by decide) fun f cdv A out s H E hr gd => ?_
  exact (dss_cons (ds_asg (dx_callC C__law_world run0_keeps run0_nox (hr.mono (by omega)) gd (da_cons (dx_var 0) (da_cons (dx_eq hr.units (dx_callC C__law_draw run0_keeps run0_nox (hr.mono (by omega)) gd (da_cons (dx_var 0) (da_cons dx_int da_nil)) (alen_cons (alen_cons alen0))) dx_int) da_nil)) (alen_cons (alen_cons alen0))) (dg_name 1 sc__law_right.nd))
  (dss_cons (ds_setLc (own := [("cord", 8)]) 2 rfl sc__law_right.nd rfl (sw_true rfl rfl rfl (by decide +kernel)) (di_seq (dx_item (dx_item (dx_var 1) dx_int) dx_int)) (blkOk_by (N := N__law_right) (sc := defScope s__law_right) (own := [("cord", 8)]) (by decide +kernel)) (by decide) (fun _ _ _ _ _ => (dg_name 8 sc__law_right.nd)) (fun _ _ _ _ _ => dts_nil) (fun _ _ _ _ _ => (dx_item (dx_var 8) dx_int)))
  (dss_cons (ds_asg (dx_item (dx_var 1) dx_int) (dg_name 3 sc__law_right.nd))
  (dss_cons (ds_if (dt_not (dt_val (dx_callC C__law_one_right run0_keeps run0_nox (hr.mono (by omega)) gd (da_cons (dx_var 1) da_nil) (alen_cons alen0)))) (dss_one (ds_ret dx_bl)) dss_nil)
  (dss_cons (ds_for PassesOwn.never rfl (di_seq (DO.dx (do_lst (da_cons (dx_neg dx_int) (da_cons dx_int (da_cons dx_int da_nil)))))) (dg_name 4 sc__law_right.nd) (dss_un [4, 5, 6, 7] (dss_cons (ds_asg (dx_max2 rfl dx_int (dx_add (dx_var 3) (dx_var 4)) B.z_max) (dg_name 5 sc__law_right.nd))
  (dss_cons (ds_if (dt_not (dt_val (dx_callC C__law_one_right run0_keeps run0_nox (hr.mono (by omega)) gd (da_cons (dx_callC C__law_healing run0_keeps run0_nox (hr.mono (by omega)) gd (da_cons (dx_var 1) (da_cons (dx_mulV (DO.dx (do_lst (da_cons (dx_var 5) da_nil))) (dx_len (dx_var 2) B.z_len)) da_nil)) (alen_cons (alen_cons alen0))) da_nil) (alen_cons alen0)))) (dss_one (ds_ret dx_bl)) dss_nil)
  (dss_cons (ds_asg (dx_callC C__law_draw run0_keeps run0_nox (hr.mono (by omega)) gd (da_cons (dx_var 0) (da_cons (dx_len (dx_var 2) B.z_len) da_nil)) (alen_cons (alen_cons alen0))) (dg_name 6 sc__law_right.nd))
  (dss_cons (ds_setLc (own := [("one", 9)]) 7 rfl sc__law_right.nd rfl (sw_true rfl rfl rfl (by decide +kernel)) (di_seq (dx_var 2)) (blkOk_by (N := N__law_right) (sc := defScope s__law_right) (own := [("one", 9)]) (by decide +kernel)) (by decide) (fun _ _ _ _ _ => (dg_name 9 sc__law_right.nd)) (fun _ _ _ _ _ => dts_nil) (fun _ _ _ _ _ => (dx_max2 rfl (dx_var 9) (dx_var 3) B.z_max)))
  (dss_cons (ds_setIx 7 (dx_var 5) (dx_var 6))
  (dss_one (ds_if (dt_not (dt_val (dx_callC C__law_one_right run0_keeps run0_nox (hr.mono (by omega)) gd (da_cons (dx_view 7 (dx_callC C__law_healing run0_keeps run0_nox (hr.mono (by omega)) gd (da_cons (dx_var 1) (da_cons (dx_var 7) da_nil)) (alen_cons (alen_cons alen0)))) da_nil) (alen_cons alen0)))) (dss_one (ds_ret dx_bl)) dss_nil)))))))))
  (dss_one (ds_ret dx_bl)))))))
theorem ok_law (B : Blt K mg) {f : Addr} {fd : FuncData} (F : Fun K "law" "law" s_law f fd) (C__law_bag : CallOk P w K mg bs 1 "_law_bag" ["cell", "turn"] F__law_bag) (C__law_right : CallOk P w K mg bs 5 "_law_right" ["bag"] F__law_right) : FnG P w K mg bs CX0 6 f fd ["script"] (spD K mg 1 F_law) := by
  refine def_ok (N := N_law) (k := 5) (body := b_law) F sc_law (by decide) fun cdv A out s H E hr gd => ?_
  exact (dss_cons (ds_for PassesOwn.never rfl (di_enumX (da_cons (dx_add (DO.dx (do_lst (da_cons (dx_len (dx_var 0) B.z_len) da_nil))) (dx_sl (dx_var 0) dp_no (dp_of dx_int))) da_nil) B.z_enumerate) (dg_tup rfl (dgs_cons (dg_name 1 sc_law.nd) (dgs_cons (dg_name 2 sc_law.nd) dgs_nil))) (dss_un [1, 2] (dss_one (ds_if (dt_not (dt_val (dx_callCO C__law_right run0_keeps run0_nox (hr.mono (by omega)) gd (do_callC C__law_bag run0_keeps run0_nox (hr.mono (by omega)) gd (da_cons (dx_var 2) (da_cons (dx_var 1) da_nil)) (alen_cons (alen_cons alen0))) rfl))) (dss_one (ds_ret dx_bl)) dss_nil))))
  (dss_one (ds_ret dx_bl)))
end
theorem all_mk {P : Program} {w : World} {K : PySem.W.Frag} {h : Heap} {mg : Str → Option Value} {fa : Addr} (X : K.In h) (G : h.Ns mainGlobals mg) (hfa : mg "law" = some (.ref fa))
  {f0 : Addr} {od0 an0 : Option Addr} {sl0 : Array (Option Value)} {oc0 kV0 dc0 pm0 cd0 ct0 : Value} (a0 : PySem.W.nsIn K mainGlobals "is_steady" = some (some (.ref f0))) (l0 : K.lookup f0 = some ⟨oc0, od0, .func (PySem.W.fnOf "is_steady" "is_steady" (defArgs s_is_steady) (defBody s_is_steady) (defScope s_is_steady) .none kV0 dc0 pm0 an0 cd0 ct0), sl0⟩) (c0 : PySem.W.codeIn K cd0 "is_steady" = true) (k0 : PySem.W.keepIn K (.ref f0) = true)
  {f1 : Addr} {od1 an1 : Option Addr} {sl1 : Array (Option Value)} {oc1 kV1 dc1 pm1 cd1 ct1 : Value} (a1 : PySem.W.nsIn K mainGlobals "_law_bag" = some (some (.ref f1))) (l1 : K.lookup f1 = some ⟨oc1, od1, .func (PySem.W.fnOf "_law_bag" "_law_bag" (defArgs s__law_bag) (defBody s__law_bag) (defScope s__law_bag) .none kV1 dc1 pm1 an1 cd1 ct1), sl1⟩) (c1 : PySem.W.codeIn K cd1 "_law_bag" = true) (k1 : PySem.W.keepIn K (.ref f1) = true)
  {f2 : Addr} {od2 an2 : Option Addr} {sl2 : Array (Option Value)} {oc2 kV2 dc2 pm2 cd2 ct2 : Value} (a2 : PySem.W.nsIn K mainGlobals "_law_draw" = some (some (.ref f2))) (l2 : K.lookup f2 = some ⟨oc2, od2, .func (PySem.W.fnOf "_law_draw" "_law_draw" (defArgs s__law_draw) (defBody s__law_draw) (defScope s__law_draw) .none kV2 dc2 pm2 an2 cd2 ct2), sl2⟩) (c2 : PySem.W.codeIn K cd2 "_law_draw" = true) (k2 : PySem.W.keepIn K (.ref f2) = true)
  {f3 : Addr} {od3 an3 : Option Addr} {sl3 : Array (Option Value)} {oc3 kV3 dc3 pm3 cd3 ct3 : Value} (a3 : PySem.W.nsIn K mainGlobals "_law_tie" = some (some (.ref f3))) (l3 : K.lookup f3 = some ⟨oc3, od3, .func (PySem.W.fnOf "_law_tie" "_law_tie" (defArgs s__law_tie) (defBody s__law_tie) (defScope s__law_tie) .none kV3 dc3 pm3 an3 cd3 ct3), sl3⟩) (c3 : PySem.W.codeIn K cd3 "_law_tie" = true) (k3 : PySem.W.keepIn K (.ref f3) = true)
  {f4 : Addr} {od4 an4 : Option Addr} {sl4 : Array (Option Value)} {oc4 kV4 dc4 pm4 cd4 ct4 : Value} (a4 : PySem.W.nsIn K mainGlobals "_law_ground" = some (some (.ref f4))) (l4 : K.lookup f4 = some ⟨oc4, od4, .func (PySem.W.fnOf "_law_ground" "_law_ground" (defArgs s__law_ground) (defBody s__law_ground) (defScope s__law_ground) .none kV4 dc4 pm4 an4 cd4 ct4), sl4⟩) (c4 : PySem.W.codeIn K cd4 "_law_ground" = true) (k4 : PySem.W.keepIn K (.ref f4) = true)
  {f5 : Addr} {od5 an5 : Option Addr} {sl5 : Array (Option Value)} {oc5 kV5 dc5 pm5 cd5 ct5 : Value} (a5 : PySem.W.nsIn K mainGlobals "_law_days" = some (some (.ref f5))) (l5 : K.lookup f5 = some ⟨oc5, od5, .func (PySem.W.fnOf "_law_days" "_law_days" (defArgs s__law_days) (defBody s__law_days) (defScope s__law_days) .none kV5 dc5 pm5 an5 cd5 ct5), sl5⟩) (c5 : PySem.W.codeIn K cd5 "_law_days" = true) (k5 : PySem.W.keepIn K (.ref f5) = true)
  {f6 : Addr} {od6 an6 : Option Addr} {sl6 : Array (Option Value)} {oc6 kV6 dc6 pm6 cd6 ct6 : Value} (a6 : PySem.W.nsIn K mainGlobals "_law_world" = some (some (.ref f6))) (l6 : K.lookup f6 = some ⟨oc6, od6, .func (PySem.W.fnOf "_law_world" "_law_world" (defArgs s__law_world) (defBody s__law_world) (defScope s__law_world) .none kV6 dc6 pm6 an6 cd6 ct6), sl6⟩) (c6 : PySem.W.codeIn K cd6 "_law_world" = true) (k6 : PySem.W.keepIn K (.ref f6) = true)
  {f7 : Addr} {od7 an7 : Option Addr} {sl7 : Array (Option Value)} {oc7 kV7 dc7 pm7 cd7 ct7 : Value} (a7 : PySem.W.nsIn K mainGlobals "_law_healing" = some (some (.ref f7))) (l7 : K.lookup f7 = some ⟨oc7, od7, .func (PySem.W.fnOf "_law_healing" "_law_healing" (defArgs s__law_healing) (defBody s__law_healing) (defScope s__law_healing) .none kV7 dc7 pm7 an7 cd7 ct7), sl7⟩) (c7 : PySem.W.codeIn K cd7 "_law_healing" = true) (k7 : PySem.W.keepIn K (.ref f7) = true)
  {f8 : Addr} {od8 an8 : Option Addr} {sl8 : Array (Option Value)} {oc8 kV8 dc8 pm8 cd8 ct8 : Value} (a8 : PySem.W.nsIn K mainGlobals "_law_one_right" = some (some (.ref f8))) (l8 : K.lookup f8 = some ⟨oc8, od8, .func (PySem.W.fnOf "_law_one_right" "_law_one_right" (defArgs s__law_one_right) (defBody s__law_one_right) (defScope s__law_one_right) .none kV8 dc8 pm8 an8 cd8 ct8), sl8⟩) (c8 : PySem.W.codeIn K cd8 "_law_one_right" = true) (k8 : PySem.W.keepIn K (.ref f8) = true)
  {f9 : Addr} {od9 an9 : Option Addr} {sl9 : Array (Option Value)} {oc9 kV9 dc9 pm9 cd9 ct9 : Value} (a9 : PySem.W.nsIn K mainGlobals "_law_right" = some (some (.ref f9))) (l9 : K.lookup f9 = some ⟨oc9, od9, .func (PySem.W.fnOf "_law_right" "_law_right" (defArgs s__law_right) (defBody s__law_right) (defScope s__law_right) .none kV9 dc9 pm9 an9 cd9 ct9), sl9⟩) (c9 : PySem.W.codeIn K cd9 "_law_right" = true) (k9 : PySem.W.keepIn K (.ref f9) = true)
  {f10 : Addr} {od10 an10 : Option Addr} {sl10 : Array (Option Value)} {oc10 kV10 dc10 pm10 cd10 ct10 : Value} (a10 : PySem.W.nsIn K mainGlobals "law" = some (some (.ref f10))) (l10 : K.lookup f10 = some ⟨oc10, od10, .func (PySem.W.fnOf "law" "law" (defArgs s_law) (defBody s_law) (defScope s_law) .none kV10 dc10 pm10 an10 cd10 ct10), sl10⟩) (c10 : PySem.W.codeIn K cd10 "law" = true) (k10 : PySem.W.keepIn K (.ref f10) = true)
  (z_abs : PySem.W.nsIn K mainGlobals "abs" = some none)
  (z_all : PySem.W.nsIn K mainGlobals "all" = some none)
  (z_bool : PySem.W.nsIn K mainGlobals "bool" = some none)
  (z_enumerate : PySem.W.nsIn K mainGlobals "enumerate" = some none)
  (z_isinstance : PySem.W.nsIn K mainGlobals "isinstance" = some none)
  (z_len : PySem.W.nsIn K mainGlobals "len" = some none)
  (z_list : PySem.W.nsIn K mainGlobals "list" = some none)
  (z_max : PySem.W.nsIn K mainGlobals "max" = some none)
  (z_min : PySem.W.nsIn K mainGlobals "min" = some none)
  (z_range : PySem.W.nsIn K mainGlobals "range" = some none)
  (z_repr : PySem.W.nsIn K mainGlobals "repr" = some none)
  (z_sorted : PySem.W.nsIn K mainGlobals "sorted" = some none)
  (z_tuple : PySem.W.nsIn K mainGlobals "tuple" = some none)
  (z_zip : PySem.W.nsIn K mainGlobals "zip" = some none)
  : ∃ fd : FuncData, (∀ (s : Shared) (v : Value), BindsTo s fd ⟨[v], []⟩ [("script", v)]) ∧ ∀ bs : Heap, K.In bs → bs.Ns mainGlobals mg → FnG P w K mg bs CX0 6 fa fd ["script"] (spD K mg 1 F_law) := by
  have e := hfa.symm.trans (PySem.W.mg_of X G a10)
  cases e
  have B : Blt K mg := ⟨PySem.W.mg_none_of X G z_abs, PySem.W.mg_none_of X G z_all, PySem.W.mg_none_of X G z_bool, PySem.W.mg_none_of X G z_enumerate, PySem.W.mg_none_of X G z_isinstance, PySem.W.mg_none_of X G z_len, PySem.W.mg_none_of X G z_list, PySem.W.mg_none_of X G z_max, PySem.W.mg_none_of X G z_min, PySem.W.mg_none_of X G z_range, PySem.W.mg_none_of X G z_repr, PySem.W.mg_none_of X G z_sorted, PySem.W.mg_none_of X G z_tuple, PySem.W.mg_none_of X G z_zip⟩
  have F0 : FunP K mg "is_steady" "is_steady" s_is_steady ["world"] pt_is_steady := ⟨_, _, fun_mk (st := s_is_steady) l0 c0 k0, PySem.W.mg_of X G a0, fun p hp => by
    simp only [List.mem_cons, List.not_mem_nil, or_false] at hp
    rcases hp with rfl | rfl
    · exact pat_plain (fun us ws h1 h2 => match us, ws, h1, h2 with | [_], [], _, _ => rfl) (by decide)
    · exact pat_plain (fun us ws h1 h2 => match us, ws, h1, h2 with | [], [_], _, _ => rfl) (by decide)⟩
  have F1 : FunAt K mg "_law_bag" "_law_bag" s__law_bag ["cell", "turn"] := ⟨_, _, fun_mk (st := s__law_bag) l1 c1 k1, PySem.W.mg_of X G a1, (fun_mk (st := s__law_bag) l1 c1 k1).binds (ps := ["cell", "turn"]) fun _ _ _ _ _ _ us hl => match us, hl with | [_, _], _ => rfl⟩
  have F2 : FunAt K mg "_law_draw" "_law_draw" s__law_draw ["bag", "many"] := ⟨_, _, fun_mk (st := s__law_draw) l2 c2 k2, PySem.W.mg_of X G a2, (fun_mk (st := s__law_draw) l2 c2 k2).binds (ps := ["bag", "many"]) fun _ _ _ _ _ _ us hl => match us, hl with | [_, _], _ => rfl⟩
  have F3 : FunAt K mg "_law_tie" "_law_tie" s__law_tie ["bag", "a", "b", "least"] := ⟨_, _, fun_mk (st := s__law_tie) l3 c3 k3, PySem.W.mg_of X G a3, (fun_mk (st := s__law_tie) l3 c3 k3).binds (ps := ["bag", "a", "b", "least"]) fun _ _ _ _ _ _ us hl => match us, hl with | [_, _, _, _], _ => rfl⟩
  have F4 : FunAt K mg "_law_ground" "_law_ground" s__law_ground ["bag", "least"] := ⟨_, _, fun_mk (st := s__law_ground) l4 c4 k4, PySem.W.mg_of X G a4, (fun_mk (st := s__law_ground) l4 c4 k4).binds (ps := ["bag", "least"]) fun _ _ _ _ _ _ us hl => match us, hl with | [_, _], _ => rfl⟩
  have F5 : FunAt K mg "_law_days" "_law_days" s__law_days ["bag", "week"] := ⟨_, _, fun_mk (st := s__law_days) l5 c5 k5, PySem.W.mg_of X G a5, (fun_mk (st := s__law_days) l5 c5 k5).binds (ps := ["bag", "week"]) fun _ _ _ _ _ _ us hl => match us, hl with | [_, _], _ => rfl⟩
  have F6 : FunAt K mg "_law_world" "_law_world" s__law_world ["bag", "steady"] := ⟨_, _, fun_mk (st := s__law_world) l6 c6 k6, PySem.W.mg_of X G a6, (fun_mk (st := s__law_world) l6 c6 k6).binds (ps := ["bag", "steady"]) fun _ _ _ _ _ _ us hl => match us, hl with | [_, _], _ => rfl⟩
  have F7 : FunAt K mg "_law_healing" "_law_healing" s__law_healing ["land", "heals"] := ⟨_, _, fun_mk (st := s__law_healing) l7 c7 k7, PySem.W.mg_of X G a7, (fun_mk (st := s__law_healing) l7 c7 k7).binds (ps := ["land", "heals"]) fun _ _ _ _ _ _ us hl => match us, hl with | [_, _], _ => rfl⟩
  have F8 : FunAt K mg "_law_one_right" "_law_one_right" s__law_one_right ["land"] := ⟨_, _, fun_mk (st := s__law_one_right) l8 c8 k8, PySem.W.mg_of X G a8, (fun_mk (st := s__law_one_right) l8 c8 k8).binds (ps := ["land"]) fun _ _ _ _ _ _ us hl => match us, hl with | [_], _ => rfl⟩
  have F9 : FunAt K mg "_law_right" "_law_right" s__law_right ["bag"] := ⟨_, _, fun_mk (st := s__law_right) l9 c9 k9, PySem.W.mg_of X G a9, (fun_mk (st := s__law_right) l9 c9 k9).binds (ps := ["bag"]) fun _ _ _ _ _ _ us hl => match us, hl with | [_], _ => rfl⟩
  have F10 : FunAt K mg "law" "law" s_law ["script"] := ⟨_, _, fun_mk (st := s_law) l10 c10 k10, PySem.W.mg_of X G a10, (fun_mk (st := s_law) l10 c10 k10).binds (ps := ["script"]) fun _ _ _ _ _ _ us hl => match us, hl with | [_], _ => rfl⟩
  refine ⟨PySem.W.fnOf "law" "law" (defArgs s_law) (defBody s_law) (defScope s_law) .none kV10 dc10 pm10 an10 cd10 ct10, fun s v => .of_eq rfl, fun bs _ _ => ?_⟩
  have C_is_steady := ok_is_steady (P := P) (w := w) (bs := bs) B F0
  have C__law_bag := ok__law_bag (P := P) (w := w) (bs := bs) B F1
  have C__law_draw := ok__law_draw (P := P) (w := w) (bs := bs) B F2
  have C__law_tie := ok__law_tie (P := P) (w := w) (bs := bs) B F3 C__law_draw
  have C__law_ground := ok__law_ground (P := P) (w := w) (bs := bs) B F4 C__law_draw C__law_tie
  have C__law_days := ok__law_days (P := P) (w := w) (bs := bs) B F5 C__law_draw
  have C__law_world := ok__law_world (P := P) (w := w) (bs := bs) B F6 C__law_draw C__law_ground C__law_days
  have C__law_healing := ok__law_healing (P := P) (w := w) (bs := bs) B F7
  have C__law_one_right := ok__law_one_right (P := P) (w := w) (bs := bs) B F8 C_is_steady
  have C__law_right := ok__law_right (P := P) (w := w) (bs := bs) B F9 C__law_draw C__law_world C__law_healing C__law_one_right
  exact ok_law B (fun_mk (st := s_law) l10 c10 k10) C__law_bag C__law_right
end Lk36
set_option Elab.async false
set_option linter.all false
set_option maxRecDepth 100000
set_option exponentiation.threshold 2000
namespace Lk36
open PySem PySem.Spec L2 M TD
/-- the bag, and how often it was drawn from at most -/
def J (n : Nat) (d : D) : Prop := ∃ a b c : Int, d = .list [.int a, .int b, .int c] ∧ 0 ≤ a ∧ 0 ≤ b ∧ b < 10 ^ 60 ∧ 0 ≤ c ∧ c ≤ n
theorem J.mono {n m : Nat} {d : D} (h : J n d) (l : n ≤ m) : J m d := by
  obtain ⟨a, b, c, e, h1, h2, h3, h4, h5⟩ := h
  exact ⟨a, b, c, e, h1, h2, h3, h4, by omega⟩
theorem J.flat {n : Nat} {d : D} (h : J n d) : flatO d = true := by
  obtain ⟨a, b, c, rfl, _⟩ := h; rfl
theorem log2_lt {i : Int} {n : Nat} (h0 : 0 ≤ i) (h : i < 2 ^ (n + 1)) : i.natAbs.log2 < n + 1 := by
  by_cases hz : i.natAbs = 0
  · rw [hz]; simp
  · rw [Nat.log2_lt hz]
    have : ((i.natAbs : Nat) : Int) < ((2 ^ (n + 1) : Nat) : Int) := by rw [Int.natAbs_of_nonneg h0]; push_cast; exact h
    exact_mod_cast this
theorem log2_mid {i : Int} (h0 : 0 ≤ i) (h : i ≤ 100000000) : i.natAbs.log2 < 100 :=
  Nat.lt_of_lt_of_le (log2_lt (n := 61) h0 (by have : (100000000 : Int) < 2 ^ (61 + 1) := by decide
                                               omega)) (by decide)
theorem p10 (n : Nat) (h : n ≤ 100) : dPow (.int 10) (.int n) = some (.int (10 ^ n)) := by
  rw [dPow_i 10 n ⟨by omega, by omega, by decide⟩]; simp
theorem bag_ok (cell : Int) (hc : cell.natAbs.log2 < 1048577) (k : Nat) (hk : k ≤ 1000) : ∃ jar, F__law_bag [.sh (.int cell), .sh (.int k)] = .ret true jar [.un, .un] ∧ J k jar := by
  have e1 : dPow (.int 10) (.int 18) = some (.int (10 ^ 18)) := p10 18 (by omega)
  have e2 : dPow (.int 10) (.int 50) = some (.int (10 ^ 50)) := p10 50 (by omega)
  have e3 : dPow (.int 7368787) (.int 5) = some (.int (7368787 ^ 5)) := by rw [dPow_i 7368787 5 ⟨by omega, by omega, by decide⟩]; rfl
  have P : (0 : Int) < 10 ^ 50 + 151 := by decide
  have e4 : dMulW (.int cell) (.int (7368787 ^ 5)) = some (.int (cell * 7368787 ^ 5)) := dMulW_i _ _ (by
    have : (7368787 ^ 5 : Int).natAbs.log2 < 1000 := by decide
    omega)
  have e5 : dMulW (.int 271828182845904) (.int ((k : Int) + 1)) = some (.int (271828182845904 * ((k : Int) + 1))) := dMulW_i _ _ (by
    have : (271828182845904 : Int).natAbs.log2 < 1000 := by decide
    have := log2_mid (i := (k : Int) + 1) (by omega) (by omega)
    omega)
  have x0 := Int.emod_nonneg (cell * 7368787 ^ 5 + 271828182845904 * ((k : Int) + 1)) (b := 10 ^ 50 + 151) (by omega)
  have x1 := Int.emod_lt_of_pos (cell * 7368787 ^ 5 + 271828182845904 * ((k : Int) + 1)) P
  refine ⟨.list [.int (if (0 : Int) < (if cell < 0 then -cell else cell) - 10 ^ 18 then (if cell < 0 then -cell else cell) - 10 ^ 18 else 0), .int ((cell * 7368787 ^ 5 + 271828182845904 * ((k : Int) + 1)) % (10 ^ 50 + 151)), .int k], ?_, ⟨_, _, _, rfl, ?_, x0, Int.lt_trans x1 (by decide), by omega, by omega⟩⟩
  · unfold F__law_bag; rw [run0_r _ _ _ (by simp)]
    generalize hq : (10 : Int) ^ 18 = q18 at *
    generalize hq5 : (10 : Int) ^ 50 = q50 at *
    generalize hq7 : (7368787 : Int) ^ 5 = q7 at *
    simp [b__law_bag, e1, e2, e3, e4, e5, dMod_i _ _ P]
  · split <;> omega
theorem draw_ok {n : Nat} {jar : D} (hJ : J n jar) (hn : n ≤ 1000000) {m : Int} (hm : 0 < m) (hm2 : m ≤ 1000000) :
    ∃ (r : Nat) (jar' : D), F__law_draw [.ow true jar, .sh (.int m)] = .ret false (.int r) [.ow true jar', .un] ∧ (r : Int) < m ∧ J (n + 1) jar' := by
  obtain ⟨a, b, c, rfl, ha, hb, hb2, hc, hc2⟩ := id hJ
  have lm : m.natAbs.log2 < 9000 := Nat.lt_of_lt_of_le (log2_mid (by omega) (by omega)) (by decide)
  by_cases h : 1 < a
  · have n1 := Int.emod_nonneg a (b := m) (by omega)
    have n2 := Int.emod_lt_of_pos a hm
    refine ⟨(a % m).toNat, .list [.int (a / m), .int b, .int c], ?_, by omega, ⟨_, _, _, rfl, Int.ediv_nonneg ha (by omega), hb, hb2, hc, by omega⟩⟩
    unfold F__law_draw; rw [run0_r _ _ _ (by simp)]
    rw [show (((a % m).toNat : Nat) : Int) = a % m by omega]
    simp [b__law_draw, h, dMod_i _ _ hm, dFdiv_i _ _ hm lm]
  · have lb : b.natAbs.log2 < 400 := log2_lt (n := 399) hb (Int.lt_trans hb2 (by decide))
    have e1 : dMulW (.int b) (.int b) = some (.int (b * b)) := dMulW_i _ _ (by omega)
    have e3 : dPow (.int 37156667) (.int 5) = some (.int (37156667 ^ 5)) := by rw [dPow_i 37156667 5 ⟨by omega, by omega, by decide⟩]; rfl
    have e2 : dMulW (.int (c + 1)) (.int (37156667 ^ 5)) = some (.int ((c + 1) * 37156667 ^ 5)) := dMulW_i _ _ (by
      have : (37156667 ^ 5 : Int).natAbs.log2 < 1000 := by decide
      have := log2_mid (i := c + 1) (by omega) (by omega)
      omega)
    have e4 : dPow (.int 10) (.int 50) = some (.int (10 ^ 50)) := p10 50 (by omega)
    have P : (0 : Int) < 10 ^ 50 + 151 := by decide
    have lq : (262147 : Int).natAbs.log2 < 9000 := by decide
    have x0 := Int.emod_nonneg (b * b + (c + 1) * 37156667 ^ 5) (b := 10 ^ 50 + 151) (by omega)
    have x1 := Int.emod_lt_of_pos (b * b + (c + 1) * 37156667 ^ 5) P
    have fq := fun x : Int => dFdiv_i x 262147 (by omega) lq
    have n1 := Int.emod_nonneg ((b * b + (c + 1) * 37156667 ^ 5) % (10 ^ 50 + 151) / 262147) (b := m) (by omega)
    have n2 := Int.emod_lt_of_pos ((b * b + (c + 1) * 37156667 ^ 5) % (10 ^ 50 + 151) / 262147) hm
    refine ⟨((b * b + (c + 1) * 37156667 ^ 5) % (10 ^ 50 + 151) / 262147 % m).toNat, .list [.int a, .int ((b * b + (c + 1) * 37156667 ^ 5) % (10 ^ 50 + 151)), .int (c + 1)], ?_, by omega, ⟨_, _, _, rfl, ha, x0, Int.lt_trans x1 (by decide), by omega, by omega⟩⟩
    unfold F__law_draw; rw [run0_r _ _ _ (by simp)]
    rw [Int.toNat_of_nonneg n1]
    generalize hq5 : (10 : Int) ^ 50 = q50 at *
    generalize hq7 : (37156667 : Int) ^ 5 = q7 at *
    simp [b__law_draw, h, e1, e2, e3, e4, dMod_i _ _ P, dMod_i _ _ hm, fq]
theorem pick4 {a b c d : Int} {lo hi : Int} (h1 : lo ≤ a ∧ a ≤ hi) (h2 : lo ≤ b ∧ b ≤ hi) (h3 : lo ≤ c ∧ c ≤ hi) (h4 : lo ≤ d ∧ d ≤ hi) {y : Nat} (hy : (y : Int) < 4) :
    ∃ r : Int, atI [PyData.int a, .int b, .int c, .int d] (y : Int) = some (.int r) ∧ lo ≤ r ∧ r ≤ hi := by
  rw [atI_natE]
  rcases (by omega : y = 0 ∨ y = 1 ∨ y = 2 ∨ y = 3) with rfl | rfl | rfl | rfl
  · exact ⟨a, rfl, h1⟩
  · exact ⟨b, rfl, h2⟩
  · exact ⟨c, rfl, h3⟩
  · exact ⟨d, rfl, h4⟩
theorem pick3 {a b c : Int} {lo hi : Int} (h1 : lo ≤ a ∧ a ≤ hi) (h2 : lo ≤ b ∧ b ≤ hi) (h3 : lo ≤ c ∧ c ≤ hi) {y : Nat} (hy : (y : Int) < 3) :
    ∃ r : Int, atI [PyData.int a, .int b, .int c] (y : Int) = some (.int r) ∧ lo ≤ r ∧ r ≤ hi := by
  rw [atI_natE]
  rcases (by omega : y = 0 ∨ y = 1 ∨ y = 2) with rfl | rfl | rfl
  · exact ⟨a, rfl, h1⟩
  · exact ⟨b, rfl, h2⟩
  · exact ⟨c, rfl, h3⟩
theorem tie_ok {q : Nat} {jar : D} (hJ : J q jar) (hq : q ≤ 50000) {n a b : Nat} (ha : a < n) (hb : b < n) (hab : a ≠ b) {l : Int} (l1 : 1 ≤ l) (l4 : l ≤ 4) :
    ∃ (t : Ti) (jar' : D), F__law_tie [.ow true jar, .sh (.int a), .sh (.int b), .sh (.int l)] = .ret false (tiD t) [.ow true jar', .un, .un, .un] ∧ TiOk n t ∧ l ≤ t.h ∧ J (q + 8) jar' := by
  obtain ⟨lo, hlo⟩ : ∃ lo : Nat, lo = if b < a then b else a := ⟨_, rfl⟩
  obtain ⟨hi, hhi⟩ : ∃ hi : Nat, hi = if a < b then b else a := ⟨_, rfl⟩
  have mn : (if b < a then (b : Int) else a) = (lo : Int) := by rw [hlo]; split <;> rfl
  have mx : (if a < b then (b : Int) else a) = (hi : Int) := by rw [hhi]; split <;> rfl
  have ab1 : lo < hi := by rw [hlo, hhi]; split <;> split <;> omega
  have ab2 : hi < n := by rw [hhi]; split <;> omega
  obtain ⟨x1, j1, e1, h1, J1⟩ := draw_ok hJ (by omega) (m := 3) (by omega) (by omega)
  obtain ⟨x2, j2, e2, h2, J2⟩ := draw_ok J1 (by omega) (m := 8) (by omega) (by omega)
  obtain ⟨x3, j3, e3, h3, J3⟩ := draw_ok J2 (by omega) (m := 98) (by omega) (by omega)
  obtain ⟨x4, j4, e4, h4, J4⟩ := draw_ok J3 (by omega) (m := 4) (by omega) (by omega)
  obtain ⟨r, ar, r2, r99⟩ := pick4 (a := 2 + (x1 : Int)) (b := 4 + (x2 : Int)) (c := 2 + (x3 : Int)) (d := 99) (lo := 2) (hi := 99) (by omega) (by omega) (by omega) (by omega) h4
  obtain ⟨x5, j5, e5, h5, J5⟩ := draw_ok J4 (by omega) (m := r - 1) (by omega) (by omega)
  obtain ⟨x6, j6, e6, h6, J6⟩ := draw_ok J5 (by omega) (m := 3) (by omega) (by omega)
  obtain ⟨w, aw, w1, wr⟩ := pick3 (a := 1) (b := 1 + (x5 : Int)) (c := r - 1) (lo := 1) (hi := r - 1) (by omega) (by omega) (by omega) h6
  obtain ⟨x7, j7, e7, h7, J7⟩ := draw_ok J6 (by omega) (m := 7 - l) (by omega) (by omega)
  obtain ⟨x8, j8, e8, h8, J8⟩ := draw_ok J7 (by omega) (m := 3) (by omega) (by omega)
  obtain ⟨h, ah, hl, h6'⟩ := pick3 (a := l) (b := l + (x7 : Int)) (c := 6) (lo := l) (hi := 6) (by omega) (by omega) (by omega) h8
  refine ⟨⟨lo, hi, r, w, h⟩, j8, ?_, ⟨ab1, ab2, w1, by dsimp only; omega, r99, by dsimp only; omega, h6'⟩, hl, J8⟩
  unfold F__law_tie; rw [run0_r _ _ _ (by simp)]
  simp [b__law_tie, e1, e2, e3, e4, ar, e5, e6, aw, e7, e8, ah, tiD, mn, mx, -atI_natE]
end Lk36
set_option Elab.async false
set_option linter.all false
set_option maxRecDepth 100000
namespace Lk36
open PySem PySem.Spec L2 M TD
theorem ns_erase : ∀ (ks : List Nat) (a : Nat), (nsD ks).eraseIdx a = nsD (ks.eraseIdx a)
  | [], _ => rfl
  | _ :: _, 0 => rfl
  | k :: ks, a + 1 => by
    have := ns_erase ks a
    simp [nsD] at this ⊢
    exact this
theorem ns_take (L : List Nat) (k : Nat) : cutD (nsD L) none (some (k : Int)) = nsD (L.take k) := by rw [cut_to]; unfold nsD; rw [List.map_take]
theorem erase_perm : ∀ {L : List Nat} {y : Nat} (h : y < L.length), (L[y] :: L.eraseIdx y).Perm L
  | [], _, h => by simp at h
  | x :: L, 0, _ => .refl _
  | x :: L, y + 1, h => by
    have := erase_perm (L := L) (y := y) (by simpa using h)
    exact (List.Perm.swap _ _ _).trans (this.cons x)
/-- a row of all numbers below one, in some order -/
theorem row_ok {q : Nat} {jar : D} (hJ : J q jar) (hq : q ≤ 50000) (n : Nat) (n8 : n ≤ 8) (b : Sl) :
    ∃ (L : List Nat) (jar' : D), lcD (gN 7) tYes1 b__law_ground_C1 [7] ((List.range n).map fun i : Nat => .int (0 + (i : Int))) [] [.ow true jar, b, .sh (.int n), .ow false (.list (nsD (List.range n))), .un, .un, .un, .un, .un, .un] =
      .ok (.list (nsD L)) [.ow true jar', b, .sh (.int n), .ow false (.list []), .un, .un, .un, .un, .un, .un] ∧ L.Perm (List.range n) ∧ J (q + n) jar' := by
  obtain ⟨acc, s, e, L, rfl, lL, pm, hJ'⟩ := lc_ex (g := gN 7) (t := tYes1) (f := b__law_ground_C1) (own := [7]) (enc := fun i : Nat => .int (0 + (i : Int)))
    (fun s : D × List Nat => [.ow true s.1, b, .sh (.int n), .ow false (.list (nsD s.2)), .un, .un, .un, .un, .un, .un])
    (fun k acc s => ∃ L : List Nat, acc = nsD L ∧ L.length = k ∧ (L ++ s.2).Perm (List.range n) ∧ J (q + k) s.1) (List.range n) 0 [] (jar, List.range n) ⟨[], rfl, rfl, by simp, by simpa using hJ⟩ (by simp; omega) (by
      rintro k i acc ⟨jar, left⟩ hi ⟨L, rfl, lL, pm, hJ⟩
      have kl := (List.getElem?_eq_some_iff.1 hi).1
      rw [List.length_range] at kl
      have ll := pm.length_eq
      rw [List.length_append, List.length_range] at ll
      dsimp only at hJ ll pm
      obtain ⟨y, j2, e2, h2, J2⟩ := draw_ok hJ (by omega) (m := (left.length : Int)) (by omega) (by omega)
      have yl : y < left.length := by omega
      have ga : gPopAt (.list (nsD left)) [.int (y : Int)] = some (.list (nsD (left.eraseIdx y)), .int (left[y] : Int)) := by
        rw [popAt_nat _ y (.int (left[y] : Int)) (by unfold nsD; rw [List.getElem?_map, List.getElem?_eq_getElem yl]; rfl) (by omega), ns_erase]
      refine ⟨.int (left[y] : Int), (j2, left.eraseIdx y), ?_, L ++ [left[y]], by simp [nsD], by simp; omega, ?_, J2.mono (by omega)⟩
      · simp [lcTurn, b__law_ground_C1, wipeE, restE, e2, ga]
      · rw [List.append_assoc]
        exact ((erase_perm yl).append_left L).trans pm)
  obtain ⟨jar', left⟩ := s
  have ll := pm.length_eq
  dsimp only at *
  rw [List.length_append, List.length_range] at ll
  simp only [List.length_range] at lL
  have : left = [] := by
    cases left with
    | nil => rfl
    | cons => simp at ll; omega
  subst this
  rw [List.append_nil] at pm
  exact ⟨L, jar', e, pm, hJ'.mono (by simp)⟩
def pairD (p : Nat × Nat) : D := .tuple [.int p.1, .int p.2]
/-- the neighbours of a row -/
theorem pairs_ok (L : List Nat) (l2 : 2 ≤ L.length) (l8 : L.length ≤ 8) (a b c d e : Sl) :
    lcD (gN 7) tYes1 b__law_ground_C2 [7] ((List.range (L.length - 1)).map fun i : Nat => .int (1 + (i : Int))) [] [a, b, c, d, e, .sh (.list (nsD L)), .un, .un, .un, .un] =
      .ok (.list (((List.range (L.length - 1)).map fun i => (L.getD i 0, L.getD (i + 1) 0)).map pairD)) [a, b, c, d, e, .sh (.list (nsD L)), .un, .un, .un, .un] := by
  rw [List.map_map]
  have := lc_maps (g := gN 7) (t := tYes1) (f := b__law_ground_C2) (own := [7]) (enc := fun i : Nat => .int (1 + (i : Int))) (pairD ∘ fun i => (L.getD i 0, L.getD (i + 1) 0)) [a, b, c, d, e, .sh (.list (nsD L)), .un, .un, .un, .un] (List.range (L.length - 1)) [] (by simp; omega) (by
    intro i m
    have il := List.mem_range.1 m
    have a1 : atI (nsD L) (i : Int) = some (.int (L.getD i 0 : Nat)) := by rw [nsD_at, List.getElem?_eq_getElem (by omega)]; simp [List.getD, List.getElem?_eq_getElem (show i < L.length by omega)]
    have a2 : atI (nsD L) (1 + (i : Int)) = some (.int (L.getD (i + 1) 0 : Nat)) := by rw [show 1 + (i : Int) = ((i + 1 : Nat) : Int) by omega, nsD_at, List.getElem?_eq_getElem (by omega)]; simp [List.getD, List.getElem?_eq_getElem (show i + 1 < L.length by omega)]
    have s1 : 1 + (i : Int) - 1 = (i : Int) := by omega
    simp [lcTurn, b__law_ground_C2, wipeE, restE, s1, a1, a2, pairD, -nsD_at])
  exact this
structure Ps (n : Nat) (ps : List (Nat × Nat)) : Prop where
  ok : ∀ p ∈ ps, p.1 < n ∧ p.2 < n ∧ p.1 ≠ p.2
def unOr (s : Sl) : Prop := s = .un ∨ ∃ d, s = .sh d
structure SG where
  jar : D
  ps : List (Nat × Nat)
  a : Sl
  b : Sl
theorem insert_nat (xs : List D) (k : Nat) (x : D) (h : xs.length ≤ 1000000) (hk : k ≤ 1000000) : gInsert (.list xs) [.int (k : Int), x] = some (.list (xs.take k ++ [x] ++ xs.drop k), .none) := by
  have u : up63 (k : Int) = true := by rw [up63_d]; simp; omega
  have sm : small xs.length = true := by rw [small_lit]; simpa using h
  unfold gInsert
  simp only [u, sm]
  rw [if_pos (show (true && true) = true from rfl)]
  rfl
theorem more_turn {q : Nat} {n : Nat} {L : List Nat} (l2 : 2 ≤ L.length) (l8 : L.length ≤ 8) (hL : ∀ x ∈ L, x < n) (b c d e : Sl) (i : Nat) {s : SG} (hJ : J q s.jar) (hq : q ≤ 50000) (hp : Ps n s.ps) (lp : s.ps.length ≤ 20) (ha : unOr s.a) (hb : unOr s.b) :
    ∃ s' : SG, turn (gN 7) b__law_ground_L3 (.int (0 + (i : Int))) [.ow true s.jar, b, c, d, e, .sh (.list (nsD L)), .ow false (.list (s.ps.map pairD)), .un, s.a, s.b] =
      .nx [.ow true s'.jar, b, c, d, e, .sh (.list (nsD L)), .ow false (.list (s'.ps.map pairD)), .un, s'.a, s'.b] ∧ J (q + 3) s'.jar ∧ Ps n s'.ps ∧ s'.ps.length ≤ s.ps.length + 1 ∧ s.ps.length ≤ s'.ps.length ∧ unOr s'.a ∧ unOr s'.b := by
  obtain ⟨jar, ps, a8, a9⟩ := s
  dsimp only at *
  obtain ⟨x, j1, e1, h1, J1⟩ := draw_ok hJ (by omega) (m := (L.length : Int)) (by omega) (by omega)
  obtain ⟨y, j2, e2, h2, J2⟩ := draw_ok J1 (by omega) (m := (L.length : Int)) (by omega) (by omega)
  have xl : x < L.length := by omega
  have yl : y < L.length := by omega
  have a1 : atI (nsD L) (x : Int) = some (.int (L[x] : Nat)) := by rw [nsD_at, List.getElem?_eq_getElem xl]; rfl
  have a2 : atI (nsD L) (y : Int) = some (.int (L[y] : Nat)) := by rw [nsD_at, List.getElem?_eq_getElem yl]; rfl
  have xn := hL _ (List.getElem_mem xl)
  have yn := hL _ (List.getElem_mem yl)
  generalize L[x] = u at *
  generalize L[y] = v at *
  by_cases huv : u = v
  · refine ⟨⟨j2, ps, .sh (.int u), .sh (.int v)⟩, ?_, J2.mono (by omega), hp, by dsimp only; omega, by dsimp only; omega, .inr ⟨_, rfl⟩, .inr ⟨_, rfl⟩⟩
    rcases ha with rfl | ⟨d1, rfl⟩ <;> rcases hb with rfl | ⟨d2, rfl⟩ <;> simp [turn, b__law_ground_L3, e1, e2, a1, a2, huv, -nsD_at]
  · obtain ⟨z, j3, e3, h3, J3⟩ := draw_ok J2 (by omega) (m := (ps.length : Int) + 1) (by omega) (by omega)
    have zi := insert_nat (ps.map pairD) z (pairD (u, v)) (by simp; omega) (by omega)
    have em : (ps.map pairD).take z ++ [pairD (u, v)] ++ (ps.map pairD).drop z = (ps.take z ++ [(u, v)] ++ ps.drop z).map pairD := by simp [List.map_take, List.map_drop]
    rw [em] at zi
    have lz : (ps.take z ++ [(u, v)] ++ ps.drop z).length = ps.length + 1 := by simp; omega
    have nu : ((u : Int) != (v : Int)) = true := by simp; omega
    refine ⟨⟨j3, ps.take z ++ [(u, v)] ++ ps.drop z, .sh (.int u), .sh (.int v)⟩, ?_, J3, ⟨?_⟩, by dsimp only; omega, by dsimp only; omega, .inr ⟨_, rfl⟩, .inr ⟨_, rfl⟩⟩
    · dsimp only
      generalize ps.take z ++ [(u, v)] ++ ps.drop z = ps2 at *
      have zi2 : gInsert (.list (ps.map pairD)) [.int (z : Int), .tuple [.int u, .int v]] = some (.list (ps2.map pairD), .none) := zi
      rcases ha with rfl | ⟨d1, rfl⟩ <;> rcases hb with rfl | ⟨d2, rfl⟩ <;> simp [turn, b__law_ground_L3, e1, e2, a1, a2, huv, nu, e3, zi2, -nsD_at]
    · intro p m
      dsimp only at m
      rcases List.mem_append.1 m with m | m
      · rcases List.mem_append.1 m with m | m
        · exact hp.ok p (List.mem_of_mem_take m)
        · rw [List.mem_singleton.1 m]; exact ⟨xn, yn, huv⟩
      · exact hp.ok p (List.mem_of_mem_drop m)
/-- the ties -/
theorem ties_ok {q : Nat} {jar : D} (hJ : J q jar) (hq : q ≤ 40000) {n : Nat} {l : Int} (l1 : 1 ≤ l) (l4 : l ≤ 4) (ps : List (Nat × Nat)) (hp : Ps n ps) (lp : ps.length ≤ 20) (c d e f : Sl) {a8 a9 : Sl} (ha : unOr a8) (hb : unOr a9) :
    ∃ (ts : List Ti) (jar' : D), lcD (gT [(gN 8), (gN 9)]) tYes1 b__law_ground_C4 [8, 9] (ps.map pairD) [] [.ow true jar, .sh (.int l), c, d, e, f, .sh (.list (ps.map pairD)), .un, a8, a9] =
      .ok (.list (ts.map tiD)) [.ow true jar', .sh (.int l), c, d, e, f, .sh (.list (ps.map pairD)), .un, a8, a9] ∧ ts.length = ps.length ∧ (∀ t ∈ ts, TiOk n t ∧ l ≤ t.h) ∧ J (q + 160) jar' := by
  obtain ⟨acc, s, e, ts, rfl, lt, ht, hJ'⟩ := lc_ex (g := gT [(gN 8), (gN 9)]) (t := tYes1) (f := b__law_ground_C4) (own := [8, 9]) (enc := pairD)
    (fun jar : D => [.ow true jar, .sh (.int l), c, d, e, f, .sh (.list (ps.map pairD)), .un, a8, a9])
    (fun k acc jar => ∃ ts : List Ti, acc = ts.map tiD ∧ ts.length = k ∧ (∀ t ∈ ts, TiOk n t ∧ l ≤ t.h) ∧ J (q + 8 * k) jar) ps 0 [] jar ⟨[], rfl, rfl, by simp, by simpa using hJ⟩ (by simp; omega) (by
      rintro k ⟨u, v⟩ acc jar hi ⟨ts, rfl, lt, ht, hJ⟩
      have kl := (List.getElem?_eq_some_iff.1 hi).1
      obtain ⟨un, vn, uv⟩ := hp.ok _ (List.mem_of_getElem? hi)
      obtain ⟨t, j2, e2, T, hl, J2⟩ := tie_ok hJ (by omega) (n := n) un vn uv l1 l4
      refine ⟨tiD t, j2, ?_, ts ++ [t], by simp, by simp; omega, fun t' m => ?_, J2.mono (by omega)⟩
      · rcases ha with rfl | ⟨d1, rfl⟩ <;> rcases hb with rfl | ⟨d2, rfl⟩ <;> simp [lcTurn, b__law_ground_C4, wipeE, restE, pairD, e2]
      · rcases List.mem_append.1 m with m | m
        · exact ht t' m
        · rw [List.mem_singleton.1 m]; exact ⟨T, hl⟩)
  exact ⟨ts, s, e, by omega, ht, hJ'.mono (by omega)⟩
theorem ground_ok {q : Nat} {jar : D} (hJ : J q jar) (hq : q ≤ 30000) {l : Int} (l1 : 1 ≤ l) (l4 : l ≤ 4) :
    ∃ (g : Gr) (jn : List Nat) (jar' : D), F__law_ground [.ow true jar, .sh (.int l)] = .ret false (.tuple [grD g, .list (nsD jn)]) [.ow true jar', .un] ∧ GrOk g ∧ (∀ t ∈ g.ts, l ≤ t.h) ∧ 2 ≤ jn.length ∧ jn.length ≤ 8 ∧ jn.Nodup ∧ (∀ x ∈ jn, x < g.n) ∧ J (q + 300) jar' := by
  obtain ⟨x, j1, e1, h1, J1⟩ := draw_ok hJ (by omega) (m := 7) (by omega) (by omega)
  obtain ⟨n, hn⟩ : ∃ n : Nat, n = 2 + x := ⟨_, rfl⟩
  have en : (2 : Int) + x = (n : Int) := by omega
  have n2 : 2 ≤ n := by omega
  have n8 : n ≤ 8 := by omega
  obtain ⟨L, j2, q2, pm, J2⟩ := row_ok J1 (by omega) n n8 (.sh (.int l))
  have lL := pm.length_eq
  rw [List.length_range] at lL
  obtain ⟨y, j3, e3, h3, J3⟩ := draw_ok J2 (by omega) (m := (n : Int) - 1) (by omega) (by omega)
  obtain ⟨z, j4, e4, h4, J4⟩ := draw_ok J3 (by omega) (m := 4) (by omega) (by omega)
  obtain ⟨r, ar, r2, rn⟩ := pick4 (a := (n : Int)) (b := (n : Int)) (c := (n : Int)) (d := 2 + (y : Int)) (lo := 2) (hi := (n : Int)) (by omega) (by omega) (by omega) (by omega) h4
  obtain ⟨k, rfl⟩ := Int.eq_ofNat_of_zero_le (by omega : 0 ≤ r)
  have ct := ns_take L k
  obtain ⟨jn, hjn⟩ : ∃ jn, jn = L.take k := ⟨_, rfl⟩
  have ljn : jn.length = k := by rw [hjn, List.length_take]; omega
  have nd : jn.Nodup := by rw [hjn]; exact (List.Pairwise.sublist (List.take_sublist _ _) (pm.nodup_iff.2 List.nodup_range))
  have bn : ∀ x ∈ jn, x < n := fun x m => by
    rw [hjn] at m
    exact List.mem_range.1 (pm.mem_iff.1 (List.mem_of_mem_take m))
  rw [← hjn] at ct
  have q3 := pairs_ok jn (by omega) (by omega) (.ow true j4) (.sh (.int l)) (.sh (.int n)) (.ow false (.list [])) (.ow false (.list (nsD L)))
  obtain ⟨ps, hps⟩ : ∃ ps : List (Nat × Nat), ps = (List.range (jn.length - 1)).map fun i => (jn.getD i 0, jn.getD (i + 1) 0) := ⟨_, rfl⟩
  rw [← hps] at q3
  have lps : ps.length = jn.length - 1 := by rw [hps]; simp
  have P0 : Ps n ps := ⟨fun p m => by
    rw [hps] at m
    obtain ⟨i, hi, rfl⟩ := List.mem_map.1 m
    have hi := List.mem_range.1 hi
    have g1 : jn.getD i 0 = jn[i] := by simp [List.getD, List.getElem?_eq_getElem (show i < jn.length by omega)]
    have g2 : jn.getD (i + 1) 0 = jn[i + 1] := by simp [List.getD, List.getElem?_eq_getElem (show i + 1 < jn.length by omega)]
    dsimp only
    rw [g1, g2]
    refine ⟨bn _ (List.getElem_mem _), bn _ (List.getElem_mem _), fun h => ?_⟩
    have := (List.getElem_inj nd).1 h
    omega⟩
  obtain ⟨w, j5, e5, h5, J5⟩ := draw_ok J4 (by omega) (m := 15 - (ps.length : Int)) (by omega) (by omega)
  obtain ⟨m0, hm0, J5⟩ : ∃ m0, m0 ≤ q + 20 ∧ J m0 j5 := ⟨_, by omega, J5⟩
  obtain ⟨⟨j6, ps2, a8, a9⟩, q4, J6, P6, l6a, l6b, u8, u9⟩ := for_ex (g := gN 7) (body := b__law_ground_L3) (enc := fun i : Nat => .int (0 + (i : Int)))
    (fun s : SG => [.ow true s.jar, .sh (.int l), .sh (.int n), .ow false (.list []), .ow false (.list (nsD L)), .sh (.list (nsD jn)), .ow false (.list (s.ps.map pairD)), .un, s.a, s.b])
    (fun k s => J (m0 + 3 * k) s.jar ∧ Ps n s.ps ∧ s.ps.length ≤ ps.length + k ∧ ps.length ≤ s.ps.length ∧ unOr s.a ∧ unOr s.b) (List.range w) 0 ⟨j5, ps, .un, .un⟩ ⟨J5, P0, by simp, by simp, .inl rfl, .inl rfl⟩ (by
      rintro k i s hi ⟨hJ, hP, la, lb, ua, ub⟩
      have kl := (List.getElem?_eq_some_iff.1 hi).1
      rw [List.length_range] at kl
      obtain ⟨s', e, h1, h2, h3, h4, h5, h6⟩ := more_turn (n := n) (L := jn) (by omega) (by omega) bn (.sh (.int l)) (.sh (.int n)) (.ow false (.list [])) (.ow false (.list (nsD L))) i hJ (by omega) hP (by omega) ua ub
      exact ⟨s', e, h1.mono (by omega), h2, by omega, by omega, h5, h6⟩)
  dsimp only at J6 P6 l6a l6b u8 u9 q4
  rw [List.length_range] at J6 l6a
  obtain ⟨ts, j7, q5, lt, ht, J7⟩ := ties_ok J6 (by omega) l1 l4 ps2 P6 (by omega) (.sh (.int n)) (.ow false (.list [])) (.ow false (.list (nsD L))) (.sh (.list (nsD jn))) u8 u9
  refine ⟨⟨n, ts⟩, jn, j7, ?_, ⟨n2, n8, by dsimp only; omega, by dsimp only; omega, fun t m => (ht t m).1⟩, fun t m => (ht t m).2, by omega, by omega, nd, bn, J7.mono (by omega)⟩
  have rf := rgFits_0 n (by omega)
  have rd : rgD 0 (n : Int) = nsD (List.range n) := by simp [rgD, nsD]
  have rg := fun e => rng1_n n e (by omega)
  have rg2 := fun e => rng2_1 jn.length e (by omega)
  have rg3 := fun e => rng1_n w e (by omega)
  simp only [range_map] at rg rg2 rg3
  unfold F__law_ground; rw [run0_r _ _ _ (by simp)]
  simp at q2 q3 q4 q5 rg rg2 rg3
  simp [b__law_ground, b__law_ground_K1, e1, en, rf, rd, rg, q2, e3, e4, ar, ct, rg2, q3, e5, rg3, q4, q5, grD]
end Lk36
set_option Elab.async false
set_option linter.all false
set_option maxRecDepth 100000
namespace Lk36
open PySem PySem.Spec L2 M TD
/-- days of a week -/
structure DyOk (wk : Nat) (ds : List Int) : Prop where
  ne : 1 ≤ ds.length
  le : ds.length ≤ 4
  lt : ∀ d ∈ ds, 0 ≤ d ∧ d < wk
  up : ds.Pairwise (· < ·)
theorem days_ok {q : Nat} {jar : D} (hJ : J q jar) (hq : q ≤ 50000) {wk : Nat} (w1 : 1 ≤ wk) (w4 : wk ≤ 4) :
    ∃ (ds : List Int) (jar' : D), F__law_days [.ow true jar, .sh (.int wk)] = .ret false (.tuple (inD ds)) [.ow true jar', .un] ∧ DyOk wk ds ∧ J (q + 5) jar' := by
  obtain ⟨acc, j1, e1, ds, rfl, ld, dlt, dup, J1⟩ := lc_exF (g := gN 3) (t := tOf (eGt (eCall F__law_draw (eCons (eVar 0) (eCons (eC (.int 3)) eNil))) (eC (.int 0)))) (f := b__law_days_C1) (own := [3]) (enc := fun i : Nat => .int (0 + (i : Int)))
    (fun jar : D => [.ow true jar, .sh (.int wk), .un, .un])
    (fun k acc jar => ∃ ds : List Int, acc = inD ds ∧ ds.length ≤ k ∧ (∀ d ∈ ds, 0 ≤ d ∧ d < k) ∧ ds.Pairwise (· < ·) ∧ J (q + k) jar) (List.range wk) 0 [] jar ⟨[], rfl, by simp, by simp, .nil, by simpa using hJ⟩ (by simp; omega) (by
      rintro k i acc jar hi ⟨ds, rfl, ld, dlt, dup, hJ⟩
      have kl := (List.getElem?_eq_some_iff.1 hi).1
      rw [List.length_range] at kl
      have : i = k := by rw [List.getElem?_range kl] at hi; exact (Option.some.inj hi).symm
      subst this
      obtain ⟨y, j2, e2, h2, J2⟩ := draw_ok hJ (by omega) (m := 3) (by omega) (by omega)
      by_cases hy : 0 < y
      · refine ⟨some (.int i), j2, ?_, ds ++ [(i : Int)], by simp [inD], by simp; omega, ?_, ?_, J2.mono (by omega)⟩
        · simp [lcTurn, b__law_days_C1, wipeE, restE, e2, hy]
        · intro d m
          rcases List.mem_append.1 m with m | m
          · have := dlt d m; omega
          · rw [List.mem_singleton.1 m]; omega
        · refine List.pairwise_append.2 ⟨dup, List.pairwise_singleton .., fun a ma b mb => ?_⟩
          rw [List.mem_singleton.1 mb]
          have := dlt a ma; omega
      · refine ⟨none, j2, ?_, ds, by simp, by omega, fun d m => by have := dlt d m; omega, dup, J2.mono (by omega)⟩
        simp [lcTurn, b__law_days_C1, wipeE, restE, e2, hy])
  simp only [Nat.zero_add, List.length_range] at *
  have rg := fun e => rng1_n wk e (by omega)
  simp only [range_map] at rg
  have ne : dNe (.list (inD ds)) (.list []) = some (.bool (!(inD ds).isEmpty)) := dNe_nil fun x hx => by
    obtain ⟨i, _, rfl⟩ := List.mem_map.1 hx; exact .int _
  by_cases hd : ds = []
  · subst hd
    obtain ⟨y, j2, e2, h2, J2⟩ := draw_ok J1 (by omega) (m := (wk : Int)) (by omega) (by omega)
    refine ⟨[(y : Int)], j2, ?_, ⟨by simp, by simp, fun d m => by rw [List.mem_singleton.1 m]; omega, List.pairwise_singleton ..⟩, J2.mono (by omega)⟩
    unfold F__law_days; rw [run0_r _ _ _ (by simp)]
    simp at e1 rg ne
    simp [b__law_days, rg, e1, ne, e2]
  · have he : (inD ds).isEmpty = false := by
      cases ds with
      | nil => exact (hd rfl).elim
      | cons => rfl
    rw [he] at ne
    refine ⟨ds, j1, ?_, ⟨by cases ds with | nil => exact (hd rfl).elim | cons => simp, by omega, dlt, dup⟩, J1.mono (by omega)⟩
    unfold F__law_days; rw [run0_r _ _ _ (by simp)]
    simp at e1 rg ne
    simp [b__law_days, rg, e1, ne]
def NmOk (x : Str) : Prop := PyData.strOk x = true ∧ (PyData.str x).shown.length ≤ 40
structure WkOk (g : Gr) (wk : Nat) (w : Wa) : Prop where
  nm : NmOk w.name
  s : w.s < g.n
  t : w.t < g.n
  ne : w.s ≠ w.t
  dy : DyOk wk w.days
structure SW where
  jar : D
  nms : List Str
  ws : List Wa
def stD (xs : List Str) : List D := xs.map .str
theorem walker_turn {q : Nat} {g : Gr} {jn : List Nat} (l2 : 2 ≤ jn.length) (l8 : jn.length ≤ 8) (nd : jn.Nodup) (bn : ∀ x ∈ jn, x < g.n) {wk : Nat} (w1 : 1 ≤ wk) (w4 : wk ≤ 4) (a b : Sl) (i : Nat) {s : SW} (hJ : J q s.jar) (hq : q ≤ 40000)
    (hn : ∀ x ∈ s.nms, NmOk x) (ln : 1 ≤ s.nms.length) (ln7 : s.nms.length ≤ 7) (hw : ∀ w ∈ s.ws, WkOk g wk w) (lw : s.ws.length ≤ 10) :
    ∃ s' : SW, turn (gN 7) b__law_world_L1 (.int (0 + (i : Int))) [.ow true s.jar, a, .sh (.int wk), b, .sh (.list (nsD jn)), .ow false (.list (stD s.nms)), .ow false (.list (s.ws.map waD)), .un, .un, .un, .un] =
      .nx [.ow true s'.jar, a, .sh (.int wk), b, .sh (.list (nsD jn)), .ow false (.list (stD s'.nms)), .ow false (.list (s'.ws.map waD)), .un, .un, .un, .un] ∧ J (q + 8) s'.jar ∧ (∀ x ∈ s'.nms, NmOk x) ∧ s'.nms.length + 1 = s.nms.length ∧ (∀ w ∈ s'.ws, WkOk g wk w) ∧ s'.ws.length = s.ws.length + 1 := by
  obtain ⟨jar, nms, ws⟩ := s
  dsimp only at *
  obtain ⟨x, j1, e1, h1, J1⟩ := draw_ok hJ (by omega) (m := (nms.length : Int)) (by omega) (by omega)
  obtain ⟨y, j2, e2, h2, J2⟩ := draw_ok J1 (by omega) (m := (jn.length : Int)) (by omega) (by omega)
  have xl : x < nms.length := by omega
  have yl : y < jn.length := by omega
  have le : (jn.eraseIdx y).length + 1 = jn.length := by rw [List.length_eraseIdx]; split <;> omega
  obtain ⟨z, j3, e3, h3, J3⟩ := draw_ok J2 (by omega) (m := ((jn.eraseIdx y).length : Int)) (by omega) (by omega)
  have zl : z < (jn.eraseIdx y).length := by omega
  obtain ⟨ds, j4, e4, D4, J4⟩ := days_ok J3 (by omega) w1 w4
  have g1 : gPopAt (.list (stD nms)) [.int (x : Int)] = some (.list (stD (nms.eraseIdx x)), .str nms[x]) := by
    rw [popAt_nat _ x (.str nms[x]) (by unfold stD; rw [List.getElem?_map, List.getElem?_eq_getElem xl]; rfl) (by omega)]
    unfold stD; rw [eraseIdx_map']
  have g2 : gPopAt (.list (nsD jn)) [.int (y : Int)] = some (.list (nsD (jn.eraseIdx y)), .int (jn[y] : Int)) := by
    rw [popAt_nat _ y (.int (jn[y] : Int)) (by unfold nsD; rw [List.getElem?_map, List.getElem?_eq_getElem yl]; rfl) (by omega), ns_erase]
  have a1 : atI (nsD (jn.eraseIdx y)) (z : Int) = some (.int ((jn.eraseIdx y)[z] : Nat)) := by rw [nsD_at, List.getElem?_eq_getElem zl]; rfl
  have nn : jn[y] ≠ (jn.eraseIdx y)[z] := fun h => by
    have p := (erase_perm yl).nodup_iff.2 nd
    exact (List.nodup_cons.1 p).1 (h ▸ List.getElem_mem zl)
  have s1 := bn _ (List.getElem_mem yl)
  have s2 := bn _ ((List.eraseIdx_sublist jn y).mem (List.getElem_mem zl))
  have sm : ws.length ≤ 1000000 := by omega
  have sm3 : (stD nms).length = nms.length := by simp [stD]
  refine ⟨⟨j4, nms.eraseIdx x, ws ++ [⟨nms[x], jn[y], (jn.eraseIdx y)[z], ds⟩]⟩, ?_, J4, fun v m => hn v ((List.eraseIdx_sublist nms x).mem m), ?_, ?_, by simp⟩
  · dsimp only
    generalize nms[x] = nm at *
    generalize jn[y] = u at *
    generalize (jn.eraseIdx y)[z] = v at *
    have lz : (nsD (jn.eraseIdx y)).length = (jn.eraseIdx y).length := nsD_len _
    generalize jn.eraseIdx y = je at *
    simp [turn, b__law_world_L1, e1, sm3, g1, e2, g2, e3, a1, e4, sm, waD, -nsD_at]
  · dsimp only
    rw [List.length_eraseIdx]; split <;> omega
  · intro w m
    rcases List.mem_append.1 m with m | m
    · exact hw w m
    · rw [List.mem_singleton.1 m]
      exact ⟨hn _ (List.getElem_mem xl), s1, s2, nn, D4⟩
end Lk36
set_option Elab.async false
set_option linter.all false
set_option maxRecDepth 100000
namespace Lk36
open PySem PySem.Spec L2 M TD
theorem alike_wa (v w : Wa) : PySem.W.alike (waD v) (waD w) = true := by
  unfold waD inD
  simp [PySem.W.alike, PySem.W.alikeAll, PySem.W.alike_ints]
theorem wa_nd (w : Wa) : nd (waD w) = true := by
  have := nds_all (xs := inD w.days) fun t h => by obtain ⟨i, _, rfl⟩ := List.mem_map.1 h; rfl
  simp [waD, nd, nds, this]
theorem wa_depth (w : Wa) : (waD w).depth ≤ 6 := by
  have := depthAll_le (n := 2) (xs := inD w.days) fun t h => by obtain ⟨i, _, rfl⟩ := List.mem_map.1 h; simp [PyData.depth]
  unfold waD
  simp [PyData.depth, PyData.depthAll]
  omega
/-- walkers in order -/
def srtW (ws : List Wa) : List Wa := ws.mergeSort fun a b => leD (waD a) (waD b)
theorem sorted_wa (ws : List Wa) (l : ws.length ≤ 1000) : dSorted (.list (ws.map waD)) = some (.list ((srtW ws).map waD)) := by
  rw [dSorted_l]
  · refine congrArg (fun z => some (PyData.list z)) ?_
    exact (List.map_mergeSort (f := waD) (r := fun a b => leD (waD a) (waD b)) (s := leD) (l := ws) (fun a _ b _ => rfl)).symm
  · intro d hd d' hd'
    obtain ⟨v, _, rfl⟩ := List.mem_map.1 hd
    obtain ⟨w, _, rfl⟩ := List.mem_map.1 hd'
    exact alike_wa v w
  · refine .inl fun d hd => ?_
    obtain ⟨v, _, rfl⟩ := List.mem_map.1 hd
    exact ⟨_, _, rfl⟩
  · exact nds_all fun d hd => by
      obtain ⟨v, _, rfl⟩ := List.mem_map.1 hd
      exact wa_nd v
  · refine Nat.le_trans (depthAll_le (n := 6) fun d hd => ?_) (by omega)
    obtain ⟨v, _, rfl⟩ := List.mem_map.1 hd
    exact wa_depth v
  · simp; omega
theorem names_nm : ∀ x ∈ (["a", "ann", "b", "bob", "zoe", "zz", "abcdefgh"] : List Str), NmOk x := by
  intro x hx
  simp only [List.mem_cons, List.not_mem_nil, or_false] at hx
  rcases hx with rfl | rfl | rfl | rfl | rfl | rfl | rfl <;> exact ⟨by decide +kernel, by decide +kernel⟩
structure WdOk (W : Wo) : Prop where
  g : GrOk W.g
  wk : 1 ≤ W.wk ∧ W.wk ≤ 4
  ws1 : 1 ≤ W.ws.length
  ws5 : W.ws.length ≤ 5
  ok : ∃ k : Nat, W.wk = (k : Int) ∧ ∀ w ∈ W.ws, WkOk W.g k w
theorem world_ok {q : Nat} {jar : D} (hJ : J q jar) (hq : q ≤ 20000) (sb : Bool) :
    ∃ (W : Wo) (jar' : D), F__law_world [.ow true jar, .sh (.bool sb)] = .ret false (woD W) [.ow true jar', .un] ∧ WdOk W ∧ (sb = true → ∀ t ∈ W.g.ts, W.wk ≤ t.h) ∧ J (q + 400) jar' := by
  obtain ⟨x, j1, e1, h1, J1⟩ := draw_ok hJ (by omega) (m := 4) (by omega) (by omega)
  obtain ⟨wk, hwk⟩ : ∃ wk : Nat, wk = 1 + x := ⟨_, rfl⟩
  have ewk : (1 : Int) + x = (wk : Int) := by omega
  obtain ⟨g, jn, j2, e2, hg, hl, l2, l8, nd, bn, J2⟩ := ground_ok J1 (by omega) (l := if sb = true then (wk : Int) else 1) (by split <;> omega) (by split <;> omega)
  obtain ⟨y, j3, e3, h3, J3⟩ := draw_ok J2 (by omega) (m := 5) (by omega) (by omega)
  obtain ⟨r, hr⟩ : ∃ r : Nat, r = 1 + y := ⟨_, rfl⟩
  have er : (1 : Int) + y = (r : Int) := by omega
  obtain ⟨m0, hm0, J3⟩ : ∃ m0, m0 ≤ q + 310 ∧ J m0 j3 := ⟨_, by omega, J3⟩
  obtain ⟨⟨j4, nms, ws⟩, q4, J4, hn, ln, hw, lw⟩ := for_ex (g := gN 7) (body := b__law_world_L1) (enc := fun i : Nat => .int (0 + (i : Int)))
    (fun s : SW => [.ow true s.jar, .sh (.bool sb), .sh (.int wk), .sh (grD g), .sh (.list (nsD jn)), .ow false (.list (stD s.nms)), .ow false (.list (s.ws.map waD)), .un, .un, .un, .un])
    (fun k s => J (m0 + 8 * k) s.jar ∧ (∀ x ∈ s.nms, NmOk x) ∧ s.nms.length + k = 7 ∧ (∀ w ∈ s.ws, WkOk g wk w) ∧ s.ws.length = k) (List.range r) 0 ⟨j3, ["a", "ann", "b", "bob", "zoe", "zz", "abcdefgh"], []⟩ ⟨J3, names_nm, rfl, by simp, rfl⟩ (by
      rintro k i s hi ⟨hJ, hn, ln, hw, lw⟩
      have kl := (List.getElem?_eq_some_iff.1 hi).1
      rw [List.length_range] at kl
      obtain ⟨s', e, h1, h2, h3, h4, h5⟩ := walker_turn l2 l8 nd bn (wk := wk) (by omega) (by omega) (.sh (.bool sb)) (.sh (grD g)) i hJ (by omega) hn (by omega) (by omega) hw (by omega)
      exact ⟨s', e, h1.mono (by omega), h2, by omega, h4, by omega⟩)
  dsimp only at J4 hn ln hw lw q4
  simp only [Nat.zero_add, List.length_range] at J4 ln lw
  have pm : (srtW ws).Perm ws := List.mergeSort_perm _ _
  have so := sorted_wa ws (by omega)
  refine ⟨⟨g, (wk : Int), srtW ws⟩, j4, ?_, ⟨hg, ⟨by dsimp only; omega, by dsimp only; omega⟩, by dsimp only; rw [pm.length_eq]; omega, by dsimp only; rw [pm.length_eq]; omega, wk, rfl, fun w m => hw w (pm.mem_iff.1 m)⟩, fun hs t m => ?_, J4.mono (by omega)⟩
  · have rg := fun e => rng1_n r e (by omega)
    simp only [range_map] at rg
    have ns : stD ["a", "ann", "b", "bob", "zoe", "zz", "abcdefgh"] = [.str "a", .str "ann", .str "b", .str "bob", .str "zoe", .str "zz", .str "abcdefgh"] := rfl
    unfold F__law_world; rw [run0_r _ _ _ (by simp)]
    rw [ns] at q4
    simp at q4 rg
    cases sb <;> simp at e2 <;> simp [b__law_world, b__law_world_K1, e1, ewk, e2, e3, er, rg, q4, so, woD]
  · have := hl t m
    rw [if_pos hs] at this
    exact this
end Lk36
set_option Elab.async false
set_option linter.all false
set_option maxRecDepth 100000
namespace Lk36
open PySem PySem.Spec L2 M TD PySem.W
def stB (W : Wo) : Bool := W.g.ts.all fun t => decide (W.wk ≤ t.h)
theorem is_steady_ok (W : Wo) (t14 : W.g.ts.length ≤ 14) : F_is_steady [.sh (woD W)] = .ret false (.bool (stB W)) [.un] := by
  have q := lc_maps (g := gT [(gN 5), (gN 6), (gN 7), (gN 8), (gN 9)]) (t := tYes1) (f := b_is_steady_C1) (own := [5, 6, 7, 8, 9]) (enc := tiD) (fun t => .bool (decide (W.wk ≤ t.h))) [.sh (woD W), .sh (.int W.g.n), .sh (.tuple (W.g.ts.map tiD)), .sh (.int W.wk), .sh (.tuple (W.ws.map waD)), .un, .un, .un, .un, .un] W.g.ts [] (by simp; omega) (by
    intro t _
    simp [lcTurn, b_is_steady_C1, wipeE, restE, tiD])
  have a := dAll_map (fun t : Ti => decide (W.wk ≤ t.h)) W.g.ts
  unfold F_is_steady; rw [run0_r _ _ _ (by simp)]
  simp only [List.nil_append] at q
  unfold stB
  unfold woD grD at *
  simp [b_is_steady, q, a]
/-- other healings -/
def heal (ts : List Ti) (hs : List Int) : List Ti := (ts.zip hs).map fun p => { p.1 with h := p.2 }
def Wo.heal (W : Wo) (hs : List Int) : Wo := ⟨⟨W.g.n, Lk36.heal W.g.ts hs⟩, W.wk, W.ws⟩
theorem healing_ok (W : Wo) (t14 : W.g.ts.length ≤ 14) (hs : List Int) : F__law_healing [.sh (woD W), .sh (.list (inD hs))] = .ret false (woD (Wo.heal W hs)) [.un, .un] := by
  have q := lc_maps (g := gT [(gN 6), (gN 7)]) (t := tYes1) (f := b__law_healing_C1) (own := [6, 7]) (enc := fun p : Ti × Int => .tuple [tiD p.1, .int p.2]) (fun p => tiD { p.1 with h := p.2 }) [.sh (woD W), .sh (.list (inD hs)), .sh (.int W.g.n), .sh (.tuple (W.g.ts.map tiD)), .sh (.int W.wk), .sh (.tuple (W.ws.map waD)), .un, .un] (W.g.ts.zip hs) [] (by simp; omega) (by
    rintro ⟨t, h⟩ _
    have ct := cut_to [PyData.int t.a, .int t.b, .int t.r, .int t.w, .int t.h] 4
    simp at ct
    simp [lcTurn, b__law_healing_C1, wipeE, restE, tiD, ct, dAddU, small_lit])
  have z : zipD (W.g.ts.map tiD) (inD hs) = (W.g.ts.zip hs).map fun p => .tuple [tiD p.1, .int p.2] := zip_map _ _ _ _
  have e : ((W.g.ts.zip hs).map fun p => tiD { p.1 with h := p.2 }) = (Lk36.heal W.g.ts hs).map tiD := by unfold Lk36.heal; rw [List.map_map]; rfl
  unfold F__law_healing; rw [run0_r _ _ _ (by simp)]
  simp only [List.nil_append] at q
  rw [e] at q
  unfold Wo.heal
  unfold woD grD at *
  simp [b__law_healing, z, q]
theorem show_int {i : Int} (h0 : -1000 ≤ i) (h1 : i ≤ 1000) : (PyData.int i).showable = true := by
  simp only [PyData.showable, decide_eq_true_eq]
  have : i.natAbs.log2 ≤ i.natAbs := Nat.log2_le_self _
  omega
theorem ti_repr {n : Nat} (n8 : n ≤ 8) {t : Ti} (T : TiOk n t) : (tiD t).showable = true ∧ (tiD t).depth ≤ 2 ∧ nd (tiD t) = true ∧ M.wt (tiD t) ≤ 10000 := by
  have ab := T.ab; have bn := T.bn; have w1 := T.w1; have wr := T.wr; have r9 := T.r9; have h1 := T.h1; have h6 := T.h6
  refine ⟨?_, ?_, ?_, ?_⟩
  · simp [tiD, PyData.showable, PyData.showableAll, show_int (i := (t.a : Int)) (by omega) (by omega), show_int (i := (t.b : Int)) (by omega) (by omega), show_int (i := t.r) (by omega) (by omega), show_int (i := t.w) (by omega) (by omega), show_int (i := t.h) (by omega) (by omega)]
    have s1 := show_int (i := (t.a : Int)) (by omega) (by omega)
    have s2 := show_int (i := (t.b : Int)) (by omega) (by omega)
    have s3 := show_int (i := t.r) (by omega) (by omega)
    have s4 := show_int (i := t.w) (by omega) (by omega)
    have s5 := show_int (i := t.h) (by omega) (by omega)
    simp only [PyData.showable, decide_eq_true_eq] at s1 s2 s3 s4 s5
    simp at s1 s2
    exact ⟨s1, s2, s3, s4, s5⟩
  · simp [tiD, PyData.depth, PyData.depthAll]
  · simp [tiD, nd, nds]
  · simp [tiD, M.wt, M.wts]
theorem wa_repr {g : Gr} (n8 : g.n ≤ 8) {k : Nat} (k4 : k ≤ 4) {w : Wa} (h : WkOk g k w) : (waD w).showable = true ∧ M.wt (waD w) ≤ 20000 := by
  have s1 := show_int (i := (w.s : Int)) (by have := h.s; omega) (by have := h.s; omega)
  have s2 := show_int (i := (w.t : Int)) (by have := h.t; omega) (by have := h.t; omega)
  have sd := showableAll_all (xs := inD w.days) fun t m => by
    obtain ⟨i, hi, rfl⟩ := List.mem_map.1 m
    have := h.dy.lt i hi
    exact show_int (by omega) (by omega)
  have wd := wts_le (n := 1921) (xs := inD w.days) fun t h => by obtain ⟨i, _, rfl⟩ := List.mem_map.1 h; simp [M.wt]
  have l4 := h.dy.le
  rw [inD_len] at wd
  have sn := h.nm.1
  have ln := h.nm.2
  constructor
  · have e : (waD w).showable = ((PyData.str w.name).showable && ((PyData.int (w.s : Int)).showable && ((PyData.int (w.t : Int)).showable && (PyData.showableAll (inD w.days) && true)))) := by simp [waD, PyData.showable, PyData.showableAll]
    rw [e, s1, s2, sd]
    have : (PyData.str w.name).showable = true := by simpa [PyData.showable] using sn
    rw [this]; rfl
  · have e : M.wt (waD w) = 3 + ((PyData.str w.name).shown.length + 2 + (1921 + 2 + (1921 + 2 + (3 + M.wts (inD w.days) + 2 + 0)))) := by simp [waD, M.wt, M.wts]
    rw [e]; omega
theorem repr_wo {W : Wo} (h : WdOk W) : ∃ z : Str, dRepr (woD W) = some (.str z) := by
  obtain ⟨k, ek, hk⟩ := h.ok
  have n8 := h.g.n8
  have t14 := h.g.t14
  have w4 := h.wk.2
  have w1 := h.wk.1
  have ws5 := h.ws5
  have st := showableAll_all (xs := W.g.ts.map tiD) fun d m => by
    obtain ⟨t, ht, rfl⟩ := List.mem_map.1 m
    exact (ti_repr n8 (h.g.ok t ht)).1
  have dt := depthAll_le (n := 2) (xs := W.g.ts.map tiD) fun d m => by
    obtain ⟨t, ht, rfl⟩ := List.mem_map.1 m
    exact (ti_repr n8 (h.g.ok t ht)).2.1
  have nt := nds_all (xs := W.g.ts.map tiD) fun d m => by
    obtain ⟨t, ht, rfl⟩ := List.mem_map.1 m
    exact (ti_repr n8 (h.g.ok t ht)).2.2.1
  have wt1 := wts_le (n := 10000) (xs := W.g.ts.map tiD) fun d m => by
    obtain ⟨t, ht, rfl⟩ := List.mem_map.1 m
    exact (ti_repr n8 (h.g.ok t ht)).2.2.2
  have sw := showableAll_all (xs := W.ws.map waD) fun d m => by
    obtain ⟨w, hw, rfl⟩ := List.mem_map.1 m
    exact (wa_repr n8 (by omega) (hk w hw)).1
  have dw := depthAll_le (n := 6) (xs := W.ws.map waD) fun d m => by
    obtain ⟨w, hw, rfl⟩ := List.mem_map.1 m
    exact wa_depth w
  have nw := nds_all (xs := W.ws.map waD) fun d m => by
    obtain ⟨w, hw, rfl⟩ := List.mem_map.1 m
    exact wa_nd w
  have wt2 := wts_le (n := 20000) (xs := W.ws.map waD) fun d m => by
    obtain ⟨w, hw, rfl⟩ := List.mem_map.1 m
    exact (wa_repr n8 (by omega) (hk w hw)).2
  rw [List.length_map] at wt1 wt2
  have sn := show_int (i := (W.g.n : Int)) (by omega) (by omega)
  have sk := show_int (i := W.wk) (by omega) (by omega)
  refine ⟨(woD W).shown, dRepr_ok rfl ?_ ?_ ?_ ?_⟩
  · simp [woD, grD, nd, nds, nt, nw]
  · have e : (woD W).showable = (((PyData.int (W.g.n : Int)).showable && (PyData.showableAll (W.g.ts.map tiD) && true)) && ((PyData.int W.wk).showable && (PyData.showableAll (W.ws.map waD) && true))) := by simp [woD, grD, PyData.showable, PyData.showableAll]
    rw [e, sn, sk, st, sw]; rfl
  · simp only [woD, grD, PyData.depth, PyData.depthAll]
    omega
  · simp only [woD, grD, M.wt, M.wts]
    omega
theorem min_all (k : Int) : ∀ (xs : List Int) (x : Int), k ≤ minOf x xs ↔ ∀ y ∈ x :: xs, k ≤ y
  | [], x => ⟨fun h y m => by rw [List.mem_singleton.1 m]; exact h, fun h => h x (List.mem_cons_self ..)⟩
  | y :: xs, x => by
    have e : minOf x (y :: xs) = minOf (if decide (y < x) = true then y else x) xs := rfl
    rw [e, min_all k xs]
    simp only [decide_eq_true_eq]
    by_cases h : y < x
    · rw [if_pos h]
      constructor
      · intro a z m
        rcases List.mem_cons.1 m with rfl | m
        · have := a y (List.mem_cons_self ..); omega
        · exact a z m
      · intro a z m
        exact a z (List.mem_cons_of_mem _ m)
    · rw [if_neg h]
      constructor
      · intro a z m
        rcases List.mem_cons.1 m with rfl | m
        · exact a z (List.mem_cons_self ..)
        · rcases List.mem_cons.1 m with rfl | m
          · have := a x (List.mem_cons_self ..); omega
          · exact a z (List.mem_cons_of_mem _ m)
      · intro a z m
        rcases List.mem_cons.1 m with rfl | m
        · exact a z (List.mem_cons_self ..)
        · exact a z (List.mem_cons_of_mem _ (List.mem_cons_of_mem _ m))
theorem min_heals {W : Wo} (h : 1 ≤ W.g.ts.length) (t14 : W.g.ts.length ≤ 14) : ∃ m : Int, dMin (.list (W.g.ts.map fun t => .int t.h)) = some (.int m) ∧ decide (W.wk ≤ m) = stB W := by
  unfold stB
  cases e : W.g.ts with
  | nil => rw [e] at h; simp at h
  | cons t ts =>
    refine ⟨minOf t.h (ts.map Ti.h), ?_, ?_⟩
    · rw [List.map_cons]
      have al := alikeAll_datum ((t :: ts).map Ti.h)
      rw [List.map_map, List.map_cons] at al
      have al2 : AlikeAll (PyData.int t.h :: ts.map fun t => PyData.int t.h) := al
      rw [dMin_l al2]
      · have := minD_map t.h (ts.map Ti.h)
        rw [List.map_map] at this
        exact congrArg some this
      · exact nds_all fun d m => by
          rw [← List.map_cons (f := fun t : Ti => PyData.int t.h)] at m
          obtain ⟨u, _, rfl⟩ := List.mem_map.1 m; rfl
      · refine Nat.le_trans (depthAll_le (n := 2) fun d m => ?_) (by omega)
        rw [← List.map_cons (f := fun t : Ti => PyData.int t.h)] at m
        obtain ⟨u, _, rfl⟩ := List.mem_map.1 m; simp [PyData.depth]
    · rw [Bool.eq_iff_iff, decide_eq_true_eq, min_all, List.all_eq_true]
      constructor
      · intro a u m
        refine decide_eq_true (a u.h ?_)
        rw [← List.map_cons (f := Ti.h)]
        exact List.mem_map.2 ⟨u, m, rfl⟩
      · intro a y m
        rw [← List.map_cons (f := Ti.h)] at m
        obtain ⟨u, mu, rfl⟩ := List.mem_map.1 m
        exact of_decide_eq_true (a u mu)
theorem one_right_ok {W : Wo} (h : WdOk W) : F__law_one_right [.sh (woD W)] = .ret false (.bool true) [.un] := by
  have t1 := h.g.t1
  have t14 := h.g.t14
  obtain ⟨z, e1⟩ := repr_wo h
  obtain ⟨m, e2, e3⟩ := min_heals t1 t14
  have e4 := is_steady_ok W t14
  have q := lc_maps (g := gN 4) (t := tYes1) (f := b__law_one_right_C1) (own := [4]) (enc := tiD) (fun t => .int t.h) [.sh (woD W), .sh (.str z), .un, .un, .un] W.g.ts [] (by simp; omega) (by
    intro t _
    simp [lcTurn, b__law_one_right_C1, wipeE, restE, tiD])
  obtain ⟨q2, _⟩ := for_fold (g := gN 3) (body := b__law_one_right_L2) (enc := fun _ : Nat => .bool (stB W)) (fun _ : Unit => [.sh (woD W), .sh (.str z), .sh (.bool (stB W)), .un, .un]) (fun s _ => s) (fun _ => True) [0, 1] () trivial (by
    intro _ i _ _
    exact ⟨by simp [turn, b__law_one_right_L2], trivial⟩)
  simp only [List.nil_append] at q
  generalize (W.g.ts.map fun t => PyData.int t.h) = hs at *
  unfold F__law_one_right; rw [run0_r _ _ _ (by simp)]
  simp only [List.map_cons, List.map_nil] at q2
  generalize stB W = bb at *
  have a1 : ∀ x y z : D, atI [x, y, z] 0 = some x := fun _ _ _ => rfl
  unfold woD grD at *
  simp [b__law_one_right, b__law_one_right_K1, arr, arrX, e1, q, e2, e3, e4, q2]
end Lk36
set_option Elab.async false
set_option linter.all false
set_option maxRecDepth 100000
namespace Lk36
open PySem PySem.Spec L2 M TD PySem.W
theorem heal_wd {W : Wo} (h : WdOk W) {hs : List Int} (l : hs.length = W.g.ts.length) (b : ∀ x ∈ hs, 1 ≤ x ∧ x ≤ 6) : WdOk (Wo.heal W hs) := by
  have ll : (Lk36.heal W.g.ts hs).length = W.g.ts.length := by unfold Lk36.heal; simp; omega
  obtain ⟨k, ek, hk⟩ := h.ok
  refine ⟨⟨h.g.n2, h.g.n8, ?_, ?_, ?_⟩, h.wk, h.ws1, h.ws5, k, ek, fun w m => ⟨(hk w m).nm, (hk w m).s, (hk w m).t, (hk w m).ne, (hk w m).dy⟩⟩
  · show 1 ≤ (Lk36.heal W.g.ts hs).length; rw [ll]; exact h.g.t1
  · show (Lk36.heal W.g.ts hs).length ≤ 14; rw [ll]; exact h.g.t14
  · intro t m
    obtain ⟨⟨u, x⟩, mp, rfl⟩ := List.mem_map.1 (show t ∈ Lk36.heal W.g.ts hs from m)
    have T := h.g.ok u (List.of_mem_zip mp).1
    have bx := b x (List.of_mem_zip mp).2
    exact ⟨T.ab, T.bn, T.w1, T.wr, T.r9, bx.1, bx.2⟩
def slH (own : Bool) (d : D) : Sl := if own then .ow false d else .sh d
def envR (W : Wo) (s : D × Bool) : En := [.ow true s.1, .sh (woD W), slH s.2 (.list (inD (W.g.ts.map Ti.h))), .sh (.int W.wk), .un, .un, .un, .un, .un, .un]
theorem more_ok {W : Wo} (h : WdOk W) {q : Nat} {s : D × Bool} (hJ : J q s.1) (hq : q ≤ 40000) (m : Int) (hm : m = -1 ∨ m = 0 ∨ m = 1) :
    ∃ s' : D × Bool, turn (gN 4) b__law_right_L3 (.int m) (envR W s) = .nx (envR W s') ∧ J (q + 1) s'.1 := by
  have t1 := h.g.t1
  have t14 := h.g.t14
  have w1 := h.wk.1
  have w4 := h.wk.2
  obtain ⟨jar, own⟩ := s
  dsimp only at hJ
  obtain ⟨hs, hhs⟩ : ∃ hs, hs = W.g.ts.map Ti.h := ⟨_, rfl⟩
  have lh : hs.length = W.g.ts.length := by rw [hhs]; simp
  have bh : ∀ x ∈ hs, 1 ≤ x ∧ x ≤ 6 := fun x mx => by
    rw [hhs] at mx
    obtain ⟨t, mt, rfl⟩ := List.mem_map.1 mx
    have T := h.g.ok t mt
    exact ⟨T.h1, T.h6⟩
  obtain ⟨v, hv, v1, v5⟩ : ∃ v : Int, (if 1 < W.wk + m then W.wk + m else 1) = v ∧ 1 ≤ v ∧ v ≤ 6 := ⟨_, rfl, by split <;> omega, by split <;> omega⟩
  have o1 := one_right_ok (heal_wd h (hs := List.replicate hs.length v) (by simp; omega) (fun x mx => by rw [(List.mem_replicate.1 mx).2]; exact ⟨v1, v5⟩))
  have hl1 := healing_ok W t14 (List.replicate hs.length v)
  obtain ⟨y, j2, e2, h2, J2⟩ := draw_ok hJ (by omega) (m := (hs.length : Int)) (by omega) (by omega)
  have yl : y < hs.length := by omega
  have q1 := lc_maps (g := gN 9) (t := tYes1) (f := b__law_right_C2) (own := [9]) (enc := fun x : Int => .int x) (fun x => .int (if W.wk > x then W.wk else x)) [.ow true j2, .sh (woD W), .sh (.list (inD hs)), .sh (.int W.wk), .sh (.int m), .sh (.int v), .sh (.int y), .un, .un, .un] hs [] (by simp; omega) (by
    intro x _
    simp [lcTurn, b__law_right_C2, wipeE, restE])
  have me : (hs.map fun x => PyData.int (if W.wk > x then W.wk else x)) = inD (hs.map fun x => if W.wk > x then W.wk else x) := by unfold inD; rw [List.map_map]; rfl
  rw [me] at q1
  obtain ⟨os, hos⟩ : ∃ os, os = hs.map fun x => if W.wk > x then W.wk else x := ⟨_, rfl⟩
  rw [← hos] at q1
  have lo : os.length = hs.length := by rw [hos]; simp
  have bo : ∀ x ∈ os.set y v, 1 ≤ x ∧ x ≤ 6 := fun x mx => by
    rcases List.mem_or_eq_of_mem_set mx with mx | rfl
    · rw [hos] at mx
      obtain ⟨z, mz, rfl⟩ := List.mem_map.1 mx
      have := bh z mz
      split <;> omega
    · exact ⟨v1, v5⟩
  have o2 := one_right_ok (heal_wd h (hs := os.set y v) (by rw [List.length_set]; omega) bo)
  have hl2 := healing_ok W t14 (os.set y v)
  have p := fun (i : Nat) (e2 : En) => set_nat i (.int v) e2 y false (inD os) (by rw [inD_len]; omega)
  have p2 : (inD os).set y (.int v) = inD (os.set y v) := by simp [inD, List.map_set]
  have rp : dRep (.list [.int v]) (.int (hs.length : Int)) = some (.list (inD (List.replicate hs.length v))) := by
    rw [rep_n _ _ (by omega)]; simp [inD]
  have mw : dMulW (.list [.int v]) (.int (hs.length : Int)) = some (.list (inD (List.replicate hs.length v))) := by rw [dMulW_l]; exact rp
  refine ⟨(j2, false), ?_, J2⟩
  unfold envR
  rw [← hhs]
  simp only [List.nil_append] at q1
  rw [show hs.map (fun x : Int => PyData.int x) = inD hs from rfl] at q1
  generalize woD (Wo.heal W (List.replicate hs.length v)) = w1' at *
  have fw : flatD (woD (Wo.heal W (os.set y v))) = false := rfl
  generalize woD (Wo.heal W (os.set y v)) = w2' at *
  generalize inD (List.replicate hs.length v) = ds at *
  have lw : (inD hs).length = hs.length := inD_len _
  generalize hsd : inD hs = hd at *
  cases own <;> simp [turn, b__law_right_L3, slH, hv, lw, mw, hl1, o1, e2, q1, p, p2, hl2, o2, viewEnd, fw]
theorem right_ok {q : Nat} {jar : D} (hJ : J q jar) (hq : q ≤ 1000) : ∃ jar', F__law_right [.ow true jar] = .ret false (.bool true) [.ow true jar'] := by
  obtain ⟨x, j1, e1, h1, J1⟩ := draw_ok hJ (by omega) (m := 2) (by omega) (by omega)
  obtain ⟨W, j2, e2, hW, _, J2⟩ := world_ok J1 (by omega) ((x : Int) == 0)
  have t14 := hW.g.t14
  have o1 := one_right_ok hW
  have q1 := lc_maps (g := gN 8) (t := tYes1) (f := b__law_right_C1) (own := [8]) (enc := tiD) (fun t => .int t.h) [.ow true j2, .sh (woD W), .un, .un, .un, .un, .un, .un, .un, .un] W.g.ts [] (by simp; omega) (by
    intro t _
    simp [lcTurn, b__law_right_C1, wipeE, restE, tiD])
  have me : (W.g.ts.map fun t => PyData.int t.h) = inD (W.g.ts.map Ti.h) := by unfold inD; rw [List.map_map]; rfl
  rw [me] at q1
  obtain ⟨n0, hn0, J2⟩ : ∃ n0, n0 ≤ 2000 ∧ J n0 j2 := ⟨_, by omega, J2⟩
  obtain ⟨s, q2, _⟩ := for_ex (g := gN 4) (body := b__law_right_L3) (enc := fun m : Int => .int m) (envR W) (fun k s => J (n0 + k) s.1) [-1, 0, 1] 0 (j2, true) J2 (by
    rintro k m s hi hJ
    have mm := List.mem_of_getElem? hi
    have kl := (List.getElem?_eq_some_iff.1 hi).1
    simp at kl
    obtain ⟨s', a, b⟩ := more_ok hW hJ (by omega) m (by simpa using mm)
    exact ⟨s', a, b.mono (by omega)⟩)
  obtain ⟨j3, own⟩ := s
  refine ⟨j3, ?_⟩
  unfold F__law_right; rw [run0_r _ _ _ (by simp)]
  simp only [List.nil_append] at q1
  unfold envR at q2
  simp only [List.map_cons, List.map_nil] at q2
  generalize hd : inD (W.g.ts.map Ti.h) = hs at *
  have ng : dNeg (.int 1) = some (.int (-1)) := rfl
  have a1 : atI [grD W.g, .int W.wk, .tuple (W.ws.map waD)] 0 = some (grD W.g) := by simp
  unfold woD grD at *
  simp [slH] at q2
  simp [b__law_right, e1, e2, q1, o1, ng, q2]
theorem law_true : ∀ ns : List Int, ns.length ≤ 63 → (∀ i ∈ ns, Builtin.Int.intBits i ≤ 1048576) → ∃ as', F_law [.sh (scriptD ns)] = .ret false (.bool true) as' := by
  intro ns h hb
  obtain ⟨q, _⟩ := for_fold (g := gT [(gN 1), (gN 2)]) (body := b_law_L1) (enc := fun p : Int × Nat => .tuple [.int (p.2 : Int), .int p.1]) (fun _ : Unit => [.sh (scriptD ns), .un, .un]) (fun s _ => s) (fun _ => True) (((ns.length : Int) :: ns.take 10).zipIdx) () trivial (by
    rintro _ ⟨c, k⟩ hm _
    have hk : ((ns.length : Int) :: ns.take 10)[k]? = some c := by simpa using List.mem_zipIdx_iff_getElem?.1 hm
    have kl := (List.getElem?_eq_some_iff.1 hk).1
    have kl2 : k ≤ 1000 := by
      simp at kl; omega
    have lc : c.natAbs.log2 < 1048577 := by
      rcases List.mem_cons.1 (List.mem_of_getElem? hk) with rfl | mc
      · have := log2_mid (i := (ns.length : Int)) (by omega) (by omega); omega
      · exact bits_log2 (hb c (List.mem_of_mem_take mc))
    obtain ⟨jar, e2, J0⟩ := bag_ok c lc k kl2
    obtain ⟨jar', e3⟩ := right_ok J0 kl2
    exact ⟨by simp [turn, b_law_L1, e2, e3], trivial⟩)
  refine ⟨[.un], ?_⟩
  have ct : cutD (ns.map .int) none (some 10) = (ns.take 10).map .int := by
    have := cut_to (ns.map .int) 10
    rw [List.map_take]; exact this
  have en : enumD 0 (PyData.int (ns.length : Int) :: (ns.take 10).map .int) = (((ns.length : Int) :: ns.take 10).zipIdx).map fun p => .tuple [.int (p.2 : Int), .int p.1] := enum_map (fun i : Int => PyData.int i) ((ns.length : Int) :: ns.take 10) 0
  have ad : dAddU (.list [.int (ns.length : Int)]) (.list ((ns.take 10).map .int)) = some (.list (.int (ns.length : Int) :: (ns.take 10).map .int)) := by
    simp only [dAddU]
    rw [small_lit, if_pos (by simp; omega)]
    rfl
  unfold F_law; rw [run0_r _ _ _ (by simp)]
  unfold scriptD at *
  generalize ((((ns.length : Int) :: ns.take 10).zipIdx).map fun p => PyData.tuple [.int (p.2 : Int), .int p.1]) = es at *
  generalize (ns.take 10).map PyData.int = tk at *
  simp [b_law, ct, ad, en, q]
end Lk36
set_option Elab.async false
open PySem PySem.W PyProof.Rows in
set_option maxRecDepth 100000 in
set_option maxHeartbeats 0 in
theorem PySem.Challenge.cw_wornways_k36_steady_worlds_holds : PySem.Challenge.rw_wornways_k36_steady_worlds.Holds := by
  w_on; o_law; k_head; (case hw => w_witness2)
  k_fill
  refine M.law_endB (l := PySem.Challenge.rw_wornways_k36_steady_worlds) (n := 63) (k := 6) (x := "script") (Fd := Lk36.F_law) rfl (by decide) rfl ⟨rfl, by decide, by decide⟩ (fun w h Y => PySem.W.kIn_of Y) ?F ?S
  case F =>
    intro w mg fa h KX G hmg
    refine' Lk36.all_mk KX G hmg ?a0 ?l0 ?c0 ?k0 ?a1 ?l1 ?c1 ?k1 ?a2 ?l2 ?c2 ?k2 ?a3 ?l3 ?c3 ?k3 ?a4 ?l4 ?c4 ?k4 ?a5 ?l5 ?c5 ?k5 ?a6 ?l6 ?c6 ?k6 ?a7 ?l7 ?c7 ?k7 ?a8 ?l8 ?c8 ?k8 ?a9 ?l9 ?c9 ?k9 ?a10 ?l10 ?c10 ?k10  ?z_abs ?z_all ?z_bool ?z_enumerate ?z_isinstance ?z_len ?z_list ?z_max ?z_min ?z_range ?z_repr ?z_sorted ?z_tuple ?z_zip
    (case a0 => k_is); (case l0 => k_is); (case c0 => k_is); (case k0 => k_is)
    (case a1 => k_is); (case l1 => k_is); (case c1 => k_is); (case k1 => k_is)
    (case a2 => k_is); (case l2 => k_is); (case c2 => k_is); (case k2 => k_is)
    (case a3 => k_is); (case l3 => k_is); (case c3 => k_is); (case k3 => k_is)
    (case a4 => k_is); (case l4 => k_is); (case c4 => k_is); (case k4 => k_is)
    (case a5 => k_is); (case l5 => k_is); (case c5 => k_is); (case k5 => k_is)
    (case a6 => k_is); (case l6 => k_is); (case c6 => k_is); (case k6 => k_is)
    (case a7 => k_is); (case l7 => k_is); (case c7 => k_is); (case k7 => k_is)
    (case a8 => k_is); (case l8 => k_is); (case c8 => k_is); (case k8 => k_is)
    (case a9 => k_is); (case l9 => k_is); (case c9 => k_is); (case k9 => k_is)
    (case a10 => k_is); (case l10 => k_is); (case c10 => k_is); (case k10 => k_is)

    (case z_abs => k_is)
    (case z_all => k_is)
    (case z_bool => k_is)
    (case z_enumerate => k_is)
    (case z_isinstance => k_is)
    (case z_len => k_is)
    (case z_list => k_is)
    (case z_max => k_is)
    (case z_min => k_is)
    (case z_range => k_is)
    (case z_repr => k_is)
    (case z_sorted => k_is)
    (case z_tuple => k_is)
    (case z_zip => k_is)
  case S => exact Lk36.law_true
