import PyProof.Rows.All
import HandS.Base
import HandS.Call
import HandS.List
import HandS.Words
import HandS.Exc
import HandS.Wide
import HandS.TupAny
import HandS.TupMul
import HandS.IsInst
import HandS.Comp
import HandS.Ends
import HandS.Iter
import HandS.Zip
import HandS.More
import HandS.TupLe
import PySem.Challenge.RW_wornways_k09_rough_and_worn
set_option Elab.async false
set_option linter.all false
set_option maxRecDepth 100000
set_option autoImplicit false
/-! M1: data, what stands for data in a heap, environments of data, and how they are kept. -/
namespace M
open PySem PySem.Spec PyProof.Rows L2

abbrev D := PyData
def keyD : Key → D
  | .inl i => .int i
  | .inr x => .str x
def keysD (ks : List Key) : D := .tuple (ks.map keyD)
mutual
inductive Rep (K : PySem.W.Frag) (F : Hp) : V → D → Prop
  | non : Rep K F .non .none
  | bl (b : Bool) : Rep K F (.bl b) (.bool b)
  | int (i : Int) : Rep K F (.int i) (.int i)
  | str (x : Str) : Rep K F (.str x) (.str x)
  | lst {a : Addr} {xs : List V} {ds : List D} : SqL K F a xs → Reps K F xs ds → Rep K F (.ref a) (.list ds)
  | tup {a : Addr} {xs : List V} {ds : List D} : SqT K F a xs → Reps K F xs ds → Rep K F (.ref a) (.tuple ds)
  | dK {a : Addr} {kvs : List (Key × V)} {ds : List (D × D)} : Rd F a (.dK kvs) → RepK K F kvs ds → Rep K F (.ref a) (.dict ds)
  | dT {a : Addr} {kvs : List (List Key × V)} {ds : List (D × D)} : Rd F a (.dT kvs) → RepT K F kvs ds → Rep K F (.ref a) (.dict ds)
inductive Reps (K : PySem.W.Frag) (F : Hp) : List V → List D → Prop
  | nil : Reps K F [] []
  | cons {v : V} {vs : List V} {d : D} {ds : List D} : Rep K F v d → Reps K F vs ds → Reps K F (v :: vs) (d :: ds)
inductive RepK (K : PySem.W.Frag) (F : Hp) : List (Key × V) → List (D × D) → Prop
  | nil : RepK K F [] []
  | cons {k : Key} {v : V} {kvs : List (Key × V)} {d : D} {ds : List (D × D)} : Rep K F v d → RepK K F kvs ds → RepK K F ((k, v) :: kvs) ((keyD k, d) :: ds)
inductive RepT (K : PySem.W.Frag) (F : Hp) : List (List Key × V) → List (D × D) → Prop
  | nil : RepT K F [] []
  | cons {k : List Key} {v : V} {kvs : List (List Key × V)} {d : D} {ds : List (D × D)} : Rep K F v d → RepT K F kvs ds → RepT K F ((k, v) :: kvs) ((keysD k, d) :: ds)
end
section
variable {K : PySem.W.Frag} {F F' H H' : Hp}
theorem Rd.mono {a : Addr} {u : HO} (s : Same F F') (h : Rd F a u) : Rd F' a u := by
  rcases h with h | ⟨o, h⟩
  · exact .inl (s _ _ h)
  · exact .inr ⟨o, s _ _ h⟩
theorem SqT.mono {a : Addr} {xs : List V} (s : Same F F') (h : SqT K F a xs) : SqT K F' a xs := by
  rcases h with h | h
  · exact .inl (Rd.mono s h)
  · exact .inr h
mutual
theorem Rep.mono (s : Same F F') : ∀ {v : V} {d : D}, Rep K F v d → Rep K F' v d
  | _, _, .non => .non
  | _, _, .bl b => .bl b
  | _, _, .int i => .int i
  | _, _, .str x => .str x
  | _, _, .lst h r => .lst (s.seq h) (Reps.mono s r)
  | _, _, .tup h r => .tup (SqT.mono s h) (Reps.mono s r)
  | _, _, .dK h r => .dK (Rd.mono s h) (RepK.mono s r)
  | _, _, .dT h r => .dT (Rd.mono s h) (RepT.mono s r)
theorem Reps.mono (s : Same F F') : ∀ {v : List V} {d : List D}, Reps K F v d → Reps K F' v d
  | _, _, .nil => .nil
  | _, _, .cons h r => .cons (Rep.mono s h) (Reps.mono s r)
theorem RepK.mono (s : Same F F') : ∀ {v : List (Key × V)} {d : List (D × D)}, RepK K F v d → RepK K F' v d
  | _, _, .nil => .nil
  | _, _, .cons h r => .cons (Rep.mono s h) (RepK.mono s r)
theorem RepT.mono (s : Same F F') : ∀ {v : List (List Key × V)} {d : List (D × D)}, RepT K F v d → RepT K F' v d
  | _, _, .nil => .nil
  | _, _, .cons h r => .cons (Rep.mono s h) (RepT.mono s r)
end
theorem Reps.length : ∀ {vs : List V} {ds : List D}, Reps K F vs ds → vs.length = ds.length
  | _, _, .nil => rfl
  | _, _, .cons _ r => congrArg (· + 1) (Reps.length r)
theorem Reps.get : ∀ {vs : List V} {ds : List D} {i : Nat} {d : D}, Reps K F vs ds → ds[i]? = some d → ∃ v, vs[i]? = some v ∧ Rep K F v d
  | _, _, _, _, .nil, e => by simp at e
  | _, _, 0, _, .cons h r, e => by simp at e; subst e; exact ⟨_, rfl, h⟩
  | _, _, i + 1, d, .cons h r, e => by
    obtain ⟨v, h1, h2⟩ := Reps.get (i := i) (d := d) r (by simpa using e)
    exact ⟨v, by simpa using h1, h2⟩
theorem Reps.append : ∀ {vs ws : List V} {ds es : List D}, Reps K F vs ds → Reps K F ws es → Reps K F (vs ++ ws) (ds ++ es)
  | _, _, _, _, .nil, s => s
  | _, _, _, _, .cons h r, s => .cons h (Reps.append r s)
theorem Reps.set {v : V} {d : D} (h : Rep K F v d) : ∀ {vs : List V} {ds : List D} (i : Nat), Reps K F vs ds → Reps K F (vs.set i v) (ds.set i d)
  | _, _, _, .nil => .nil
  | _, _, 0, .cons _ r => .cons h r
  | _, _, i + 1, .cons q r => .cons q (Reps.set h i r)
theorem Reps.take : ∀ {vs : List V} {ds : List D} (n : Nat), Reps K F vs ds → Reps K F (vs.take n) (ds.take n)
  | _, _, 0, _ => .nil
  | _, _, _ + 1, .nil => .nil
  | _, _, n + 1, .cons q r => .cons q (Reps.take n r)
theorem Reps.drop : ∀ {vs : List V} {ds : List D} (n : Nat), Reps K F vs ds → Reps K F (vs.drop n) (ds.drop n)
  | _, _, 0, r => r
  | _, _, _ + 1, .nil => .nil
  | _, _, n + 1, .cons _ r => Reps.drop n r
theorem Reps.reverse : ∀ {vs : List V} {ds : List D}, Reps K F vs ds → Reps K F vs.reverse ds.reverse
  | _, _, .nil => .nil
  | _, _, .cons q r => by
    rw [List.reverse_cons, List.reverse_cons]
    exact (Reps.reverse r).append (.cons q .nil)
theorem Reps.ints : ∀ {vs : List V} {ns : List Int}, Reps K F vs (ns.map .int) → vs = ns.map V.int
  | _, [], .nil => rfl
  | _, n :: ns, .cons h r => by
    cases h
    rw [Reps.ints r]
    rfl

/-- what grows: new frozen things alone -/
structure Grow (F H F' H' : Hp) : Prop where
  f : Same F F'
  h : Same H H'
  fh : Same F' H'
  nw : ∀ a o, F' a = some o → F a = some o ∨ H a = none
theorem Grow.refl (s : Same F H) : Grow F H F H := ⟨.refl _, .refl _, s, fun _ _ e => .inl e⟩
theorem Grow.trans {F2 H2 : Hp} (g : Grow F H F' H') (k : Grow F' H' F2 H2) : Grow F H F2 H2 :=
  ⟨g.f.trans k.f, g.h.trans k.h, k.fh, fun a o e => by
    rcases k.nw a o e with e | e
    · exact g.nw a o e
    · exact .inr (g.h.free e)⟩
theorem Grow.alloc {p : Addr} {o : HO} (s : Same F H) (n : H p = none) : Grow F H (upd F p o) (upd H p o) :=
  ⟨fun a u e => by rw [upd_ne (ne_of_none (s _ _ e) n)]; exact e, fun a u e => by rw [upd_ne (ne_of_none e n)]; exact e,
   fun a u e => by
    by_cases h : a = p
    · rw [h, upd_same] at e ⊢; exact e
    · rw [upd_ne h] at e ⊢; exact s _ _ e,
   fun a u e => by
    by_cases h : a = p
    · rw [h]; exact .inr n
    · rw [upd_ne h] at e; exact .inl e⟩
end

/-- a place of an environment: nothing is known; data that nobody changes; data of one's own (lists, dicts) that may be changed -/
inductive Sl where
  | un
  | sh (d : D)
  | ow (b : Bool) (d : D)
abbrev En := List Sl
/-- a thing of one's own at p -/
def Own (K : PySem.W.Frag) (F H : Hp) (p : Addr) : D → Prop
  | .list ds => ∃ vs, H p = some (.lst vs) ∧ Reps K F vs ds
  | .dict ds => (∃ kvs, H p = some (.dK kvs) ∧ RepK K F kvs ds) ∨ ∃ kvs, H p = some (.dT kvs) ∧ RepT K F kvs ds
  | _ => False
def SlOk (K : PySem.W.Frag) (F H : Hp) : Sl → Option V → Prop
  | .un, _ => True
  | .sh d, o => ∃ v, o = some v ∧ Rep K F v d
  | .ow _ d, o => ∃ p, o = some (.ref p) ∧ F p = none ∧ Own K F H p d
/-- a call's frame: the heap at entry, what is frozen of it, the arguments that are one's own -/
structure Gd where
  H0 : Hp
  F0 : Hp
  As : List Addr
  S0 : L2.St
structure Rel (K : PySem.W.Frag) (G : Gd) (en : En) (F H : Hp) (σ : L2.St) : Prop where
  len : en.length = σ.length
  sl : ∀ (i : Nat) (s : Sl), en[i]? = some s → SlOk K F H s (σ[i]?.join)
  dj : ∀ (i j : Nat) (b c : Bool) (d e : D) (p : Addr), en[i]? = some (.ow b d) → en[j]? = some (.ow c e) → σ[i]? = some (some (.ref p)) → σ[j]? = some (some (.ref p)) → i = j
  mn : ∀ (i : Nat) (b : Bool) (d : D) (p : Addr), en[i]? = some (.ow b d) → σ[i]? = some (some (.ref p)) → if b = true then p ∈ G.As else G.H0 p = none
  fh : Same F H
  f0 : Same G.F0 F
  nw : ∀ a o, F a = some o → G.F0 a = some o ∨ G.H0 a = none
  bs : ∀ a o, G.H0 a = some o → a ∉ G.As → H a = some o
  as : ∀ a ∈ G.As, ∃ o, H a = some o
  ar : ∀ (i : Nat) (d : D), en[i]? = some (.ow true d) → σ[i]? = G.S0[i]?
section
variable {K : PySem.W.Frag} {G : Gd} {en : En} {F F' H H' : Hp} {σ : L2.St} {i : Nat}
theorem Own.some {p : Addr} {d : D} (h : Own K F H p d) : ∃ o, H p = some o := by
  cases d with
  | list ds => obtain ⟨vs, e, _⟩ := h; exact ⟨_, e⟩
  | dict ds => rcases h with ⟨_, e, _⟩ | ⟨_, e, _⟩ <;> exact ⟨_, e⟩
  | _ => exact h.elim
theorem Own.mut {p : Addr} {d : D} (h : Own K F H p d) : Mut (H p) := by
  cases d with
  | list ds => obtain ⟨vs, e, _⟩ := h; rw [e]; trivial
  | dict ds => rcases h with ⟨_, e, _⟩ | ⟨_, e, _⟩ <;> (rw [e]; trivial)
  | _ => exact h.elim
theorem Own.mono {p : Addr} {d : D} (h : Own K F H p d) (s : Same F F') (k : H' p = H p) : Own K F' H' p d := by
  cases d with
  | list ds => obtain ⟨vs, e, r⟩ := h; exact ⟨vs, k.trans e, r.mono s⟩
  | dict ds =>
    rcases h with ⟨kvs, e, r⟩ | ⟨kvs, e, r⟩
    · exact .inl ⟨kvs, k.trans e, r.mono s⟩
    · exact .inr ⟨kvs, k.trans e, r.mono s⟩
  | _ => exact h.elim
theorem Own.rep {p : Addr} {d : D} (h : Own K F H p d) (s : Same F F') (k : F' p = H p) : Rep K F' (.ref p) d := by
  cases d with
  | list ds => obtain ⟨vs, e, r⟩ := h; exact .lst (.inl (.inl (k.trans e))) (r.mono s)
  | dict ds =>
    rcases h with ⟨kvs, e, r⟩ | ⟨kvs, e, r⟩
    · exact .dK (.inl (k.trans e)) (r.mono s)
    · exact .dT (.inl (k.trans e)) (r.mono s)
  | _ => exact h.elim
theorem join_some {o : Option (Option V)} {v : V} (h : o.join = some v) : o = some (some v) := by
  cases o with
  | none => cases h
  | some x => exact congrArg some h
theorem Rel.shV {d : D} (R : Rel K G en F H σ) (e : en[i]? = some (.sh d)) : ∃ v, σ[i]? = some (some v) ∧ Rep K F v d := by
  obtain ⟨v, h, r⟩ := R.sl i _ e
  exact ⟨v, join_some h, r⟩
theorem Rel.owV {b : Bool} {d : D} (R : Rel K G en F H σ) (e : en[i]? = some (.ow b d)) : ∃ p, σ[i]? = some (some (.ref p)) ∧ F p = none ∧ Own K F H p d := by
  obtain ⟨p, h, r⟩ := R.sl i _ e
  exact ⟨p, join_some h, r⟩
/-- an address that is free now was free at the entry -/
theorem Rel.free0 (R : Rel K G en F H σ) {a : Addr} (n : H a = none) : G.H0 a = none := by
  cases e : G.H0 a with
  | none => rfl
  | some o =>
    by_cases h : a ∈ G.As
    · obtain ⟨u, q⟩ := R.as a h
      rw [n] at q; cases q
    · have q := R.bs a o e h
      rw [n] at q; cases q
theorem Rel.grow (R : Rel K G en F H σ) (g : Grow F H F' H') : Rel K G en F' H' σ where
  len := R.len
  sl := fun j s e => by
    have h := R.sl j s e
    cases s with
    | un => trivial
    | sh d => obtain ⟨v, h1, h2⟩ := h; exact ⟨v, h1, h2.mono g.f⟩
    | ow b d =>
      obtain ⟨p, h1, h2, h3⟩ := h
      obtain ⟨o, ho⟩ := h3.some
      refine ⟨p, h1, ?_, h3.mono g.f ((g.h _ _ ho).trans ho.symm)⟩
      cases q : F' p with
      | none => rfl
      | some u =>
        rcases g.nw p u q with z | z
        · rw [h2] at z; cases z
        · rw [ho] at z; cases z
  dj := R.dj
  mn := R.mn
  fh := g.fh
  f0 := R.f0.trans g.f
  nw := fun a o e => by
    rcases g.nw a o e with z | z
    · exact R.nw a o z
    · exact .inr (R.free0 z)
  bs := fun a o e h => g.h _ _ (R.bs a o e h)
  as := fun a h => let ⟨o, q⟩ := R.as a h; ⟨o, g.h _ _ q⟩
  ar := R.ar
/-- a new thing that is not frozen -/
theorem Rel.newO {p : Addr} {o : HO} (R : Rel K G en F H σ) (n : H p = none) : Rel K G en F (upd H p o) σ where
  len := R.len
  sl := fun j s e => by
    have h := R.sl j s e
    cases s with
    | un => trivial
    | sh d => exact h
    | ow b d =>
      obtain ⟨q, h1, h2, h3⟩ := h
      obtain ⟨u, hu⟩ := h3.some
      exact ⟨q, h1, h2, h3.mono (.refl _) (by rw [upd_ne (ne_of_none hu n)])⟩
  dj := R.dj
  mn := R.mn
  fh := fun a u e => by rw [upd_ne (ne_of_none (R.fh _ _ e) n)]; exact R.fh _ _ e
  f0 := R.f0
  nw := R.nw
  bs := fun a u e h => by rw [upd_ne (ne_of_none (R.bs a u e h) n)]; exact R.bs a u e h
  as := fun a h => let ⟨u, q⟩ := R.as a h; ⟨u, by rw [upd_ne (ne_of_none q n)]; exact q⟩
  ar := R.ar
/-- a place is forgotten, or told what it may be told -/
theorem Rel.put {s : Sl} {v : V} (R : Rel K G en F H σ) (hs : SlOk K F H s (some v)) (hb : ∀ d, s ≠ .ow true d)
    (ho : ∀ b d p, s = .ow b d → v = .ref p → b = false ∧ G.H0 p = none ∧ ∀ (j : Nat) (c : Bool) (e : D), j ≠ i → en[j]? = some (.ow c e) → σ[j]? ≠ some (some (.ref p))) :
    Rel K G (en.set i s) F H (σ.set i (some v)) where
  len := by rw [List.length_set, List.length_set, R.len]
  sl := fun j t e => by
    by_cases h : i = j
    · subst h
      by_cases hi : i < en.length
      · rw [List.getElem?_set_self hi] at e
        cases e
        rw [List.getElem?_set_self (by rw [← R.len]; exact hi)]
        exact hs
      · rw [List.getElem?_eq_none (by rw [List.length_set]; omega)] at e; cases e
    · rw [List.getElem?_set_ne h] at e ⊢
      exact R.sl j t e
  dj := fun j k b c d e p h1 h2 h3 h4 => by
    have key : ∀ (j k : Nat) (b c : Bool) (d e : D), i = j → i ≠ k → (en.set i s)[j]? = some (.ow b d) → (en.set i s)[k]? = some (.ow c e) → (σ.set i (some v))[j]? = some (some (.ref p)) → (σ.set i (some v))[k]? = some (some (.ref p)) → False := by
      intro j k b c d e hj hk g1 g2 g3 g4
      subst hj
      rw [List.getElem?_set_ne hk] at g2 g4
      by_cases hi : i < en.length
      · rw [List.getElem?_set_self hi] at g1
        rw [List.getElem?_set_self (by rw [← R.len]; exact hi)] at g3
        have g1' : s = .ow b d := Option.some.inj g1
        have g3' : v = .ref p := Option.some.inj (Option.some.inj g3)
        exact (ho b d p g1' g3').2.2 k c e (Ne.symm hk) g2 g4
      · rw [List.getElem?_eq_none (by rw [List.length_set]; omega)] at g1; cases g1
    by_cases hj : i = j
    · by_cases hk : i = k
      · rw [← hj, ← hk]
      · exact (key j k b c d e hj hk h1 h2 h3 h4).elim
    · by_cases hk : i = k
      · exact (key k j c b e d hk hj h2 h1 h4 h3).elim
      · rw [List.getElem?_set_ne hj] at h1 h3
        rw [List.getElem?_set_ne hk] at h2 h4
        exact R.dj j k b c d e p h1 h2 h3 h4
  mn := fun j b d p h1 h3 => by
    by_cases hj : i = j
    · subst hj
      by_cases hi : i < en.length
      · rw [List.getElem?_set_self hi] at h1
        rw [List.getElem?_set_self (by rw [← R.len]; exact hi)] at h3
        obtain ⟨rfl, z, _⟩ := ho b d p (Option.some.inj h1) (Option.some.inj (Option.some.inj h3))
        simpa using z
      · rw [List.getElem?_eq_none (by rw [List.length_set]; omega)] at h1; cases h1
    · rw [List.getElem?_set_ne hj] at h1 h3
      exact R.mn j b d p h1 h3
  fh := R.fh
  f0 := R.f0
  nw := R.nw
  bs := R.bs
  as := R.as
  ar := fun j d h1 => by
    by_cases hj : i = j
    · subst hj
      by_cases hi : i < en.length
      · rw [List.getElem?_set_self hi] at h1
        exact (hb d (Option.some.inj h1)).elim
      · rw [List.getElem?_eq_none (by rw [List.length_set]; omega)] at h1; cases h1
    · rw [List.getElem?_set_ne hj] at h1 ⊢
      exact R.ar j d h1
theorem Rel.putSh {v : V} {d : D} (R : Rel K G en F H σ) (r : Rep K F v d) : Rel K G (en.set i (.sh d)) F H (σ.set i (some v)) :=
  R.put ⟨v, rfl, r⟩ (fun _ e => nomatch e) fun _ _ _ e => nomatch e
theorem Rel.putOw {p : Addr} {d : D} (R : Rel K G en F H σ) (n : F p = none) (o : Own K F H p d) (h0 : G.H0 p = none) (nd : ∀ (j : Nat) (b : Bool) (e : D), en[j]? = some (.ow b e) → σ[j]? ≠ some (some (.ref p))) :
    Rel K G (en.set i (.ow false d)) F H (σ.set i (some (.ref p))) :=
  R.put ⟨p, rfl, n, o⟩ (fun _ e => by cases e) fun b d' q e e' => by
    cases e
    cases e'
    exact ⟨rfl, h0, fun j c e _ => nd j c e⟩
/-- weaken a place, the state as it is -/
theorem Rel.re {s t : Sl} (R : Rel K G en F H σ) (h0 : en[i]? = some s) (hs : SlOk K F H t (σ[i]?.join)) (ho : ∀ b d, t = .ow b d → ∃ d', s = .ow b d') : Rel K G (en.set i t) F H σ where
  len := by rw [List.length_set, R.len]
  sl := fun j u e => by
    by_cases h : i = j
    · subst h
      by_cases hi : i < en.length
      · rw [List.getElem?_set_self hi] at e
        cases e
        exact hs
      · rw [List.getElem?_eq_none (by rw [List.length_set]; omega)] at e; cases e
    · rw [List.getElem?_set_ne h] at e
      exact R.sl j u e
  dj := fun j k b c d e p h1 h2 h3 h4 => by
    have key : ∀ (j : Nat) (b : Bool) (d : D), (en.set i t)[j]? = some (.ow b d) → ∃ d', en[j]? = some (.ow b d') := fun j b d g => by
      by_cases h : i = j
      · subst h
        by_cases hi : i < en.length
        · rw [List.getElem?_set_self hi] at g
          obtain ⟨d', e⟩ := ho b d (Option.some.inj g)
          exact ⟨d', by rw [h0, e]⟩
        · rw [List.getElem?_eq_none (by rw [List.length_set]; omega)] at g; cases g
      · rw [List.getElem?_set_ne h] at g
        exact ⟨d, g⟩
    obtain ⟨d1, g1⟩ := key j b d h1
    obtain ⟨d2, g2⟩ := key k c e h2
    exact R.dj j k b c d1 d2 p g1 g2 h3 h4
  mn := fun j b d p h1 h3 => by
    by_cases h : i = j
    · subst h
      by_cases hi : i < en.length
      · rw [List.getElem?_set_self hi] at h1
        obtain ⟨d', e⟩ := ho b d (Option.some.inj h1)
        exact R.mn i b d' p (by rw [h0, e]) h3
      · rw [List.getElem?_eq_none (by rw [List.length_set]; omega)] at h1; cases h1
    · rw [List.getElem?_set_ne h] at h1
      exact R.mn j b d p h1 h3
  fh := R.fh
  f0 := R.f0
  nw := R.nw
  bs := R.bs
  as := R.as
  ar := fun j d h1 => by
    by_cases h : i = j
    · subst h
      by_cases hi : i < en.length
      · rw [List.getElem?_set_self hi] at h1
        obtain ⟨d', e⟩ := ho true d (Option.some.inj h1)
        exact R.ar i d' (by rw [h0, e])
      · rw [List.getElem?_eq_none (by rw [List.length_set]; omega)] at h1; cases h1
    · rw [List.getElem?_set_ne h] at h1
      exact R.ar j d h1
theorem Rel.forget (R : Rel K G en F H σ) : Rel K G (en.set i .un) F H σ := by
  cases e : en[i]? with
  | none =>
    have h : en.set i .un = en := by
      apply List.set_eq_of_length_le
      exact List.getElem?_eq_none_iff.mp e
    rw [h]
    exact R
  | some s => exact R.re e (t := .un) (show True from trivial) fun _ _ q => nomatch q
/-- a thing of one's own is frozen -/
theorem Rel.freeze {d : D} (R : Rel K G en F H σ) (e : en[i]? = some (.ow false d)) : ∃ F' v, Rel K G (en.set i (.sh d)) F' H σ ∧ Same F F' ∧ σ[i]? = some (some v) ∧ Rep K F' v d := by
  obtain ⟨p, h1, h2, h3⟩ := R.owV e
  obtain ⟨o, ho⟩ := h3.some
  have sF : Same F (upd F p o) := fun a u q => by
    have ne : a ≠ p := fun z => by rw [z, h2] at q; cases q
    rw [upd_ne ne]; exact q
  have rp : Rep K (upd F p o) (.ref p) d := h3.rep sF (by rw [upd_same, ho])
  have h0 : G.H0 p = none := by
    have := R.mn i false d p e h1
    simpa using this
  have R1 : Rel K G (en.set i .un) F H σ := R.forget
  have hlen : i < en.length := (List.getElem?_eq_some_iff.mp e).1
  have R2 : Rel K G (en.set i .un) (upd F p o) H σ := {
    len := R1.len
    sl := fun j s q => by
      have h := R1.sl j s q
      cases s with
      | un => trivial
      | sh d => obtain ⟨v, g1, g2⟩ := h; exact ⟨v, g1, g2.mono sF⟩
      | ow b d' =>
        obtain ⟨p', g1, g2, g3⟩ := h
        have ne : p' ≠ p := by
          rintro rfl
          have hj : i ≠ j := fun z => by
            subst z
            rw [List.getElem?_set_self hlen] at q; cases q
          rw [List.getElem?_set_ne hj] at q
          exact hj (R.dj i j false b d d' p' e q h1 (join_some g1))
        refine ⟨p', g1, by rw [upd_ne ne]; exact g2, g3.mono sF rfl⟩
    dj := R1.dj
    mn := R1.mn
    fh := fun a u q => by
      by_cases h : a = p
      · rw [h, upd_same] at q; cases q; rw [h]; exact ho
      · rw [upd_ne h] at q; exact R.fh _ _ q
    f0 := R.f0.trans sF
    nw := fun a u q => by
      by_cases h : a = p
      · rw [h]; exact .inr h0
      · rw [upd_ne h] at q; exact R.nw a u q
    bs := R.bs
    as := R.as
    ar := R1.ar }
  have e2 : (en.set i .un)[i]? = some .un := List.getElem?_set_self hlen
  have R3 := R2.re (i := i) (t := .sh d) e2 ⟨.ref p, by rw [h1]; rfl, rp⟩ (fun _ _ q => nomatch q)
  rw [List.set_set] at R3
  exact ⟨upd F p o, .ref p, R3, sF, h1, rp⟩
/-- a thing of one's own is changed -/
theorem Rel.mut {b : Bool} {d d' : D} {p : Addr} {o : HO} (R : Rel K G en F H σ) (e : en[i]? = some (.ow b d)) (hp : σ[i]? = some (some (.ref p))) (hn : Own K F (upd H p o) p d') : Rel K G (en.set i (.ow b d')) F (upd H p o) σ := by
  obtain ⟨p', h1, h2, h3⟩ := R.owV e
  have ep : p' = p := by rw [hp] at h1; cases h1; rfl
  subst ep
  have hlen : i < en.length := (List.getElem?_eq_some_iff.mp e).1
  have R2 : Rel K G (en.set i .un) F (upd H p' o) σ := {
    len := by rw [List.length_set, R.len]
    sl := fun j s q => by
      have h := (R.forget (i := i)).sl j s q
      cases s with
      | un => trivial
      | sh d => exact h
      | ow c d2 =>
        obtain ⟨p2, g1, g2, g3⟩ := h
        have ne : p2 ≠ p' := by
          rintro rfl
          have hj : i ≠ j := fun z => by
            subst z
            rw [List.getElem?_set_self hlen] at q; cases q
          rw [List.getElem?_set_ne hj] at q
          exact hj (R.dj i j b c d d2 p2 e q h1 (join_some g1))
        exact ⟨p2, g1, g2, g3.mono (.refl _) (by rw [upd_ne ne])⟩
    dj := (R.forget (i := i)).dj
    mn := (R.forget (i := i)).mn
    fh := fun a u q => by
      have ne : a ≠ p' := fun z => by rw [z, h2] at q; cases q
      rw [upd_ne ne]; exact R.fh _ _ q
    f0 := R.f0
    nw := R.nw
    bs := fun a u q hA => by
      have ne : a ≠ p' := by
        rintro rfl
        have m := R.mn i b d a e h1
        cases b with
        | true => exact hA (by simpa using m)
        | false => rw [show G.H0 a = none by simpa using m] at q; cases q
      rw [upd_ne ne]; exact R.bs a u q hA
    as := fun a hA => by
      by_cases h : a = p'
      · exact ⟨o, by rw [h, upd_same]⟩
      · obtain ⟨u, q⟩ := R.as a hA; exact ⟨u, by rw [upd_ne h]; exact q⟩
    ar := (R.forget (i := i)).ar }
  have m := R.mn i b d p' e h1
  refine {
    len := by rw [List.length_set, R.len]
    sl := fun j s q => ?_
    dj := fun j k c1 c2 d1 d2 p2 g1 g2 g3 g4 => ?_
    mn := fun j c d2 p2 g1 g3 => ?_
    fh := R2.fh, f0 := R2.f0, nw := R2.nw, bs := R2.bs, as := R2.as
    ar := fun j d1 g1 => ?_ }
  · by_cases h : i = j
    · subst h
      rw [List.getElem?_set_self hlen] at q
      cases q
      exact ⟨p', by rw [h1]; rfl, h2, hn⟩
    · rw [List.getElem?_set_ne h] at q
      exact R2.sl j s (by rw [List.getElem?_set_ne h]; exact q)
  · have key : ∀ (j : Nat) (c : Bool) (d1 : D), (en.set i (.ow b d'))[j]? = some (.ow c d1) → ∃ d3, en[j]? = some (.ow c d3) := fun j c d1 g => by
      by_cases h : i = j
      · subst h
        rw [List.getElem?_set_self hlen] at g
        cases g
        exact ⟨d, e⟩
      · rw [List.getElem?_set_ne h] at g; exact ⟨d1, g⟩
    obtain ⟨x1, y1⟩ := key j c1 d1 g1
    obtain ⟨x2, y2⟩ := key k c2 d2 g2
    exact R.dj j k c1 c2 x1 x2 p2 y1 y2 g3 g4
  · by_cases h : i = j
    · subst h
      rw [List.getElem?_set_self hlen] at g1
      cases g1
      exact R.mn i b d p2 e g3
    · rw [List.getElem?_set_ne h] at g1
      exact R.mn j c d2 p2 g1 g3
  · by_cases h : i = j
    · subst h
      rw [List.getElem?_set_self hlen] at g1
      cases g1
      exact R.ar i d e
    · rw [List.getElem?_set_ne h] at g1
      exact R.ar j d1 g1
end
end M
set_option Elab.async false
set_option linter.all false
set_option maxRecDepth 100000
set_option autoImplicit false
/-! M2: results, judgements, operators. -/
namespace M
open PySem PySem.Spec PyProof.Rows L2

/-- an exception by its class's name and its fields -/
structure Xn where
  cls : Str
  fs : List (Str × D)
inductive R (α : Type) where
  | bad
  | ok (a : α) (e : En)
  | ex (x : Xn) (e : En)
def R.bind {α β : Type} (r : R α) (g : α → En → R β) : R β := match r with
  | .bad => .bad
  | .ok a e => g a e
  | .ex x e => .ex x e
abbrev Ev (α : Type) := En → R α
/-- an operand: data, or what stands at a place -/
inductive A where
  | sh (d : D)
  | bor (i : Nat)
def AOk (K : PySem.W.Frag) (F : Hp) (σ : L2.St) : A → V → Prop
  | .sh d, v => Rep K F v d
  | .bor i, v => σ[i]? = some (some v)
def AsOk (K : PySem.W.Frag) (F : Hp) (σ : L2.St) : List A → List V → Prop
  | [], vs => vs = []
  | a :: as, vs => ∃ v ws, vs = v :: ws ∧ AOk K F σ a v ∧ AsOk K F σ as ws
def XOk (X : Cx) (F : Hp) (x : Xn) (cls : Value) (dd : Option Addr) : Prop :=
  ∃ C, X.mg x.cls = some (.ref C) ∧ cls = .ref C ∧ (x.fs = [] → dd = none) ∧ (x.fs ≠ [] → ∃ d fvs, dd = some d ∧ F d = some (.xd fvs) ∧ fvs.map (·.1) = x.fs.map (·.1) ∧ Reps X.K F (fvs.map (·.2)) (x.fs.map (·.2)))
section
variable {K : PySem.W.Frag} {F F' : Hp} {σ : L2.St}
theorem AOk.mono {a : A} {v : V} (s : Same F F') (h : AOk K F σ a v) : AOk K F' σ a v := by
  cases a with
  | sh d => exact Rep.mono s h
  | bor i => exact h
theorem AsOk.mono (s : Same F F') : ∀ {as : List A} {vs : List V}, AsOk K F σ as vs → AsOk K F' σ as vs
  | [], _, h => h
  | _ :: _, _, ⟨v, ws, e, h, t⟩ => ⟨v, ws, e, h.mono s, AsOk.mono s t⟩
theorem AsOk.len : ∀ {as : List A} {vs : List V}, AsOk K F σ as vs → vs.length = as.length
  | [], _, h => by rw [h] <;> rfl
  | _ :: as, _, ⟨v, ws, e, h, t⟩ => by rw [e, List.length_cons, AsOk.len t, List.length_cons]
end
/-- data frozen, or one's own as it stands -/
def PRep (K : PySem.W.Frag) (F H : Hp) (v : V) (d : D) : Prop := Rep K F v d ∨ ∃ p, v = .ref p ∧ Own K F H p d
def PReps (K : PySem.W.Frag) (F H : Hp) : List V → List D → Prop
  | vs, [] => vs = []
  | vs, d :: ds => ∃ v ws, vs = v :: ws ∧ PRep K F H v d ∧ PReps K F H ws ds
def res (e : En) : A → Option D
  | .sh d => some d
  | .bor i => match e[i]? with
    | some (.sh d) => some d
    | some (.ow _ d) => some d
    | _ => none
def ress (e : En) : List A → Option (List D)
  | [] => some []
  | a :: as => (res e a).bind fun d => (ress e as).bind fun ds => some (d :: ds)
section
variable {K : PySem.W.Frag} {G : Gd} {F F0 H : Hp} {σ : L2.St} {en : En}
theorem res_ok {a : A} {v : V} {d : D} (r : Rel K G en F H σ) (h : AOk K F σ a v) (e : res en a = some d) : PRep K F H v d := by
  cases a with
  | sh d' => cases e; exact .inl h
  | bor i =>
    unfold res at e
    simp only at e
    split at e
    · rename_i d' h1
      cases e
      obtain ⟨v', h2, h3⟩ := r.shV h1
      have : σ[i]? = some (some v) := h
      rw [this] at h2
      cases h2
      exact .inl h3
    · rename_i b d' h1
      cases e
      obtain ⟨p, h2, _, h3⟩ := r.owV h1
      have : σ[i]? = some (some v) := h
      rw [this] at h2
      cases h2
      exact .inr ⟨p, rfl, h3⟩
    · cases e
theorem ress_ok (r : Rel K G en F H σ) : ∀ {as : List A} {vs : List V} {ds : List D}, AsOk K F σ as vs → ress en as = some ds → PReps K F H vs ds
  | [], _, _, h, e => by cases e; exact h
  | a :: as, _, ds, ⟨v, ws, e1, h, t⟩, e => by
    unfold ress at e
    obtain ⟨d, e2, e⟩ := Option.bind_eq_some_iff.mp e
    obtain ⟨ds', e3, e⟩ := Option.bind_eq_some_iff.mp e
    cases e
    exact ⟨v, ws, e1, res_ok r h e2, ress_ok r t e3⟩
theorem PRep.list {v : V} {ds : List D} (s : Same F H) (h : PRep K F H v (.list ds)) : ∃ a vs, v = .ref a ∧ SqL K H a vs ∧ Reps K F vs ds := by
  rcases h with h | ⟨p, rfl, vs, h, r⟩
  · cases h with
    | lst h r => exact ⟨_, _, rfl, s.seq h, r⟩
  · exact ⟨p, vs, rfl, .inl (.inl h), r⟩
theorem PRep.tup {v : V} {ds : List D} (s : Same F H) (h : PRep K F H v (.tuple ds)) : ∃ a vs, v = .ref a ∧ SqT K H a vs ∧ Reps K F vs ds := by
  rcases h with h | ⟨p, rfl, h⟩
  · cases h with
    | tup h r => exact ⟨_, _, rfl, SqT.mono s h, r⟩
  · exact h.elim
theorem PRep.rep {v : V} {d : D} (s : Same F H) (h : PRep K F H v d) : Rep K H v d := by
  rcases h with h | ⟨p, rfl, h⟩
  · exact h.mono s
  · exact h.rep s rfl
theorem PRep.int {v : V} {i : Int} (h : PRep K F H v (.int i)) : v = .int i := by
  rcases h with h | ⟨p, rfl, h⟩
  · cases h; rfl
  · exact h.elim
theorem PRep.bool {v : V} {i : Bool} (h : PRep K F H v (.bool i)) : v = .bl i := by
  rcases h with h | ⟨p, rfl, h⟩
  · cases h; rfl
  · exact h.elim
theorem PRep.str {v : V} {i : Str} (h : PRep K F H v (.str i)) : v = .str i := by
  rcases h with h | ⟨p, rfl, h⟩
  · cases h; rfl
  · exact h.elim
theorem PRep.non {v : V} (h : PRep K F H v .none) : v = .non := by
  rcases h with h | ⟨p, rfl, h⟩
  · cases h; rfl
  · exact h.elim
end

/-- what is wanted of an expression's result -/
def PostE (X : Cx) (W : WX) (G : Gd) (F : Hp) (σ : L2.St) {α β : Type} (ok : Hp → α → β → Prop) : R α → (β → Hp → Prop) → Prop
  | .bad, _ => False
  | .ok a e, Q => ∀ v F' H', Rel X.K G e F' H' σ → Same F F' → ok F' a v → Q v H'
  | .ex x e, _ => ∀ cls dd F' H', Rel X.K G e F' H' σ → Same F F' → XOk X F' x cls dd → W cls dd σ H'
theorem PostE.bind {X : Cx} {W : WX} {G : Gd} {F : Hp} {σ : L2.St} {α β γ δ : Type} {ok : Hp → α → β → Prop} {ok' : Hp → γ → δ → Prop} {r : R α} {g : α → En → R γ} {Q : δ → Hp → Prop} {Q' : β → Hp → Prop}
    (h : PostE X W G F σ ok' (r.bind g) Q) (k : ∀ a e v F' H', Rel X.K G e F' H' σ → Same F F' → ok F' a v → PostE X W G F' σ ok' (g a e) Q → Q' v H') : PostE X W G F σ ok r Q' := by
  cases r with
  | bad => exact h
  | ok a e =>
    intro v F' H' R s o
    refine k a e v F' H' R s o ?_
    have h' : PostE X W G F σ ok' (g a e) Q := h
    cases q : g a e with
    | bad => rw [q] at h'; exact h'
    | ok b e2 => rw [q] at h'; exact fun w F2 H2 R2 s2 o2 => h' w F2 H2 R2 (s.trans s2) o2
    | ex x e2 => rw [q] at h'; exact fun w dd F2 H2 R2 s2 o2 => h' w dd F2 H2 R2 (s.trans s2) o2
  | ex x e => exact h
abbrev PE1 (X : Cx) (W : WX) (G : Gd) (F : Hp) (σ : L2.St) (r : R A) (Q : VK) : Prop := PostE X W G F σ (fun F' a v => AOk X.K F' σ a v) r Q
/-- an expression, its meaning -/
structure DX (X : Cx) (W : WX) (e : Expr) (f : Ev A) : Prop where
  ex : ∃ t : TE, PE X e t ∧ ∀ (G : Gd) (en : En) (F H : Hp) (σ : L2.St) (Q : VK), Rel X.K G en F H σ → PE1 X W G F σ (f en) Q → t σ H Q
abbrev PA1 (X : Cx) (W : WX) (G : Gd) (F : Hp) (σ : L2.St) (r : R (List A)) (Q : List V → Hp → Prop) : Prop := PostE X W G F σ (fun F' a v => AsOk X.K F' σ a v) r Q
structure DA (X : Cx) (W : WX) (es : List Expr) (f : Ev (List A)) : Prop where
  ex : ∃ t : TA, PA X es t ∧ ∀ (G : Gd) (en : En) (F H : Hp) (σ : L2.St) (Q : List V → Hp → Prop), Rel X.K G en F H σ → PA1 X W G F σ (f en) Q → t σ H Q
abbrev PT1 (X : Cx) (W : WX) (G : Gd) (F : Hp) (σ : L2.St) (r : R Bool) (Q : Bool → Hp → Prop) : Prop := PostE X W G F σ (fun _ a v => a = v) r Q
structure DT (X : Cx) (W : WX) (e : Expr) (f : Ev Bool) : Prop where
  ex : ∃ t : TT, PT X e t ∧ ∀ (G : Gd) (en : En) (F H : Hp) (σ : L2.St) (Q : Bool → Hp → Prop), Rel X.K G en F H σ → PT1 X W G F σ (f en) Q → t σ H Q
structure DW (X : Cx) (W : WX) (e : Expr) (f : Ev Bool) : Prop where
  ex : ∃ t : TT, PW X e t ∧ ∀ (G : Gd) (en : En) (F H : Hp) (σ : L2.St) (Q : Bool → Hp → Prop), Rel X.K G en F H σ → PT1 X W G F σ (f en) Q → t σ H Q
/-- an expression that makes a new thing of one's own -/
def NewAt (G : Gd) (en : En) (K : PySem.W.Frag) (F H : Hp) (σ : L2.St) (d : D) (v : V) : Prop :=
  ∃ p, v = .ref p ∧ F p = none ∧ Own K F H p d ∧ G.H0 p = none ∧ ∀ (j : Nat) (b : Bool) (e : D), en[j]? = some (.ow b e) → σ[j]? ≠ some (some (.ref p))
def PostO (X : Cx) (W : WX) (G : Gd) (F : Hp) (σ : L2.St) : R D → VK → Prop
  | .bad, _ => False
  | .ok d e, Q => ∀ v F' H', Rel X.K G e F' H' σ → Same F F' → NewAt G e X.K F' H' σ d v → Q v H'
  | .ex x e, _ => ∀ cls dd F' H', Rel X.K G e F' H' σ → Same F F' → XOk X F' x cls dd → W cls dd σ H'
structure DO (X : Cx) (W : WX) (e : Expr) (f : Ev D) : Prop where
  ex : ∃ t : TE, PE X e t ∧ ∀ (G : Gd) (en : En) (F H : Hp) (σ : L2.St) (Q : VK), Rel X.K G en F H σ → PostO X W G F σ (f en) Q → t σ H Q

/-! ### meanings -/
def fin (o : Option D) (e : En) : R A := match o with
  | some d => .ok (.sh d) e
  | none => .bad
def eVar (i : Nat) : Ev A := fun e => match e[i]? with
  | some (.sh d) => .ok (.sh d) e
  | some (.ow _ _) => .ok (.bor i) e
  | _ => .bad
def eC (d : D) : Ev A := fun e => .ok (.sh d) e
def eUn (g : D → Option D) (fa : Ev A) : Ev A := fun e => (fa e).bind fun a e1 => fin ((res e1 a).bind g) e1
def eBin (g : D → D → Option D) (fa fb : Ev A) : Ev A := fun e => (fa e).bind fun a e1 => (fb e1).bind fun b e2 => fin ((res e2 a).bind fun x => (res e2 b).bind fun y => g x y) e2
def eNil : Ev (List A) := fun e => .ok [] e
def eCons (fa : Ev A) (fs : Ev (List A)) : Ev (List A) := fun e => (fa e).bind fun a e1 => (fs e1).bind fun as e2 => .ok (a :: as) e2
def eFn (g : List D → Option D) (fs : Ev (List A)) : Ev A := fun e => (fs e).bind fun as e1 => fin ((ress e1 as).bind g) e1
def eOwn (f : Ev D) : Ev A := fun e => (f e).bind fun d e1 => .ok (.sh d) e1
/-- frozen from now on -/
def hold1 (e : En) : A → Option (D × En)
  | .sh d => some (d, e)
  | .bor i => match e[i]? with
    | some (.sh d) => some (d, e)
    | some (.ow false d) => some (d, e.set i (.sh d))
    | _ => none
def holds : List A → En → Option (List D × En)
  | [], e => some ([], e)
  | a :: as, e => (hold1 e a).bind fun p => (holds as p.2).bind fun q => some (p.1 :: q.1, q.2)
def eHold (f : Ev A) : Ev D := fun e => (f e).bind fun a e1 => match hold1 e1 a with
  | some (d, e2) => .ok d e2
  | none => .bad
def eHolds (f : Ev (List A)) : Ev (List D) := fun e => (f e).bind fun a e1 => match holds a e1 with
  | some (d, e2) => .ok d e2
  | none => .bad
def small (n : Nat) : Bool := decide (n ≤ 1000000)
def eTup (f : Ev (List A)) : Ev A := fun e => (eHolds f e).bind fun ds e1 => if small ds.length then .ok (.sh (.tuple ds)) e1 else .bad
def oLst (f : Ev (List A)) : Ev D := fun e => (eHolds f e).bind fun ds e1 => if small ds.length then .ok (.list ds) e1 else .bad
def eIf (c : Ev Bool) (fa fb : Ev A) : Ev A := fun e => (c e).bind fun b e1 => if b = true then fa e1 else fb e1
def bOf : D → Option Bool
  | .bool b => some b
  | _ => none
def tOf (f : Ev A) : Ev Bool := fun e => (f e).bind fun a e1 => match (res e1 a).bind bOf with
  | some b => .ok b e1
  | none => .bad
def tAnd2 (fa fb : Ev Bool) : Ev Bool := fun e => (fa e).bind fun b e1 => if b = true then fb e1 else .ok false e1
def tOr2 (fa fb : Ev Bool) : Ev Bool := fun e => (fa e).bind fun b e1 => if b = true then .ok true e1 else fb e1
def tNo (fa : Ev Bool) : Ev Bool := fun e => (fa e).bind fun b e1 => .ok (!b) e1
def eAnd (fa fb : Ev A) : Ev A := fun e => (fa e).bind fun a e1 => match (res e1 a).bind bOf with
  | some true => fb e1
  | some false => .ok (.sh (.bool false)) e1
  | none => .bad
def eOr (fa fb : Ev A) : Ev A := fun e => (fa e).bind fun a e1 => match (res e1 a).bind bOf with
  | some true => .ok (.sh (.bool true)) e1
  | some false => fb e1
  | none => .bad
def eNot (fa : Ev A) : Ev A := fun e => (fa e).bind fun a e1 => match (res e1 a).bind bOf with
  | some b => .ok (.sh (.bool (!b))) e1
  | none => .bad

/-! ### operators by values -/
def OpD (K : PySem.W.Frag) (r : R2) (g : D → D → Option D) : Prop := ∀ (F H : Hp) (x y : V) (d e q : D) (Q : VK), Same F H → PRep K F H x d → PRep K F H y e → g d e = some q → (∀ v F' H', Grow F H F' H' → Rep K F' v q → Q v H') → r x y H Q
def UnD (K : PySem.W.Frag) (r : V → Hp → VK → Prop) (g : D → Option D) : Prop := ∀ (F H : Hp) (x : V) (d q : D) (Q : VK), Same F H → PRep K F H x d → g d = some q → (∀ v F' H', Grow F H F' H' → Rep K F' v q → Q v H') → r x H Q
def FnD (K : PySem.W.Frag) (r : List V → Hp → VK → Prop) (g : List D → Option D) : Prop := ∀ (F H : Hp) (xs : List V) (ds : List D) (q : D) (Q : VK), Same F H → PReps K F H xs ds → g ds = some q → (∀ v F' H', Grow F H F' H' → Rep K F' v q → Q v H') → r xs H Q
section
variable {X : Cx} {W : WX} {a b c : Expr} {pos : Pos} {fa fb : Ev A}
theorem fin_ok {G : Gd} {F F' H H' : Hp} {σ : L2.St} {en : En} {o : Option D} {d : D} {v : V} {Q : VK} (R : Rel X.K G en F H σ) (h : PE1 X W G F σ (fin o en) Q) (e : o = some d) (g : Grow F H F' H') (r : Rep X.K F' v d) : Q v H' := by
  subst e
  exact h v F' H' (R.grow g) g.f r
theorem fin_some {G : Gd} {F : Hp} {σ : L2.St} {en : En} {o : Option D} {Q : VK} (h : PE1 X W G F σ (fin o en) Q) : ∃ d, o = some d := by
  cases o with
  | none => exact h.elim
  | some d => exact ⟨d, rfl⟩
theorem dx_c {d : D} {v : V} (h : PE X a (tC v)) (r : ∀ F, Rep X.K F v d) : DX X W a (eC d) :=
  ⟨_, h, fun G en F H σ Q R q => q v F H R (.refl _) (r F)⟩
theorem dx_int {i : Int} {j : Nat} : DX X W (.Constant (.int i) j pos) (eC (.int i)) := dx_c pe_int fun _ => .int i
theorem dx_bl {i : Bool} {j : Nat} : DX X W (.Constant (.bool i) j pos) (eC (.bool i)) := dx_c pe_bl fun _ => .bl i
theorem dx_non {j : Nat} : DX X W (.Constant .none j pos) (eC .none) := dx_c pe_non fun _ => .non
theorem dx_str {i : Str} {j : Nat} : DX X W (.Constant (.str i) j pos) (eC (.str i)) := dx_c pe_str fun _ => .str i
theorem dx_var (i : Nat) {x : Str} (hN : X.N[i]? = some x := by rfl) (hv : Vis X.env.scope x := by first | exact Or.inl rfl | exact Or.inr (Or.inl rfl) | exact Or.inr (Or.inr rfl)) (hd : (x == ("__debug__" : Str)) = false := by decide)
    (hcd : (x == ("__classdict__" : Str)) = false := by decide) : DX X W (.Name x pos) (eVar i) := by
  refine ⟨_, pe_var hN hv hd hcd, fun G en F H σ Q R q => ?_⟩
  unfold eVar at q
  cases e : en[i]? with
  | none => rw [e] at q; exact q.elim
  | some s =>
    rw [e] at q
    cases s with
    | un => exact q.elim
    | sh d =>
      obtain ⟨v, h1, h2⟩ := R.shV e
      exact ⟨v, h1, q v F H R (.refl _) h2⟩
    | ow bb d =>
      obtain ⟨p, h1, _, _⟩ := R.owV e
      exact ⟨.ref p, h1, q (.ref p) F H R (.refl _) h1⟩
theorem dx_op {op : Operator} {r : R2} {g : D → D → Option D} (ho : OpR X (binaryOp op) r) (hg : OpD X.K r g) (ha : DX X W a fa) (hb : DX X W b fb) : DX X W (.BinOp a op b pos) (eBin g fa fb) := by
  obtain ⟨ta, pa, qa⟩ := ha.ex
  obtain ⟨tb, pb, qb⟩ := hb.ex
  refine ⟨_, pe_op ho pa pb, fun G en F H σ Q R q => qa G en F H σ _ R (q.bind fun x e1 v F1 H1 R1 s1 o1 q1 => qb G e1 F1 H1 σ _ R1 (q1.bind fun y e2 w F2 H2 R2 s2 o2 q2 => ?_))⟩
  obtain ⟨d, ed⟩ := fin_some q2
  obtain ⟨d1, e1', ed'⟩ := Option.bind_eq_some_iff.mp ed
  obtain ⟨d2, e2', ed''⟩ := Option.bind_eq_some_iff.mp ed'
  exact hg F2 H2 v w d1 d2 d Q R2.fh (res_ok R2 (o1.mono s2) e1') (res_ok R2 o2 e2') ed'' fun v F' H' g r => fin_ok R2 q2 ed g r
theorem dx_cmp {op : CmpOp} {r : R2} {g : D → D → Option D} (ho : OpR X (compareOp op) r) (hg : OpD X.K r g) (ha : DX X W a fa) (hb : DX X W b fb) (hm : behindInMarks op b = false) : DX X W (.Compare a [op] [b] pos) (eBin g fa fb) := by
  obtain ⟨ta, pa, qa⟩ := ha.ex
  obtain ⟨tb, pb, qb⟩ := hb.ex
  refine ⟨_, pe_cmpR ho pa pb hm, fun G en F H σ Q R q => qa G en F H σ _ R (q.bind fun x e1 v F1 H1 R1 s1 o1 q1 => qb G e1 F1 H1 σ _ R1 (q1.bind fun y e2 w F2 H2 R2 s2 o2 q2 => ?_))⟩
  obtain ⟨d, ed⟩ := fin_some q2
  obtain ⟨d1, e1', ed'⟩ := Option.bind_eq_some_iff.mp ed
  obtain ⟨d2, e2', ed''⟩ := Option.bind_eq_some_iff.mp ed'
  exact hg F2 H2 v w d1 d2 d Q R2.fh (res_ok R2 (o1.mono s2) e1') (res_ok R2 o2 e2') ed'' fun v F' H' g r => fin_ok R2 q2 ed g r
theorem dx_ix {r : R2} {g : D → D → Option D} (ho : IxR X r) (hg : OpD X.K r g) (ha : DX X W a fa) (hb : DX X W b fb) (hs : PlainIx b) : DX X W (.Subscript a b pos) (eBin g fa fb) := by
  obtain ⟨ta, pa, qa⟩ := ha.ex
  obtain ⟨tb, pb, qb⟩ := hb.ex
  refine ⟨_, pe_ix ho pa pb hs, fun G en F H σ Q R q => qa G en F H σ _ R (q.bind fun x e1 v F1 H1 R1 s1 o1 q1 => qb G e1 F1 H1 σ _ R1 (q1.bind fun y e2 w F2 H2 R2 s2 o2 q2 => ?_))⟩
  obtain ⟨d, ed⟩ := fin_some q2
  obtain ⟨d1, e1', ed'⟩ := Option.bind_eq_some_iff.mp ed
  obtain ⟨d2, e2', ed''⟩ := Option.bind_eq_some_iff.mp ed'
  exact hg F2 H2 v w d1 d2 d Q R2.fh (res_ok R2 (o1.mono s2) e1') (res_ok R2 o2 e2') ed'' fun v F' H' g r => fin_ok R2 q2 ed g r
theorem dx_un {op : UnaryOp} {r : V → Hp → VK → Prop} {g : D → Option D} (ho : UnR X (unaryOp op) r) (hg : UnD X.K r g) (ha : DX X W a fa) : DX X W (.UnaryOp op a pos) (eUn g fa) := by
  obtain ⟨ta, pa, qa⟩ := ha.ex
  refine ⟨_, pe_un ho pa, fun G en F H σ Q R q => qa G en F H σ _ R (q.bind fun x e1 v F1 H1 R1 s1 o1 q1 => ?_)⟩
  obtain ⟨d, ed⟩ := fin_some q1
  obtain ⟨d1, e1', ed'⟩ := Option.bind_eq_some_iff.mp ed
  exact hg F1 H1 v d1 d Q R1.fh (res_ok R1 o1 e1') ed' fun v F' H' g r => fin_ok R1 q1 ed g r
theorem da_nil : DA X W [] eNil := ⟨_, pa_nil, fun G en F H σ Q R q => q [] F H R (.refl _) rfl⟩
theorem da_cons {es : List Expr} {fs : Ev (List A)} (ha : DX X W a fa) (hr : DA X W es fs) (hs : starEach (a :: es) X.env = (false, eval a X.env) :: starEach es X.env := by rfl) : DA X W (a :: es) (eCons fa fs) := by
  obtain ⟨ta, pa, qa⟩ := ha.ex
  obtain ⟨tb, pb, qb⟩ := hr.ex
  refine ⟨_, pa_cons pa pb hs, fun G en F H σ Q R q => qa G en F H σ _ R (q.bind fun x e1 v F1 H1 R1 s1 o1 q1 => qb G e1 F1 H1 σ _ R1 (q1.bind fun y e2 w F2 H2 R2 s2 o2 q2 => ?_))⟩
  exact q2 (v :: w) F2 H2 R2 (.refl _) ⟨v, w, rfl, o1.mono s2, o2⟩
theorem dx_fnB {x : Str} {id : String} {r : List V → Hp → VK → Prop} {g : List D → Option D} {es : List Expr} {fs : Ev (List A)} {p : Pos} (hc : CallR X (.builtin id) r) (hg' : FnD X.K r g) (hg : Gl X x) (hm : X.mg x = none) (hv : bootBuiltins x = some (.builtin id)) (ha : DA X W (a :: es) fs) (hn : x ≠ "__name__" := by decide) (hdb : (x == ("__debug__" : Str)) = false := by decide)
    (he : starEach (a :: es) X.env = (false, eval a X.env) :: starEach es X.env := by rfl) (hpl : (backTo pos (starEach es X.env)).any (·.1) = false := by rfl) : DX X W (.Call (.Name x p) (a :: es) [] pos) (eFn g fs) := by
  obtain ⟨ta, pa, qa⟩ := ha.ex
  refine ⟨_, pe_callB hc hg hm hv pa hn hdb he hpl, fun G en F H σ Q R q => qa G en F H σ _ R (q.bind fun x e1 v F1 H1 R1 s1 o1 q1 => ?_)⟩
  obtain ⟨d, ed⟩ := fin_some q1
  obtain ⟨d1, e1', ed'⟩ := Option.bind_eq_some_iff.mp ed
  exact hg' F1 H1 v d1 d Q R1.fh (ress_ok R1 o1 e1') ed' fun v F' H' g r => fin_ok R1 q1 ed g r
theorem dx_fnT {x : Str} {T : String} {r : List V → Hp → VK → Prop} {g : List D → Option D} {es : List Expr} {fs : Ev (List A)} {p : Pos} (hc : CallR X (.type T) r) (hg' : FnD X.K r g) (hg : Gl X x) (hm : X.mg x = none) (hv : bootBuiltins x = some (.type T)) (ha : DA X W (a :: es) fs) (hn : x ≠ "__name__" := by decide) (hdb : (x == ("__debug__" : Str)) = false := by decide)
    (he : starEach (a :: es) X.env = (false, eval a X.env) :: starEach es X.env := by rfl) (hpl : (backTo pos (starEach es X.env)).any (·.1) = false := by rfl) : DX X W (.Call (.Name x p) (a :: es) [] pos) (eFn g fs) := by
  obtain ⟨ta, pa, qa⟩ := ha.ex
  refine ⟨_, pe_callTy hc hg hm hv pa hn hdb he hpl, fun G en F H σ Q R q => qa G en F H σ _ R (q.bind fun x e1 v F1 H1 R1 s1 o1 q1 => ?_)⟩
  obtain ⟨d, ed⟩ := fin_some q1
  obtain ⟨d1, e1', ed'⟩ := Option.bind_eq_some_iff.mp ed
  exact hg' F1 H1 v d1 d Q R1.fh (ress_ok R1 o1 e1') ed' fun v F' H' g r => fin_ok R1 q1 ed g r

/-! ### freezing, displays -/
theorem hold1_ok {G : Gd} {F H : Hp} {σ : L2.St} {en e' : En} {o : A} {v : V} {d : D} (R : Rel X.K G en F H σ) (h : AOk X.K F σ o v) (e : hold1 en o = some (d, e')) : ∃ F', Rel X.K G e' F' H σ ∧ Same F F' ∧ Rep X.K F' v d := by
  cases o with
  | sh d' => cases e; exact ⟨F, R, .refl _, h⟩
  | bor i =>
    unfold hold1 at e
    simp only at e
    have hv : σ[i]? = some (some v) := h
    split at e
    · rename_i d' h1
      cases e
      obtain ⟨v', h2, h3⟩ := R.shV h1
      rw [hv] at h2
      cases h2
      exact ⟨F, R, .refl _, h3⟩
    · rename_i d' h1
      cases e
      obtain ⟨F', v', R', s', h2, h3⟩ := R.freeze h1
      rw [hv] at h2
      cases h2
      exact ⟨F', R', s', h3⟩
    · cases e
theorem holds_ok {G : Gd} {H : Hp} {σ : L2.St} : ∀ {os : List A} {F : Hp} {en e' : En} {vs : List V} {ds : List D}, Rel X.K G en F H σ → AsOk X.K F σ os vs → holds os en = some (ds, e') → ∃ F', Rel X.K G e' F' H σ ∧ Same F F' ∧ Reps X.K F' vs ds
  | [], F, en, e', vs, ds, R, h, e => by
    cases e
    cases (show vs = [] from h)
    exact ⟨F, R, .refl _, .nil⟩
  | o :: os, F, en, e', vs, ds, R, ⟨v, ws, ev, h, t⟩, e => by
    unfold holds at e
    obtain ⟨⟨d, e1⟩, h1, e⟩ := Option.bind_eq_some_iff.mp e
    obtain ⟨⟨ds', e2⟩, h2, e⟩ := Option.bind_eq_some_iff.mp e
    cases e
    obtain ⟨F1, R1, s1, r1⟩ := hold1_ok R h h1
    obtain ⟨F2, R2, s2, r2⟩ := holds_ok R1 (t.mono s1) h2
    exact ⟨F2, R2, s1.trans s2, by rw [ev]; exact .cons (r1.mono s2) r2⟩
theorem postE_hold {G : Gd} {F H : Hp} {σ : L2.St} {en : En} {o : A} {v : V} {Q' : Prop} (R : Rel X.K G en F H σ) (h : AOk X.K F σ o v)
    (k : ∀ d e2 F', hold1 en o = some (d, e2) → Rel X.K G e2 F' H σ → Same F F' → Rep X.K F' v d → Q') (n : hold1 en o ≠ none) : Q' := by
  cases e : hold1 en o with
  | none => exact (n e).elim
  | some p =>
    obtain ⟨d, e2⟩ := p
    obtain ⟨F', R', s', r'⟩ := hold1_ok R h e
    exact k d e2 F' e R' s' r'
theorem DO.dx {f : Ev D} (h : DO X W a f) : DX X W a (eOwn f) := by
  obtain ⟨t, p, q⟩ := h.ex
  refine ⟨t, p, fun G en F H σ Q R k => q G en F H σ Q R ?_⟩
  unfold eOwn at k
  cases e : f en with
  | bad => rw [e] at k; exact k
  | ex x e2 => rw [e] at k; exact k
  | ok d e1 =>
    rw [e] at k
    rintro v F' H' R' s' ⟨p, rfl, n, o, h0, nd⟩
    obtain ⟨ob, ho⟩ := o.some
    -- the place that nobody has: freeze by the same road as a place's own
    have sF : Same F' (upd F' p ob) := fun b u z => by
      have ne : b ≠ p := fun y => by rw [y, n] at z; cases z
      rw [upd_ne ne]; exact z
    have rp : Rep X.K (upd F' p ob) (.ref p) d := o.rep sF (by rw [upd_same, ho])
    refine k (.ref p) (upd F' p ob) H' ?_ (s'.trans sF) rp
    exact {
      len := R'.len
      sl := fun j s z => by
        have y := R'.sl j s z
        cases s with
        | un => trivial
        | sh d => obtain ⟨v, g1, g2⟩ := y; exact ⟨v, g1, g2.mono sF⟩
        | ow bb d' =>
          obtain ⟨p', g1, g2, g3⟩ := y
          have ne : p' ≠ p := fun w => nd j bb d' z (by rw [← w]; exact join_some g1)
          exact ⟨p', g1, by rw [upd_ne ne]; exact g2, g3.mono sF rfl⟩
      dj := R'.dj
      mn := R'.mn
      fh := fun b u z => by
        by_cases y : b = p
        · rw [y, upd_same] at z; cases z; rw [y]; exact ho
        · rw [upd_ne y] at z; exact R'.fh _ _ z
      f0 := R'.f0.trans sF
      nw := fun b u z => by
        by_cases y : b = p
        · rw [y]; exact .inr h0
        · rw [upd_ne y] at z; exact R'.nw b u z
      bs := R'.bs
      as := R'.as
      ar := R'.ar }
theorem line_small {n : Nat} (h : small n = true) : n ≤ sizeLine := Nat.le_trans (of_decide_eq_true h) (by rw [sizeLine_eq]; decide)
theorem line_smallLt {n : Nat} (h : small n = true) : n < sizeLine := Nat.lt_of_le_of_lt (of_decide_eq_true h) (by rw [sizeLine_eq]; decide)
/-- a new thing that is not frozen -/
theorem newAt_of {G : Gd} {F H : Hp} {σ : L2.St} {en : En} {d : D} {p : Addr} {o : HO} (R : Rel X.K G en F H σ) (n : H p = none) (ow : Own X.K F (upd H p o) p d) : Rel X.K G en F (upd H p o) σ ∧ NewAt G en X.K F (upd H p o) σ d (.ref p) := by
  refine ⟨R.newO n, p, rfl, R.fh.free n, ow, R.free0 n, fun j b e z y => ?_⟩
  obtain ⟨p', h1, _, h3⟩ := R.owV z
  rw [y] at h1
  cases h1
  obtain ⟨u, hu⟩ := h3.some
  rw [n] at hu; cases hu
theorem dx_tup {es : List Expr} {fs : Ev (List A)} {k : Nat} (h : DA X W es fs) : DX X W (.Tuple es k pos) (eTup fs) := by
  obtain ⟨t, p, q⟩ := h.ex
  refine ⟨_, pe_tup p, fun G en F H σ Q R k => q G en F H σ _ R ?_⟩
  unfold eTup eHolds at k
  have k' : PE1 X W G F σ ((fs en).bind fun a e1 => (match holds a e1 with | some (d, e2) => (.ok d e2 : M.R (List D)) | none => .bad).bind fun ds e1 => if small ds.length then .ok (.sh (.tuple ds)) e1 else .bad) Q := by
    cases z : fs en with
    | bad => rw [z] at k; exact k
    | ok a e1 => rw [z] at k; exact k
    | ex x e1 => rw [z] at k; exact k
  refine k'.bind fun as e1 vs F1 H1 R1 s1 o1 q1 => ?_
  cases z : holds as e1 with
  | none => rw [z] at q1; exact q1.elim
  | some pr =>
    obtain ⟨ds, e2⟩ := pr
    rw [z] at q1
    simp only [M.R.bind] at q1
    obtain ⟨F2, R2, s2, r2⟩ := holds_ok R1 o1 z
    by_cases hz : small ds.length = true
    · rw [if_pos hz] at q1
      refine ⟨by rw [r2.length]; exact line_small hz, fun p np => ?_⟩
      have g := Grow.alloc (o := .tup vs) R2.fh np
      exact q1 (.ref p) _ _ (R2.grow g) (s2.trans g.f) (.tup (.inl (.inl upd_same)) (r2.mono g.f))
    · rw [if_neg hz] at q1; exact q1.elim
theorem do_lst {es : List Expr} {fs : Ev (List A)} (h : DA X W es fs) : DO X W (.List es pos) (oLst fs) := by
  obtain ⟨t, p, q⟩ := h.ex
  refine ⟨_, pe_lst p, fun G en F H σ Q R k => q G en F H σ _ R ?_⟩
  unfold oLst eHolds at k
  have k' : PostO X W G F σ ((fs en).bind fun a e1 => (match holds a e1 with | some (d, e2) => (.ok d e2 : M.R (List D)) | none => .bad).bind fun ds e1 => if small ds.length then .ok (.list ds) e1 else .bad) Q := by
    cases z : fs en with
    | bad => rw [z] at k; exact k
    | ok a e1 => rw [z] at k; exact k
    | ex x e1 => rw [z] at k; exact k
  cases y : fs en with
  | bad => rw [y] at k'; exact k'
  | ex x e1 => rw [y] at k'; exact k'
  | ok as e1 =>
    rw [y] at k'
    intro vs F1 H1 R1 s1 o1
    simp only [M.R.bind] at k'
    cases z : holds as e1 with
    | none => rw [z] at k'; exact k'.elim
    | some pr =>
      obtain ⟨ds, e2⟩ := pr
      rw [z] at k'
      simp only at k'
      obtain ⟨F2, R2, s2, r2⟩ := holds_ok R1 o1 z
      by_cases hz : small ds.length = true
      · rw [if_pos hz] at k'
        refine ⟨by rw [r2.length]; exact line_small hz, fun p np => ?_⟩
        obtain ⟨R3, n3⟩ := newAt_of (d := .list ds) (o := .lst vs) R2 np ⟨vs, upd_same, r2⟩
        exact k' (.ref p) F2 _ R3 (s1.trans s2) n3
      · rw [if_neg hz] at k'; exact k'.elim

/-! ### tests -/
theorem res_bool {G : Gd} {F H : Hp} {σ : L2.St} {en : En} {o : A} {v : V} {k : Bool} (R : Rel X.K G en F H σ) (h : AOk X.K F σ o v) (e : (res en o).bind bOf = some k) : v = .bl k := by
  obtain ⟨d, e1, e2⟩ := Option.bind_eq_some_iff.mp e
  cases d with
  | bool b =>
    cases e2
    exact (res_ok R h e1).bool
  | _ => cases e2
theorem dt_val {f : Ev A} (h : DX X W a f) (he : ∀ whole, isTrue a X.env whole = (do let v ← whole; standAt a.pos; holding [v] (truthy v)) := by intro _; rfl) : DT X W a (tOf f) := by
  obtain ⟨t, p, q⟩ := h.ex
  refine ⟨_, pt_val p he, fun G en F H σ Q R k => q G en F H σ _ R (k.bind fun o e1 v F1 H1 R1 s1 o1 q1 => ?_)⟩
  cases z : (res e1 o).bind bOf with
  | none => rw [z] at q1; exact q1.elim
  | some b => rw [z] at q1; exact ⟨b, res_bool R1 o1 z, q1 b F1 H1 R1 (.refl _) rfl⟩
theorem dt_cmp {op : CmpOp} {r : R2} {g : D → D → Option D} (ho : OpR X (compareOp op) r) (hg : OpD X.K r g) (ha : DX X W a fa) (hb : DX X W b fb) (hm : behindInMarks op b = false) (hB : ∀ x y q, g x y = some q → ∃ k, q = .bool k) : DT X W (.Compare a [op] [b] pos) (tOf (eBin g fa fb)) := by
  obtain ⟨ta, pa, qa⟩ := ha.ex
  obtain ⟨tb, pb, qb⟩ := hb.ex
  refine ⟨_, pt_cmpR ho pa pb hm, fun G en F H σ Q R q => ?_⟩
  have q' : PT1 X W G F σ ((fa en).bind fun x e1 => (fb e1).bind fun y e2 => (fin ((res e2 x).bind fun x => (res e2 y).bind fun y => g x y) e2).bind fun a e1 => match (res e1 a).bind bOf with | some b => .ok b e1 | none => .bad) Q := by
    unfold tOf eBin at q
    cases z : fa en with
    | bad => rw [z] at q; exact q
    | ex x e1 => rw [z] at q; exact q
    | ok x e1 =>
      rw [z] at q
      simp only [M.R.bind] at q ⊢
      cases z2 : fb e1 with
      | bad => rw [z2] at q; exact q
      | ex x e1 => rw [z2] at q; exact q
      | ok x e1 => rw [z2] at q; exact q
  refine qa G en F H σ _ R (q'.bind fun x e1 v F1 H1 R1 s1 o1 q1 => qb G e1 F1 H1 σ _ R1 (q1.bind fun y e2 w F2 H2 R2 s2 o2 q2 => ?_))
  cases ed : ((res e2 x).bind fun x => (res e2 y).bind fun y => g x y) with
  | none => rw [ed] at q2; exact q2.elim
  | some d =>
    rw [ed] at q2
    obtain ⟨d1, e1', ed'⟩ := Option.bind_eq_some_iff.mp ed
    obtain ⟨d2, e2', ed''⟩ := Option.bind_eq_some_iff.mp ed'
    obtain ⟨k, rfl⟩ := hB _ _ _ ed''
    refine hg F2 H2 v w d1 d2 _ _ R2.fh (res_ok R2 (o1.mono s2) e1') (res_ok R2 o2 e2') ed'' fun v F' H' g r => ?_
    cases r
    exact ⟨k, rfl, q2 k F' H' (R2.grow g) g.f rfl⟩
theorem DW.dt {f : Ev Bool} (h : DW X W a f) : DT X W a f := by
  obtain ⟨t, p, q⟩ := h.ex
  exact ⟨t, p.pt, q⟩
theorem dw_and1 {f : Ev Bool} (h : DT X W a f) : DW X W (.BoolOp .And [a] pos) f := by
  obtain ⟨t, p, q⟩ := h.ex
  exact ⟨t, pw_and1 p, q⟩
theorem dw_or1 {f : Ev Bool} (h : DT X W a f) : DW X W (.BoolOp .Or [a] pos) f := by
  obtain ⟨t, p, q⟩ := h.ex
  exact ⟨t, pw_or1 p, q⟩
theorem dw_and {rest : List Expr} {f g : Ev Bool} (ha : DT X W a f) (hb : DW X W (.BoolOp .And (b :: rest) pos) g) : DW X W (.BoolOp .And (a :: b :: rest) pos) (tAnd2 f g) := by
  obtain ⟨ta, pa, qa⟩ := ha.ex
  obtain ⟨tb, pb, qb⟩ := hb.ex
  refine ⟨_, pw_and pa pb, fun G en F H σ Q R k => qa G en F H σ _ R (k.bind fun x e1 v F1 H1 R1 s1 o1 q1 => ?_)⟩
  subst o1
  by_cases z : x = true
  · rw [if_pos z] at q1 ⊢; exact qb G e1 F1 H1 σ _ R1 q1
  · rw [if_neg z] at q1 ⊢; exact q1 false F1 H1 R1 (.refl _) rfl
theorem dw_or {rest : List Expr} {f g : Ev Bool} (ha : DT X W a f) (hb : DW X W (.BoolOp .Or (b :: rest) pos) g) : DW X W (.BoolOp .Or (a :: b :: rest) pos) (tOr2 f g) := by
  obtain ⟨ta, pa, qa⟩ := ha.ex
  obtain ⟨tb, pb, qb⟩ := hb.ex
  refine ⟨_, pw_or pa pb, fun G en F H σ Q R k => qa G en F H σ _ R (k.bind fun x e1 v F1 H1 R1 s1 o1 q1 => ?_)⟩
  subst o1
  by_cases z : x = true
  · rw [if_pos z] at q1 ⊢; exact q1 true F1 H1 R1 (.refl _) rfl
  · rw [if_neg z] at q1 ⊢; exact qb G e1 F1 H1 σ _ R1 q1
theorem dt_not {f : Ev Bool} (h : DT X W a f) : DT X W (.UnaryOp .Not a pos) (tNo f) := by
  obtain ⟨t, p, q⟩ := h.ex
  refine ⟨_, pt_not p, fun G en F H σ Q R k => q G en F H σ _ R (k.bind fun x e1 v F1 H1 R1 s1 o1 q1 => ?_)⟩
  subst o1
  exact q1 _ F1 H1 R1 (.refl _) rfl
theorem dx_ifExp {fc : Ev Bool} (hc : DT X W c fc) (ha : DX X W a fa) (hb : DX X W b fb) : DX X W (.IfExp c a b pos) (eIf fc fa fb) := by
  obtain ⟨tc, pc, qc⟩ := hc.ex
  obtain ⟨ta, pa, qa⟩ := ha.ex
  obtain ⟨tb, pb, qb⟩ := hb.ex
  refine ⟨_, pe_ifExp pc pa pb, fun G en F H σ Q R k => qc G en F H σ _ R (k.bind fun x e1 v F1 H1 R1 s1 o1 q1 => ?_)⟩
  subst o1
  by_cases z : x = true
  · rw [if_pos z] at q1 ⊢; exact qa G e1 F1 H1 σ _ R1 q1
  · rw [if_neg z] at q1 ⊢; exact qb G e1 F1 H1 σ _ R1 q1
theorem dx_one {op : BoolOp} (h : DX X W a fa) : DX X W (.BoolOp op [a] pos) fa := by
  obtain ⟨t, p, q⟩ := h.ex
  exact ⟨t, pe_one p, q⟩
theorem dx_and {rest : List Expr} (ha : DX X W a fa) (hb : DX X W (.BoolOp .And (b :: rest) pos) fb) : DX X W (.BoolOp .And (a :: b :: rest) pos) (eAnd fa fb) := by
  obtain ⟨ta, pa, qa⟩ := ha.ex
  obtain ⟨tb, pb, qb⟩ := hb.ex
  refine ⟨_, pe_and pa pb, fun G en F H σ Q R k => qa G en F H σ _ R (k.bind fun x e1 v F1 H1 R1 s1 o1 q1 => ?_)⟩
  cases z : (res e1 x).bind bOf with
  | none => rw [z] at q1; exact q1.elim
  | some b =>
    rw [z] at q1
    refine ⟨b, res_bool R1 o1 z, ?_⟩
    cases b with
    | true => rw [if_pos rfl]; exact qb G e1 F1 H1 σ _ R1 q1
    | false => rw [if_neg Bool.false_ne_true]; exact q1 _ F1 H1 R1 (.refl _) (.bl false)
theorem dx_or {rest : List Expr} (ha : DX X W a fa) (hb : DX X W (.BoolOp .Or (b :: rest) pos) fb) : DX X W (.BoolOp .Or (a :: b :: rest) pos) (eOr fa fb) := by
  obtain ⟨ta, pa, qa⟩ := ha.ex
  obtain ⟨tb, pb, qb⟩ := hb.ex
  refine ⟨_, pe_or pa pb, fun G en F H σ Q R k => qa G en F H σ _ R (k.bind fun x e1 v F1 H1 R1 s1 o1 q1 => ?_)⟩
  cases z : (res e1 x).bind bOf with
  | none => rw [z] at q1; exact q1.elim
  | some b =>
    rw [z] at q1
    refine ⟨b, res_bool R1 o1 z, ?_⟩
    cases b with
    | true => rw [if_pos rfl]; exact q1 _ F1 H1 R1 (.refl _) (.bl true)
    | false => rw [if_neg Bool.false_ne_true]; exact qb G e1 F1 H1 σ _ R1 q1
theorem dx_not (h : DX X W a fa) : DX X W (.UnaryOp .Not a pos) (eNot fa) := by
  obtain ⟨t, p, q⟩ := h.ex
  refine ⟨_, pe_not p, fun G en F H σ Q R k => q G en F H σ _ R (k.bind fun x e1 v F1 H1 R1 s1 o1 q1 => ?_)⟩
  cases z : (res e1 x).bind bOf with
  | none => rw [z] at q1; exact q1.elim
  | some b =>
    rw [z] at q1
    exact ⟨b, res_bool R1 o1 z, q1 _ F1 H1 R1 (.refl _) (.bl _)⟩
end
end M
set_option Elab.async false
set_option linter.all false
set_option maxRecDepth 100000
set_option autoImplicit false
/-! M3: statements, loops, calls. -/
namespace M
open PySem PySem.Spec PyProof.Rows L2

inductive SR where
  | bad
  | nx (e : En)
  | bk (e : En)
  | ct (e : En)
  | rt (o : Bool) (d : D) (e : En)
  | ex (x : Xn) (e : En)
def SR.bind (r : SR) (g : En → SR) : SR := match r with
  | .nx e => g e
  | r => r
/-- behind an expression -/
def R.st {α : Type} (r : R α) (g : α → En → SR) : SR := match r with
  | .bad => .bad
  | .ok a e => g a e
  | .ex x e => .ex x e
def RtOk (K : PySem.W.Frag) (G : Gd) (e : En) (F H : Hp) (σ : L2.St) (o : Bool) (d : D) (v : V) : Prop := if o = true then NewAt G e K F H σ d v else Rep K F v d
def PostS (X : Cx) (W : WX) (G : Gd) (F : Hp) (r : SR) (D : Ends) : Prop := match r with
  | .bad => False
  | .nx e => ∀ F' H' σ', Rel X.K G e F' H' σ' → Same F F' → D.nx σ' H'
  | .bk e => ∀ F' H' σ', Rel X.K G e F' H' σ' → Same F F' → D.bk σ' H'
  | .ct e => ∀ F' H' σ', Rel X.K G e F' H' σ' → Same F F' → D.ct σ' H'
  | .rt o d e => ∀ v F' H' σ', Rel X.K G e F' H' σ' → Same F F' → RtOk X.K G e F' H' σ' o d v → D.rt v H'
  | .ex x e => ∀ cls dd F' H' σ', Rel X.K G e F' H' σ' → Same F F' → XOk X F' x cls dd → W cls dd σ' H'
theorem PostS.mono {X : Cx} {W : WX} {G : Gd} {F F' : Hp} {r : SR} {D : Ends} (h : PostS X W G F r D) (s : Same F F') : PostS X W G F' r D := by
  cases r with
  | bad => exact h
  | nx e => exact fun F2 H2 σ2 R2 s2 => h F2 H2 σ2 R2 (s.trans s2)
  | bk e => exact fun F2 H2 σ2 R2 s2 => h F2 H2 σ2 R2 (s.trans s2)
  | ct e => exact fun F2 H2 σ2 R2 s2 => h F2 H2 σ2 R2 (s.trans s2)
  | rt o d e => exact fun v F2 H2 σ2 R2 s2 o2 => h v F2 H2 σ2 R2 (s.trans s2) o2
  | ex x e => exact fun c dd F2 H2 σ2 R2 s2 o2 => h c dd F2 H2 σ2 R2 (s.trans s2) o2
structure DS (X : Cx) (W : WX) (st : Stmt) (f : En → SR) : Prop where
  ex : ∃ t : TS, PS X st t ∧ ∀ (G : Gd) (en : En) (F H : Hp) (σ : L2.St) (D : Ends), Rel X.K G en F H σ → PostS X W G F (f en) D → t D σ H
structure DSs (X : Cx) (W : WX) (sts : List Stmt) (f : En → SR) : Prop where
  ex : ∃ t : TS, PSs X sts t ∧ ∀ (G : Gd) (en : En) (F H : Hp) (σ : L2.St) (D : Ends), Rel X.K G en F H σ → PostS X W G F (f en) D → t D σ H
/-- from an expression's result on -/
theorem PostS.of {X : Cx} {W : WX} {G : Gd} {F : Hp} {σ : L2.St} {α β : Type} {ok : Hp → α → β → Prop} {r : R α} {g : α → En → SR} {D : Ends} {Q' : β → Hp → Prop}
    (h : PostS X W G F (r.st g) D) (k : ∀ a e v F' H', Rel X.K G e F' H' σ → Same F F' → ok F' a v → PostS X W G F' (g a e) D → Q' v H') : PostE X W G F σ ok r Q' := by
  cases r with
  | bad => exact h
  | ok a e => exact fun v F' H' R s o => k a e v F' H' R s o (PostS.mono h s)
  | ex x e => exact fun c dd F' H' R s o => h c dd F' H' σ R s o

def sNil : En → SR := fun e => .nx e
def sSeq (f g : En → SR) : En → SR := fun e => (f e).bind g
def sIf (c : Ev Bool) (f g : En → SR) : En → SR := fun e => (c e).st fun b e1 => if b = true then f e1 else g e1
def sExpr (f : Ev A) : En → SR := fun e => (f e).st fun _ e1 => .nx e1
def sRet (f : Ev A) : En → SR := fun e => (eHold f e).st fun d e1 => .rt false d e1
def sRetO (f : Ev D) : En → SR := fun e => (f e).st fun d e1 => .rt true d e1
def sRetN : En → SR := fun e => .rt false .none e
/-- return of a name: what is one's own is handed on -/
def sRetV (i : Nat) : En → SR := fun e => match e[i]? with
  | some (.sh d) => .rt false d e
  | some (.ow false d) => .rt true d (e.set i .un)
  | _ => .bad
abbrev Gt := D → En → Option En
def gN (i : Nat) : Gt := fun d e => some (e.set i (.sh d))
def gTs : List Gt → List D → En → Option En
  | [], [], e => some e
  | g :: gs, d :: ds, e => (g d e).bind fun e1 => gTs gs ds e1
  | _, _, _ => none
def gT (gs : List Gt) : Gt := fun d e => match d with
  | .tuple ds => gTs gs ds e
  | _ => none
def sAsg (g : Gt) (f : Ev A) : En → SR := fun e => (eHold f e).st fun d e1 => match g d e1 with
  | some e2 => .nx e2
  | none => .bad
def sSetO (i : Nat) (f : Ev D) : En → SR := fun e => (f e).st fun d e1 => .nx (e1.set i (.ow false d))
def sAug (i : Nat) (g : D → D → Option D) (f : Ev A) : En → SR := fun e => match e[i]? with
  | some (.sh x) => (f e).st fun a e1 => match (res e1 a).bind fun y => g x y with
    | some z => .nx (e1.set i (.sh z))
    | none => .bad
  | _ => .bad
def forD (g : Gt) (body : En → SR) : List D → En → SR
  | [], e => .nx e
  | d :: ds, e => match g d e with
    | none => .bad
    | some e1 => match body e1 with
      | .nx e2 => forD g body ds e2
      | .ct e2 => forD g body ds e2
      | .bk e2 => .nx e2
      | r => r
def sFor (fi : Ev (List D)) (g : Gt) (body : En → SR) : En → SR := fun e => (fi e).st fun ds e1 => forD g body ds e1
def whileD (c : Ev Bool) (body : En → SR) : Nat → En → SR
  | 0, _ => .bad
  | n + 1, e => (c e).st fun b e1 => if b = true then (match body e1 with
      | .nx e2 => whileD c body n e2
      | .ct e2 => whileD c body n e2
      | .bk e2 => .nx e2
      | r => r) else .nx e1
open Classical in
noncomputable def sWhile (c : Ev Bool) (body : En → SR) : En → SR := fun e => if h : ∃ n, whileD c body n e ≠ .bad then whileD c body h.choose e else .bad
theorem whileD_mono {c : Ev Bool} {body : En → SR} : ∀ {n m : Nat} {e : En}, n ≤ m → whileD c body n e ≠ .bad → whileD c body m e = whileD c body n e
  | 0, _, _, _, h => (h rfl).elim
  | n + 1, 0, _, h, _ => absurd h (by omega)
  | n + 1, m + 1, e, h, hb => by
    unfold whileD at hb ⊢
    cases q : c e with
    | bad => rfl
    | ex x e1 => rfl
    | ok b e1 =>
      rw [q] at hb
      simp only [R.st] at hb ⊢
      by_cases z : b = true
      · rw [if_pos z] at hb ⊢
        rw [if_pos z]
        cases y : body e1 with
        | nx e2 => rw [y] at hb; exact whileD_mono (by omega) hb
        | ct e2 => rw [y] at hb; exact whileD_mono (by omega) hb
        | _ => rfl
      · rw [if_neg z, if_neg z]
theorem sWhile_eq {c : Ev Bool} {body : En → SR} {n : Nat} {e : En} (h : whileD c body n e ≠ .bad) : sWhile c body e = whileD c body n e := by
  have ex : ∃ n, whileD c body n e ≠ .bad := ⟨n, h⟩
  unfold sWhile
  rw [dif_pos ex]
  rcases Nat.le_total ex.choose n with z | z
  · exact (whileD_mono z ex.choose_spec).symm
  · exact whileD_mono z h
section
variable {X : Cx} {W : WX} {a b c : Expr} {pos : Pos} {fa fb : Ev A} {st : Stmt} {rest : List Stmt} {f g : En → SR}
theorem dss_nil : DSs X W [] sNil := ⟨_, pss_nil, fun G en F H σ D R h => h F H σ R (.refl _)⟩
theorem post_seq {G : Gd} {F : Hp} {r : SR} {g : En → SR} {D : Ends} {u : L2.St → Hp → Prop} (h : PostS X W G F (r.bind g) D) (k : ∀ e F' H' σ', Rel X.K G e F' H' σ' → Same F F' → PostS X W G F' (g e) D → u σ' H') : PostS X W G F r { D with nx := u } := by
  cases r with
  | nx e => exact fun F' H' σ' R s => k e F' H' σ' R s (PostS.mono h s)
  | _ => exact h
theorem dss_cons (h1 : DS X W st f) (h2 : DSs X W rest g) : DSs X W (st :: rest) (sSeq f g) := by
  obtain ⟨t, p, q⟩ := h1.ex
  obtain ⟨u, p2, q2⟩ := h2.ex
  exact ⟨_, pss_cons p p2, fun G en F H σ D R h => q G en F H σ _ R (post_seq h fun e F' H' σ' R' s' h' => q2 G e F' H' σ' D R' h')⟩
theorem dss_one (h1 : DS X W st f) : DSs X W [st] f := by
  obtain ⟨t, p, q⟩ := h1.ex
  exact ⟨_, pss_one p, q⟩
theorem ds_pass : DS X W (.Pass pos) sNil := ⟨_, ps_pass, fun G en F H σ D R h => h F H σ R (.refl _)⟩
theorem ds_break : DS X W (.Break pos) (fun e => .bk e) := ⟨_, ps_break, fun G en F H σ D R h => h F H σ R (.refl _)⟩
theorem ds_continue : DS X W (.Continue pos) (fun e => .ct e) := ⟨_, ps_continue, fun G en F H σ D R h => h F H σ R (.refl _)⟩
theorem ds_expr (ha : DX X W a fa) (hs : swapsWith a none pos.line X.env = pure false := by rfl) : DS X W (.Expr a pos) (sExpr fa) := by
  obtain ⟨t, p, q⟩ := ha.ex
  exact ⟨_, ps_expr p hs, fun G en F H σ D R h => q G en F H σ _ R (h.of fun a e v F' H' R' s' o' h' => h' F' H' σ R' (.refl _))⟩
theorem ds_if {fc : Ev Bool} {a b : List Stmt} (hc : DT X W c fc) (ha : DSs X W a f) (hb : DSs X W b g) : DS X W (.If c a b pos) (sIf fc f g) := by
  obtain ⟨t, p, q⟩ := hc.ex
  obtain ⟨t1, p1, q1⟩ := ha.ex
  obtain ⟨t2, p2, q2⟩ := hb.ex
  refine ⟨_, ps_if p p1 p2, fun G en F H σ D R h => q G en F H σ _ R (h.of fun x e v F' H' R' s' o' h' => ?_)⟩
  subst o'
  by_cases z : x = true
  · rw [if_pos z] at h' ⊢; exact q1 G e F' H' σ D R' h'
  · rw [if_neg z] at h' ⊢; exact q2 G e F' H' σ D R' h'
/-- an expression's value, frozen -/
theorem hold_run {f : Ev A} {t : TE} {G : Gd} {en : En} {F H : Hp} {σ : L2.St} {Q : VK} (q : ∀ (G : Gd) (en : En) (F H : Hp) (σ : L2.St) (Q : VK), Rel X.K G en F H σ → PE1 X W G F σ (f en) Q → t σ H Q) (R0 : Rel X.K G en F H σ)
    (h : PostE X W G F σ (fun F' d v => Rep X.K F' v d) (eHold f en) Q) : t σ H Q := by
  refine q G en F H σ Q R0 ?_
  unfold eHold at h
  cases z : f en with
  | bad => rw [z] at h; exact h
  | ex x e => rw [z] at h; exact h
  | ok o e =>
    rw [z] at h
    simp only [R.bind] at h
    intro v F' H' R' s' o'
    cases y : hold1 e o with
    | none => rw [y] at h; exact h.elim
    | some pr =>
      obtain ⟨d, e2⟩ := pr
      rw [y] at h
      obtain ⟨F2, R2, s2, r2⟩ := hold1_ok R' o' y
      exact h v F2 H' R2 (s'.trans s2) r2
def eFrz (f : Ev A) : Ev A := fun e => (eHold f e).bind fun d e1 => .ok (.sh d) e1
theorem dx_frz {f : Ev A} (ha : DX X W a f) : DX X W a (eFrz f) := by
  obtain ⟨t, p, q⟩ := ha.ex
  refine ⟨_, p, fun G en F H σ Q R h => hold_run q R ?_⟩
  unfold eFrz at h
  cases z : eHold f en with
  | bad => rw [z] at h; exact h
  | ex x e => rw [z] at h; exact h
  | ok d e => rw [z] at h; exact h
theorem ds_ret (ha : DX X W a fa) : DS X W (.Return (some a) pos) (sRet fa) := by
  obtain ⟨t, p, q⟩ := ha.ex
  exact ⟨_, ps_ret p, fun G en F H σ D R h => hold_run q R (h.of fun d e v F' H' R' s' o' h' => h' v F' H' σ R' (.refl _) (by unfold RtOk; rw [if_neg Bool.false_ne_true]; exact o'))⟩
theorem ds_retN : DS X W (.Return none pos) sRetN := ⟨_, ps_retN, fun G en F H σ D R h => h .non F H σ R (.refl _) (by unfold RtOk; rw [if_neg Bool.false_ne_true]; exact .non)⟩
theorem postO_of {G : Gd} {F : Hp} {σ : L2.St} {r : R D} {g : D → En → SR} {D' : Ends} {Q' : VK} (h : PostS X W G F (r.st g) D')
    (k : ∀ d e v F' H', Rel X.K G e F' H' σ → Same F F' → NewAt G e X.K F' H' σ d v → PostS X W G F' (g d e) D' → Q' v H') : PostO X W G F σ r Q' := by
  cases r with
  | bad => exact h
  | ok a e => exact fun v F' H' R s o => k a e v F' H' R s o (PostS.mono h s)
  | ex x e => exact fun c dd F' H' R s o => h c dd F' H' σ R s o
theorem ds_retO {f : Ev D} (ha : DO X W a f) : DS X W (.Return (some a) pos) (sRetO f) := by
  obtain ⟨t, p, q⟩ := ha.ex
  exact ⟨_, ps_ret p, fun G en F H σ D R h => q G en F H σ _ R (postO_of h fun d e v F' H' R' s' o' h' => h' v F' H' σ R' (.refl _) (by unfold RtOk; rw [if_pos rfl]; exact o'))⟩
theorem ds_retV (i : Nat) {x : Str} {p' : Pos} (hN : X.N[i]? = some x := by rfl) (hv : Vis X.env.scope x := by first | exact Or.inl rfl | exact Or.inr (Or.inl rfl) | exact Or.inr (Or.inr rfl)) (hd : (x == ("__debug__" : Str)) = false := by decide)
    (hcd : (x == ("__classdict__" : Str)) = false := by decide) : DS X W (.Return (some (.Name x p')) pos) (sRetV i) := by
  refine ⟨_, ps_ret (pe_var hN hv hd hcd), fun G en F H σ D R h => ?_⟩
  unfold sRetV at h
  cases e : en[i]? with
  | none => rw [e] at h; exact h.elim
  | some s =>
    rw [e] at h
    cases s with
    | un => exact h.elim
    | sh d =>
      obtain ⟨v, h1, h2⟩ := R.shV e
      exact ⟨v, h1, h v F H σ R (.refl _) (by unfold RtOk; rw [if_neg Bool.false_ne_true]; exact h2)⟩
    | ow bb d =>
      cases bb with
      | true => exact h.elim
      | false =>
        obtain ⟨p, h1, h2, h3⟩ := R.owV e
        refine ⟨.ref p, h1, h (.ref p) F H σ R.forget (.refl _) ?_⟩
        unfold RtOk
        rw [if_pos rfl]
        refine ⟨p, rfl, h2, h3, by simpa using R.mn i false d p e h1, fun j b e2 z y => ?_⟩
        have hlen : i < en.length := (List.getElem?_eq_some_iff.mp e).1
        by_cases w : i = j
        · subst w
          rw [List.getElem?_set_self hlen] at z; cases z
        · rw [List.getElem?_set_ne w] at z
          exact w (R.dj i j false b d e2 p e z h1 y)

def frzS (i : Nat) (e : En) : En := match e[i]? with
  | some (.ow false d) => e.set i (.sh d)
  | _ => e
theorem frz_rel {K : PySem.W.Frag} {G : Gd} {en : En} {F H : Hp} {σ : L2.St} (i : Nat) (R : Rel K G en F H σ) : ∃ F', Rel K G (frzS i en) F' H σ ∧ Same F F' := by
  unfold frzS
  split
  · rename_i d e
    obtain ⟨F', v, R', s', _⟩ := R.freeze e
    exact ⟨F', R', s'⟩
  · exact ⟨F, R, .refl _⟩
/-- a thing of one's own is frozen ahead of a statement -/
theorem ds_frz (i : Nat) (h : DS X W st f) : DS X W st (fun e => f (frzS i e)) := by
  obtain ⟨t, p, q⟩ := h.ex
  refine ⟨t, p, fun G en F H σ D R h => ?_⟩
  obtain ⟨F', R', s'⟩ := frz_rel i R
  exact q G _ F' H σ D R' (PostS.mono h s')
/-- a place is forgotten behind a statement -/
def unS (is : List Nat) (r : SR) : SR := match r with
  | .nx e => .nx (is.foldl (fun e i => e.set i .un) e)
  | r => r
theorem un_rel {K : PySem.W.Frag} {G : Gd} {F H : Hp} {σ : L2.St} : ∀ (is : List Nat) {en : En}, Rel K G en F H σ → Rel K G (is.foldl (fun e i => e.set i .un) en) F H σ
  | [], _, R => R
  | i :: is, _, R => un_rel is R.forget
theorem ds_un (is : List Nat) (h : DS X W st f) : DS X W st (fun e => unS is (f e)) := by
  obtain ⟨t, p, q⟩ := h.ex
  refine ⟨t, p, fun G en F H σ D R h => q G en F H σ D R ?_⟩
  cases z : f en with
  | nx e => rw [z] at h; exact fun F' H' σ' R' s' => h F' H' σ' (un_rel is R') s'
  | _ => rw [z] at h; exact h

/-! ### targets -/
/-- alike but at some places -/
def Alike (ix : List Nat) (σ σ' : L2.St) : Prop := σ'.length = σ.length ∧ ∀ j : Nat, j ∉ ix → σ'[j]? = σ[j]?
theorem Alike.refl {ix : List Nat} {σ : L2.St} : Alike ix σ σ := ⟨rfl, fun _ _ => rfl⟩
theorem Alike.trans {ix iy : List Nat} {σ σ' σ2 : L2.St} (a : Alike ix σ σ') (b : Alike iy σ' σ2) : Alike (ix ++ iy) σ σ2 :=
  ⟨b.1.trans a.1, fun j h => (b.2 j fun z => h (List.mem_append_right _ z)).trans (a.2 j fun z => h (List.mem_append_left _ z))⟩
structure DG (X : Cx) (W : WX) (tg : Expr) (g : Gt) (ix : List Nat) : Prop where
  ex : ∃ t : TG, PG X tg t ∧ ∀ (G : Gd) (en e' : En) (F H : Hp) (σ : L2.St) (v : V) (d : D) (Q : L2.St → Hp → Prop), Rel X.K G en F H σ → Rep X.K F v d → g d en = some e' → (∀ F' H' σ', Rel X.K G e' F' H' σ' → Same F F' → Alike ix σ σ' → Q σ' H') → t v σ H Q
structure DGs (X : Cx) (W : WX) (tgs : List Expr) (gs : List Gt) (ix : List Nat) : Prop where
  ex : ∃ t : TGs, PGs X tgs t ∧ ∀ (G : Gd) (en e' : En) (F H : Hp) (σ : L2.St) (vs : List V) (ds : List D) (Q : L2.St → Hp → Prop), Rel X.K G en F H σ → Reps X.K F vs ds → gTs gs ds en = some e' → (∀ F' H' σ', Rel X.K G e' F' H' σ' → Same F F' → Alike ix σ σ' → Q σ' H') → t vs σ H Q
theorem dg_name (i : Nat) {x : Str} (hN : X.N.Nodup) (hi : X.N[i]? = some x := by rfl) (hx : Loc X.env.scope x := by first | exact Or.inl rfl | exact Or.inr rfl) (hf : X.fn x = true ∨ X.env.scope.names.lookup x = some .local := by first | exact .inl rfl | exact .inr rfl | assumption) : DG X W (.Name x pos) (gN i) [i] := by
  refine ⟨_, pg_name hN hi hx hf, fun G en e' F H σ v d Q R r e k => ?_⟩
  cases e
  exact k F H _ (R.putSh r) (.refl _) ⟨List.length_set, fun j h => List.getElem?_set_ne (fun z => h (by rw [z]; exact List.mem_cons_self))⟩
theorem dgs_nil : DGs X W [] [] [] := by
  refine ⟨_, pgs_nil, fun G en e' F H σ vs ds Q R r e k => ?_⟩
  cases ds with
  | nil => cases e; cases r; exact ⟨rfl, k F H σ R (.refl _) .refl⟩
  | cons d ds => cases e
theorem dgs_cons {tg : Expr} {tgs : List Expr} {g : Gt} {gs : List Gt} {ix iy : List Nat} (h1 : DG X W tg g ix) (h2 : DGs X W tgs gs iy)
    (hs : (assignEach (tg :: tgs) X.env).map (·.2) = assign tg X.env :: (assignEach tgs X.env).map (·.2) := by rfl) : DGs X W (tg :: tgs) (g :: gs) (ix ++ iy) := by
  obtain ⟨t, p, q⟩ := h1.ex
  obtain ⟨t2, p2, q2⟩ := h2.ex
  refine ⟨_, pgs_cons p p2 hs, fun G en e' F H σ vs ds Q R r e k => ?_⟩
  cases ds with
  | nil => cases e
  | cons d ds =>
    cases r with
    | cons r rr =>
      obtain ⟨e1, h1, h2⟩ := Option.bind_eq_some_iff.mp e
      exact ⟨_, _, rfl, q G en e1 F H σ _ d _ R r h1 fun F1 H1 σ1 R1 s1 a1 => q2 G e1 e' F1 H1 σ1 _ ds Q R1 (rr.mono s1) h2 fun F2 H2 σ2 R2 s2 a2 => k F2 H2 σ2 R2 (s1.trans s2) (a1.trans a2)⟩
theorem dg_tup {tgs : List Expr} {gs : List Gt} {ix : List Nat} {k : Nat} {n : Nat} (hc : X.calm = true) (h : DGs X W tgs gs ix) (hl : gs.length = n := by rfl)
    (hn : (assignEach tgs X.env).length = n := by rfl) (hst : (assignEach tgs X.env).findIdx? (·.1) = none := by rfl) : DG X W (.Tuple tgs k pos) (gT gs) ix := by
  obtain ⟨t, p, q⟩ := h.ex
  refine ⟨_, pg_tup hc p hn hst, fun G en e' F H σ v d Q R r e k => ?_⟩
  cases d with
  | tuple ds =>
    cases r with
    | tup hS rr =>
      have len : ∀ (gs : List Gt) (ds : List D) (en : En), gTs gs ds en = some e' → ds.length = gs.length := by
        intro gs
        induction gs with
        | nil => intro ds en e; cases ds with
          | nil => rfl
          | cons => cases e
        | cons g gs ih => intro ds en e; cases ds with
          | nil => cases e
          | cons d ds =>
            obtain ⟨e1, _, h2⟩ := Option.bind_eq_some_iff.mp e
            exact congrArg (· + 1) (ih ds e1 h2)
      exact ⟨_, _, rfl, SqT.mono R.fh hS, by rw [rr.length, len gs ds en e, hl], q G en e' F H σ _ ds Q R rr e k⟩
  | _ => cases e
theorem ds_asg {tg : Expr} {g : Gt} {ix : List Nat} (ha : DX X W a fa) (hg : DG X W tg g ix) (hs : swapsWithSole [tg] a pos.line X.env = pure false := by rfl) (hw : swappedStores [tg] a X.env = pure none := by rfl)
    (h1 : (assignEach [tg] X.env).map (·.2) = [assign tg X.env] := by rfl) : DS X W (.Assign [tg] a pos) (sAsg g fa) := by
  obtain ⟨t, p, q⟩ := ha.ex
  obtain ⟨t2, p2, q2⟩ := hg.ex
  refine ⟨_, ps_asg p p2 hs hw h1, fun G en F H σ D R h => hold_run q R (h.of fun d e v F' H' R' s' o' h' => ?_)⟩
  cases z : g d e with
  | none => rw [z] at h'; exact h'.elim
  | some e2 => rw [z] at h'; exact q2 G e e2 F' H' σ v d D.nx R' o' z fun F2 H2 σ2 R2 s2 _ => h' F2 H2 σ2 R2 s2
theorem ds_setO (i : Nat) {x : Str} {p' : Pos} {f : Ev D} (ha : DO X W a f) (hN : X.N.Nodup) (hi : X.N[i]? = some x := by rfl) (hx : Loc X.env.scope x := by first | exact Or.inl rfl | exact Or.inr rfl) (hs : swapsWith a (some (.Name x p')) pos.line X.env = pure false := by rfl) (hf : X.fn x = true ∨ X.env.scope.names.lookup x = some .local := by first | exact .inl rfl | exact .inr rfl | assumption) :
    DS X W (.Assign [.Name x p'] a pos) (sSetO i f) := by
  obtain ⟨t, p, q⟩ := ha.ex
  refine ⟨_, ps_set hN hi hx p hs hf, fun G en F H σ D R h => q G en F H σ _ R (postO_of h fun d e v F' H' R' s' o' h' => ?_)⟩
  obtain ⟨p, rfl, n, o, h0, nd⟩ := o'
  exact h' F' H' _ (R'.putOw n o h0 nd) (.refl _)
def IpD (K : PySem.W.Frag) (r : TIp) (g : D → D → Option D) : Prop := ∀ (F H : Hp) (x y : V) (d e q : D) (Q : VK), Same F H → PRep K F H x d → PRep K F H y e → g d e = some q → (∀ v F' H', Grow F H F' H' → Rep K F' v q → Q v H') → r x y H Q
theorem ds_aug (i : Nat) {x : Str} {p' : Pos} {op : Operator} {r : TIp} {g : D → D → Option D} (ho : PIp X op r) (hg : IpD X.K r g) (ha : DX X W a fa) (hN : X.N.Nodup) (hi : X.N[i]? = some x := by rfl) (hx : Loc X.env.scope x := by first | exact Or.inl rfl | exact Or.inr rfl) (hf : X.fn x = true ∨ X.env.scope.names.lookup x = some .local := by first | exact .inl rfl | exact .inr rfl | assumption) :
    DS X W (.AugAssign (.Name x p') op a pos) (sAug i g fa) := by
  obtain ⟨t, p, q⟩ := ha.ex
  refine ⟨_, ps_aug hN hi hx p ho hf, fun G en F H σ D R h => ?_⟩
  unfold sAug at h
  cases e : en[i]? with
  | none => rw [e] at h; exact h.elim
  | some s =>
    rw [e] at h
    cases s with
    | un => exact h.elim
    | ow bb d => exact h.elim
    | sh d0 =>
      obtain ⟨v0, h1, h2⟩ := R.shV e
      refine ⟨v0, h1, q G en F H σ _ R (h.of fun o e1 v F' H' R' s' o' h' => ?_)⟩
      cases z : ((res e1 o).bind fun y => g d0 y) with
      | none => rw [z] at h'; exact h'.elim
      | some d2 =>
        rw [z] at h'
        obtain ⟨d1, g1, g2⟩ := Option.bind_eq_some_iff.mp z
        exact hg F' H' v0 v d0 d1 d2 _ R'.fh (.inl (h2.mono s')) (res_ok R' o' g1) g2 fun w F2 H2 gr r2 => h' F2 H2 _ ((R'.grow gr).putSh r2) gr.f

/-! ### loops -/
def ItOk (K : PySem.W.Frag) (J : It) (F : Hp) (ds : List D) : Prop := ∀ (i : Nat) (F1 H1 : Hp), Same F F1 → Same F1 H1 →
  (∀ d, ds[i]? = some d → J.go i H1 ∧ ∀ x H2, J.yld i H1 x H2 → ∃ F2, Grow F1 H1 F2 H2 ∧ Rep K F2 x d) ∧ (ds[i]? = none → J.stop i H1)
structure DI (X : Cx) (W : WX) (tg iter : Expr) (f : Ev (List D)) : Prop where
  ex : ∃ wi : TI, PI X tg iter wi ∧ ∀ (G : Gd) (en : En) (F H : Hp) (σ : L2.St) (Q : It → Hp → Prop), Rel X.K G en F H σ → PostE X W G F σ (fun F' ds J => ItOk X.K J F' ds) (f en) Q → wi σ H Q
theorem ds_for {tg iter : Expr} {body : List Stmt} {fi : Ev (List D)} {g : Gt} {f : En → SR} (hp : PassesOwn (model X.prog X.w) X.A X.env X.xe) (hc : X.calm = true) {ix : List Nat} (hi : DI X W tg iter fi) (hg : DG X W tg g ix) (hb : DSs X W body f)
    (hs : ∀ x, foldedSetIterable iter X.env x = pure x := by intro _; rfl) : DS X W (.For tg iter body [] pos) (sFor fi g f) := by
  obtain ⟨wi, p, q⟩ := hi.ex
  obtain ⟨tg', p1, q1⟩ := hg.ex
  obtain ⟨tb, p2, q2⟩ := hb.ex
  refine ⟨_, ps_for hp hc p p1 p2 hs, fun G en F H σ D R h => q G en F H σ _ R (h.of fun ds e J F' H' R' s' o' h' => ?_)⟩
  refine ⟨fun i m σ H => m = ds.length - i ∧ i ≤ ds.length ∧ ∃ en F, Rel X.K G en F H σ ∧ Same F' F ∧ PostS X W G F (forD g f (ds.drop i) en) D, ⟨ds.length, by simp, Nat.zero_le _, e, F', R', .refl _, h'⟩, ?_⟩
  rintro i m σ1 H1 ⟨rfl, hle, en1, F1, R1, s1, h1⟩
  obtain ⟨go, stop⟩ := o' i F1 H1 s1 R1.fh
  by_cases hlt : i < ds.length
  · have ed : ds[i]? = some ds[i] := List.getElem?_eq_getElem hlt
    obtain ⟨g1, g2⟩ := go _ ed
    rw [List.drop_eq_getElem_cons hlt] at h1
    unfold forD at h1
    cases z : g ds[i] en1 with
    | none => rw [z] at h1; exact h1.elim
    | some e1 =>
      rw [z] at h1
      simp only at h1
      refine .inr ⟨g1, fun σ' H' => ∃ en F, Rel X.K G en F H' σ' ∧ Same F' F ∧ PostS X W G F (forD g f (ds.drop (i + 1)) en) D, fun σ' H' hN => ⟨ds.length - (i + 1), by omega, rfl, hlt, hN⟩, fun x H2 hy => ?_⟩
      obtain ⟨F2, gr, r2⟩ := g2 x H2 hy
      refine q1 G en1 e1 F2 H2 σ1 x _ _ (R1.grow gr) r2 z fun F3 H3 σ3 R3 s3 _ => ?_
      have sA : Same F1 F3 := gr.f.trans s3
      refine q2 G e1 F3 H3 σ3 _ R3 ?_
      cases y : f e1 with
      | bad => rw [y] at h1; exact h1
      | nx e2 => rw [y] at h1; exact fun F4 H4 σ4 R4 s4 => ⟨e2, F4, R4, s1.trans (sA.trans s4), PostS.mono h1 (sA.trans s4)⟩
      | ct e2 => rw [y] at h1; exact fun F4 H4 σ4 R4 s4 => ⟨e2, F4, R4, s1.trans (sA.trans s4), PostS.mono h1 (sA.trans s4)⟩
      | bk e2 => rw [y] at h1; exact fun F4 H4 σ4 R4 s4 => h1 F4 H4 σ4 R4 (sA.trans s4)
      | rt o d e2 => rw [y] at h1; exact fun v F4 H4 σ4 R4 s4 o4 => h1 v F4 H4 σ4 R4 (sA.trans s4) o4
      | ex xx e2 => rw [y] at h1; exact fun c dd F4 H4 σ4 R4 s4 o4 => h1 c dd F4 H4 σ4 R4 (sA.trans s4) o4
  · have ei : ds.drop i = [] := List.drop_eq_nil_of_le (by omega)
    rw [ei] at h1
    exact .inl ⟨stop (List.getElem?_eq_none (by omega)), h1 F1 H1 σ1 R1 (.refl _)⟩
theorem ds_while {body : List Stmt} {fc : Ev Bool} {f : En → SR} (hp : PassesOwn (model X.prog X.w) X.A X.env X.xe) (hc : DT X W c fc) (hb : DSs X W body f) : DS X W (.While c body [] pos) (sWhile fc f) := by
  obtain ⟨t, p, q⟩ := hc.ex
  obtain ⟨tb, p2, q2⟩ := hb.ex
  refine ⟨_, ps_while hp p p2, fun G en F H σ D R h => ?_⟩
  have ex : ∃ n, whileD fc f n en ≠ .bad := by
    by_cases z : ∃ n, whileD fc f n en ≠ .bad
    · exact z
    · unfold sWhile at h
      rw [dif_neg z] at h
      exact h.elim
  obtain ⟨n, hn⟩ := ex
  rw [sWhile_eq hn] at h
  refine ⟨fun m σ H => ∃ en F', Rel X.K G en F' H σ ∧ Same F F' ∧ PostS X W G F' (whileD fc f m en) D, ⟨n, en, F, R, .refl _, h⟩, ?_⟩
  rintro m σ1 H1 ⟨en1, F1, R1, s1, h1⟩
  cases m with
  | zero => exact h1.elim
  | succ m =>
    unfold whileD at h1
    refine q G en1 F1 H1 σ1 _ R1 (h1.of fun x e v F2 H2 R2 s2 o2 h2 => ?_)
    subst o2
    by_cases z : x = true
    · rw [if_pos z] at h2 ⊢
      refine ⟨fun σ' H' => ∃ en F', Rel X.K G en F' H' σ' ∧ Same F F' ∧ PostS X W G F' (whileD fc f m en) D, fun σ' H' w => ⟨m, Nat.lt_succ_self _, w⟩, ?_⟩
      refine q2 G e F2 H2 σ1 _ R2 ?_
      have sA : Same F F2 := s1.trans s2
      cases y : f e with
      | bad => rw [y] at h2; exact h2
      | nx e2 => rw [y] at h2; exact fun F4 H4 σ4 R4 s4 => ⟨e2, F4, R4, sA.trans s4, PostS.mono h2 s4⟩
      | ct e2 => rw [y] at h2; exact fun F4 H4 σ4 R4 s4 => ⟨e2, F4, R4, sA.trans s4, PostS.mono h2 s4⟩
      | bk e2 => rw [y] at h2; exact h2
      | rt o d e2 => rw [y] at h2; exact h2
      | ex xx e2 => rw [y] at h2; exact h2
    · rw [if_neg z] at h2 ⊢
      exact h2 F2 H2 σ1 R2 (.refl _)
end

/-! ### defs -/
inductive Rt where
  | bad
  | ret (o : Bool) (d : D) (as : List Sl)
  | exc (x : Xn) (as : List Sl)
/-- what the arguments that are one's own have become -/
def outs : List Sl → En → Option (List Sl)
  | [], _ => some []
  | .ow true _ :: as, .ow true d :: en => (outs as en).bind fun r => some (.ow true d :: r)
  | .ow _ _ :: _, _ => none
  | _ :: as, _ :: en => (outs as en).bind fun r => some (.un :: r)
  | _ :: _, [] => none
def okArgs (as : List Sl) : Bool := as.all fun s => match s with
  | .ow false _ => false
  | _ => true
def runDef (n : Nat) (body : En → SR) (as : List Sl) : Rt := if okArgs as then (match body (as ++ List.replicate (n - as.length) .un) with
  | .nx e => match outs as e with
    | some r => .ret false .none r
    | none => .bad
  | .rt o d e => match outs as e with
    | some r => .ret o d r
    | none => .bad
  | .ex x e => match outs as e with
    | some r => .exc x r
    | none => .bad
  | _ => .bad) else .bad
def XOk' (mg : Str → Option Value) (K : PySem.W.Frag) (F : Hp) (x : Xn) (cls : Value) (dd : Option Addr) : Prop :=
  ∃ C, mg x.cls = some (.ref C) ∧ cls = .ref C ∧ (x.fs = [] → dd = none) ∧ (x.fs ≠ [] → ∃ d fvs, dd = some d ∧ F d = some (.xd fvs) ∧ fvs.map (·.1) = x.fs.map (·.1) ∧ Reps K F (fvs.map (·.2)) (x.fs.map (·.2)))
def PostC (K : PySem.W.Frag) (mg : Str → Option Value) (G : Gd) (F : Hp) (vs : L2.St) (Q : VK) (E : XK) : Rt → Prop
  | .bad => False
  | .ret o d as' => ∀ v F' H', Rel K G as' F' H' vs → Same F F' → RtOk K G as' F' H' vs o d v → Q v H'
  | .exc x as' => ∀ cls dd F' H', Rel K G as' F' H' vs → Same F F' → XOk' mg K F' x cls dd → E cls dd H'
/-- the promise of a def by its meaning -/
def spD (K : PySem.W.Frag) (mg : Str → Option Value) (n : Nat) (Fd : List Sl → Rt) : Sp := fun vs H Q E => vs.length = n ∧ ∃ F as As, as.length = n ∧ Rel K ⟨H, F, As, vs.map some⟩ as F H (vs.map some) ∧ PostC K mg ⟨H, F, As, vs.map some⟩ F (vs.map some) Q E (Fd as)
theorem outs_len : ∀ {as : List Sl} {e : En} {r : List Sl}, outs as e = some r → r.length = as.length
  | [], _, _, h => by cases h; rfl
  | .ow true _ :: as, .ow true d :: en, r, h => by
    obtain ⟨r', h1, h2⟩ := Option.bind_eq_some_iff.mp h
    cases h2
    exact congrArg (· + 1) (outs_len h1)
  | .un :: as, _ :: en, r, h => by
    obtain ⟨r', h1, h2⟩ := Option.bind_eq_some_iff.mp h
    cases h2
    exact congrArg (· + 1) (outs_len h1)
  | .sh _ :: as, _ :: en, r, h => by
    obtain ⟨r', h1, h2⟩ := Option.bind_eq_some_iff.mp h
    cases h2
    exact congrArg (· + 1) (outs_len h1)
theorem outs_at : ∀ {as : List Sl} {e : En} {r : List Sl} {i : Nat} {s : Sl}, outs as e = some r → r[i]? = some s → s = .un ∨ ∃ d, s = .ow true d ∧ e[i]? = some (.ow true d)
  | [], _, _, _, _, h, z => by cases h; simp at z
  | .ow true _ :: as, .ow true d :: en, r, i, s, h, z => by
    obtain ⟨r', h1, h2⟩ := Option.bind_eq_some_iff.mp h
    cases h2
    cases i with
    | zero => simp at z; subst z; exact .inr ⟨d, rfl, rfl⟩
    | succ i => exact outs_at (i := i) h1 (by simpa using z)
  | .un :: as, _ :: en, r, i, s, h, z => by
    obtain ⟨r', h1, h2⟩ := Option.bind_eq_some_iff.mp h
    cases h2
    cases i with
    | zero => simp at z; exact .inl z.symm
    | succ i => exact outs_at (i := i) h1 (by simpa using z)
  | .sh _ :: as, _ :: en, r, i, s, h, z => by
    obtain ⟨r', h1, h2⟩ := Option.bind_eq_some_iff.mp h
    cases h2
    cases i with
    | zero => simp at z; exact .inl z.symm
    | succ i => exact outs_at (i := i) h1 (by simpa using z)
/-- at a def's end the state of its arguments -/
theorem Rel.outs {K : PySem.W.Frag} {G : Gd} {as r : List Sl} {e : En} {F H : Hp} {σ vs : L2.St} (R : Rel K G e F H σ) (h : outs as e = some r) (hv : vs.length = as.length) (hS : G.S0 = vs ++ List.replicate (G.S0.length - vs.length) none) :
    Rel K ⟨G.H0, G.F0, G.As, vs⟩ r F H vs := by
  have at0 : ∀ i, i < vs.length → G.S0[i]? = vs[i]? := fun i hi => by
    rw [hS, List.getElem?_append_left hi]
  have own : ∀ (i : Nat) (d : D), r[i]? = some (.ow true d) → e[i]? = some (.ow true d) ∧ σ[i]? = vs[i]? := fun i d z => by
    rcases outs_at h z with q | ⟨d', q, q2⟩
    · cases q
    · cases q
      refine ⟨q2, (R.ar i d q2).trans (at0 i ?_)⟩
      rw [hv, ← outs_len h]
      exact (List.getElem?_eq_some_iff.mp z).1
  have only : ∀ (i : Nat) (b : Bool) (d : D), r[i]? = some (.ow b d) → b = true := fun i b d z => by
    rcases outs_at h z with q | ⟨d', q, q2⟩
    · cases q
    · cases q; rfl
  refine ⟨by rw [outs_len h, hv], fun i s z => ?_, fun i j b c d d' p h1 h2 h3 h4 => ?_, fun i b d p h1 h3 => ?_, R.fh, R.f0, R.nw, R.bs, R.as, fun i d z => rfl⟩
  · rcases outs_at h z with q | ⟨d, q, q2⟩
    · subst q; trivial
    · subst q
      have := R.sl i _ q2
      rw [(own i d z).2] at this
      exact this
  · have b1 := only i b d h1
    have b2 := only j c d' h2
    subst b1 b2
    obtain ⟨g1, k1⟩ := own i d h1
    obtain ⟨g2, k2⟩ := own j d' h2
    exact R.dj i j true true d d' p g1 g2 (k1.trans h3) (k2.trans h4)
  · have b1 := only i b d h1
    subst b1
    obtain ⟨g1, k1⟩ := own i d h1
    exact R.mn i true d p g1 (k1.trans h3)
theorem start_eq {N : List Str} {vs : List V} : start N vs = vs.map some ++ List.replicate (N.length - vs.length) none := rfl
/-- the state at a def's entry -/
theorem Rel.begin {K : PySem.W.Frag} {H F : Hp} {As : List Addr} {as : List Sl} {vs : List V} {N : List Str} (R : Rel K ⟨H, F, As, vs.map some⟩ as F H (vs.map some)) (hl : vs.length ≤ N.length) :
    Rel K ⟨H, F, As, start N vs⟩ (as ++ List.replicate (N.length - as.length) .un) F H (start N vs) := by
  have hlen : as.length = vs.length := by rw [R.len, List.length_map]
  have lt : ∀ {i : Nat} {b : Bool} {d : D}, (as ++ List.replicate (N.length - as.length) Sl.un)[i]? = some (.ow b d) → i < as.length ∧ as[i]? = some (.ow b d) := fun {i b d} z => by
    by_cases q : i < as.length
    · rw [List.getElem?_append_left q] at z; exact ⟨q, z⟩
    · rw [List.getElem?_append_right (by omega), List.getElem?_replicate] at z
      split at z <;> cases z
  have σat : ∀ {i : Nat}, i < as.length → (start N vs)[i]? = (vs.map some)[i]? := fun {i} z => by
    rw [start_eq, List.getElem?_append_left (by rw [List.length_map]; omega)]
  refine ⟨?_, fun i s z => ?_, fun i j b c d e p h1 h2 h3 h4 => ?_, fun i b d p h1 h3 => ?_, R.fh, R.f0, R.nw, R.bs, R.as, fun i d z => rfl⟩
  · rw [start_eq, List.length_append, List.length_append, List.length_replicate, List.length_replicate, List.length_map]
    omega
  · by_cases q : i < as.length
    · rw [List.getElem?_append_left q] at z
      rw [σat q]
      exact R.sl i s z
    · rw [List.getElem?_append_right (by omega), List.getElem?_replicate] at z
      split at z
      · cases z; trivial
      · cases z
  · obtain ⟨q1, g1⟩ := lt h1
    obtain ⟨q2, g2⟩ := lt h2
    rw [σat q1] at h3
    rw [σat q2] at h4
    exact R.dj i j b c d e p g1 g2 h3 h4
  · obtain ⟨q1, g1⟩ := lt h1
    rw [σat q1] at h3
    exact R.mn i b d p g1 h3
section
variable {P : Program} {w : World} {K : PySem.W.Frag} {mg : Str → Option Value} {base : Heap}
def WX0 : WX := fun _ _ _ _ => False
/-- the reading of a whole body -/
theorem body_ok {X : Cx} {W : WX} {n : Nat} {body : En → SR} {t : TS} {vs : List V} {H : Hp} {Q : VK} {E : XK} {ps : Nat} (hK : X.K = K) (hmg : X.mg = mg) (hW : ∀ cls dd σ H, E cls dd H → W cls dd σ H) (hn : X.N.length = n) (hps : ps ≤ n)
    (q : ∀ (G : Gd) (en : En) (F H : Hp) (σ : L2.St) (D : Ends), Rel X.K G en F H σ → PostS X W G F (body en) D → t D σ H)
    (h : spD K mg ps (runDef n body) vs H Q E) : t { nx := fun _ H' => Q .non H', rt := Q } (start X.N vs) H := by
  subst hK hmg hn
  obtain ⟨hl, F, as, As, hla, R, hP⟩ := h
  unfold runDef at hP
  by_cases ha : okArgs as = true
  · rw [if_pos ha] at hP
    have R0 := R.begin (N := X.N) (by omega)
    have hS : ∀ {r : List Sl} {e : En} {F' H' : Hp} {σ' : L2.St}, Rel X.K ⟨H, F, As, start X.N vs⟩ e F' H' σ' → outs as e = some r → Rel X.K ⟨H, F, As, vs.map some⟩ r F' H' (vs.map some) := fun {r e F' H' σ'} R' z =>
      R'.outs (vs := vs.map some) z (by rw [List.length_map]; omega) (by
        show start X.N vs = _
        rw [start_eq, List.length_append, List.length_replicate, Nat.add_sub_cancel_left])
    refine q ⟨H, F, As, start X.N vs⟩ _ F H _ _ R0 ?_
    rw [hla] at hP
    rw [hla]
    cases z : body (as ++ List.replicate (X.N.length - ps) .un) with
    | bad => rw [z] at hP; exact hP
    | bk e => rw [z] at hP; exact hP.elim
    | ct e => rw [z] at hP; exact hP.elim
    | nx e =>
      rw [z] at hP
      simp only at hP
      intro F' H' σ' R' s'
      cases y : outs as e with
      | none => rw [y] at hP; exact hP.elim
      | some r =>
        rw [y] at hP
        exact hP .non F' H' (hS R' y) s' (by unfold RtOk; rw [if_neg Bool.false_ne_true]; exact .non)
    | rt o d e =>
      rw [z] at hP
      simp only at hP
      intro v F' H' σ' R' s' o'
      cases y : outs as e with
      | none => rw [y] at hP; exact hP.elim
      | some r =>
        rw [y] at hP
        refine hP v F' H' (hS R' y) s' ?_
        unfold RtOk at o' ⊢
        cases o with
        | false => rw [if_neg Bool.false_ne_true] at o' ⊢; exact o'
        | true =>
          rw [if_pos rfl] at o' ⊢
          obtain ⟨p, rfl, n1, n2, n3, nd⟩ := o'
          refine ⟨p, rfl, n1, n2, n3, fun j b e2 g1 g2 => ?_⟩
          rcases outs_at y g1 with q | ⟨d2, q, q2⟩
          · cases q
          · obtain ⟨rfl, rfl⟩ : b = true ∧ e2 = d2 := by cases q; exact ⟨rfl, rfl⟩
            refine nd j true e2 q2 ?_
            have hj : j < (vs.map some).length := (List.getElem?_eq_some_iff.mp g2).1
            rw [R'.ar j e2 q2]
            show (start X.N vs)[j]? = _
            rw [start_eq, List.getElem?_append_left hj]
            exact g2
    | ex x e =>
      rw [z] at hP
      simp only at hP
      intro cls dd F' H' σ' R' s' o'
      cases y : outs as e with
      | none => rw [y] at hP; exact hP.elim
      | some r =>
        rw [y] at hP
        exact hW _ _ _ _ (hP cls dd F' H' (hS R' y) s' o')
  · rw [if_neg ha] at hP; exact hP.elim
end

/-! ### calls -/
def argOf (e : En) : A → Option Sl
  | .sh d => some (.sh d)
  | .bor i => match e[i]? with
    | some (.sh d) => some (.sh d)
    | some (.ow _ d) => some (.ow true d)
    | _ => none
def argsOf (e : En) : List A → Option (List Sl)
  | [] => some []
  | a :: as => (argOf e a).bind fun d => (argsOf e as).bind fun ds => some (d :: ds)
def bors (as : List A) : List Nat := as.filterMap fun a => match a with
  | .bor i => some i
  | _ => none
/-- what has become of what was lent -/
def back : List A → List Sl → En → En
  | .bor i :: as, s :: ss, e => back as ss (match e[i]? with
    | some (.ow b _) => e.set i (match s with
      | .ow true d => .ow b d
      | _ => .un)
    | _ => e)
  | _ :: as, _ :: ss, e => back as ss e
  | _, _, e => e
def callRt (Fd : List Sl → Rt) (as : List A) (e : En) : R (Bool × D) := if (bors as).Nodup then (match argsOf e as with
  | none => .bad
  | some ss => match Fd ss with
    | .bad => .bad
    | .ret o d as' => .ok (o, d) (back as as' e)
    | .exc x as' => .ex x (back as as' e)) else .bad
def eCall (Fd : List Sl → Rt) (fs : Ev (List A)) : Ev A := fun e => (fs e).bind fun as e1 => (callRt Fd as e1).bind fun p e2 => .ok (.sh p.2) e2
def oCall (Fd : List Sl → Rt) (fs : Ev (List A)) : Ev D := fun e => (fs e).bind fun as e1 => (callRt Fd as e1).bind fun p e2 => if p.1 = true then .ok p.2 e2 else .bad
end M
set_option Elab.async false
set_option linter.all false
set_option maxRecDepth 100000
set_option autoImplicit false
/-! M4: calls of defs. -/
namespace M
open PySem PySem.Spec PyProof.Rows L2
section
variable {K : PySem.W.Frag} {G : Gd} {F H : Hp} {σ : L2.St} {e : En}
theorem asOk_at : ∀ {as : List A} {vs : List V} {k : Nat} {a : A}, AsOk K F σ as vs → as[k]? = some a → ∃ v, vs[k]? = some v ∧ AOk K F σ a v
  | [], _, _, _, _, z => by simp at z
  | _ :: _, _, 0, _, ⟨v, ws, e, h, t⟩, z => by simp at z; subst z; exact ⟨v, by rw [e]; rfl, h⟩
  | _ :: as, _, k + 1, a, ⟨v, ws, e, h, t⟩, z => by
    obtain ⟨u, h1, h2⟩ := asOk_at (k := k) (a := a) t (by simpa using z)
    exact ⟨u, by rw [e]; simpa using h1, h2⟩
theorem argsOf_at : ∀ {as : List A} {ss : List Sl} {k : Nat} {s : Sl}, argsOf e as = some ss → ss[k]? = some s → ∃ a, as[k]? = some a ∧ argOf e a = some s
  | [], _, _, _, h, z => by cases h; simp at z
  | a :: as, ss, k, s, h, z => by
    obtain ⟨s1, h1, h2⟩ := Option.bind_eq_some_iff.mp h
    obtain ⟨ss', h3, h4⟩ := Option.bind_eq_some_iff.mp h2
    cases h4
    cases k with
    | zero => simp at z; subst z; exact ⟨a, rfl, h1⟩
    | succ k =>
      obtain ⟨b, q1, q2⟩ := argsOf_at (k := k) h3 (by simpa using z)
      exact ⟨b, by simpa using q1, q2⟩
theorem argsOf_len : ∀ {as : List A} {ss : List Sl}, argsOf e as = some ss → ss.length = as.length
  | [], _, h => by cases h; rfl
  | a :: as, ss, h => by
    obtain ⟨s1, h1, h2⟩ := Option.bind_eq_some_iff.mp h
    obtain ⟨ss', h3, h4⟩ := Option.bind_eq_some_iff.mp h2
    cases h4
    exact congrArg (· + 1) (argsOf_len h3)
theorem mem_bors {as : List A} {i k : Nat} (h : as[k]? = some (.bor i)) : i ∈ bors as :=
  List.mem_filterMap.mpr ⟨.bor i, List.mem_of_getElem? h, rfl⟩
theorem bors_inj : ∀ {as : List A} {i j k : Nat}, (bors as).Nodup → as[j]? = some (.bor i) → as[k]? = some (.bor i) → j = k
  | [], _, _, _, _, h, _ => by simp at h
  | a :: as, i, j, k, nd, h1, h2 => by
    have tl : (bors as).Nodup := by
      cases a with
      | sh d => exact nd
      | bor m => exact (List.nodup_cons.mp nd).2
    cases j with
    | zero =>
      simp at h1
      subst h1
      cases k with
      | zero => rfl
      | succ k => exact ((List.nodup_cons.mp (show (i :: bors as).Nodup from nd)).1 (mem_bors (k := k) (by simpa using h2))).elim
    | succ j =>
      cases k with
      | zero =>
        simp at h2
        subst h2
        exact ((List.nodup_cons.mp (show (i :: bors as).Nodup from nd)).1 (mem_bors (k := j) (by simpa using h1))).elim
      | succ k => exact congrArg (· + 1) (bors_inj tl (by simpa using h1) (by simpa using h2))
theorem back_len : ∀ {as : List A} {ss : List Sl} {e : En}, (back as ss e).length = e.length
  | [], _, _ => rfl
  | .sh _ :: _, [], _ => rfl
  | .bor _ :: _, [], _ => rfl
  | .sh d :: as, s :: ss, e => back_len (as := as) (ss := ss)
  | .bor i :: as, s :: ss, e => by
    unfold back
    rw [back_len]
    split
    · rw [List.length_set]
    · rfl
theorem back_other : ∀ {as : List A} {ss : List Sl} {e : En} {i : Nat}, i ∉ bors as → (back as ss e)[i]? = e[i]?
  | [], _, _, _, _ => rfl
  | .sh _ :: _, [], _, _, _ => rfl
  | .bor _ :: _, [], _, _, _ => rfl
  | .sh d :: as, s :: ss, e, i, h => back_other (as := as) (ss := ss) h
  | .bor j :: as, s :: ss, e, i, h => by
    have h' : ¬ (i = j ∨ i ∈ bors as) := fun z => h (List.mem_cons.mpr z)
    unfold back
    rw [back_other (fun z => h' (.inr z))]
    split
    · rw [List.getElem?_set_ne (fun z => h' (.inl z.symm))]
    · rfl
theorem back_at : ∀ {as : List A} {ss : List Sl} {e : En} {i : Nat} {s : Sl}, (bors as).Nodup → ss.length = as.length → (back as ss e)[i]? = some s →
    (∃ (k : Nat) (b : Bool) (d d' : D), as[k]? = some (.bor i) ∧ ss[k]? = some (.ow true d') ∧ e[i]? = some (.ow b d) ∧ s = .ow b d') ∨ s = .un ∨ (e[i]? = some s ∧ ((∃ (b : Bool) (d : D), s = .ow b d) → i ∉ bors as))
  | [], ss, e, i, s, _, _, h => .inr (.inr ⟨h, fun _ => by simp [bors]⟩)
  | .sh _ :: _, [], _, _, _, _, l, _ => by simp at l
  | .bor _ :: _, [], _, _, _, _, l, _ => by simp at l
  | .sh x :: as, t :: ss, e, i, s, nd, l, h => by
    rcases back_at (as := as) (ss := ss) nd (by simpa using l) h with ⟨k, b, d, d', h1, h2, h3, h4⟩ | h | ⟨h, q⟩
    · exact .inl ⟨k + 1, b, d, d', by simpa using h1, by simpa using h2, h3, h4⟩
    · exact .inr (.inl h)
    · exact .inr (.inr ⟨h, q⟩)
  | .bor j :: as, t :: ss, e, i, s, nd, l, h => by
    obtain ⟨n1, n2⟩ := List.nodup_cons.mp (show (j :: bors as).Nodup from nd)
    unfold back at h
    by_cases hij : i = j
    · subst hij
      rw [back_other n1] at h
      cases q : e[i]? with
      | none => rw [q] at h; simp only at h; rw [q] at h; cases h
      | some s0 =>
        have hlt : i < e.length := (List.getElem?_eq_some_iff.mp q).1
        rw [q] at h
        cases s0 with
        | un => simp only at h; rw [q] at h; cases h; exact .inr (.inl rfl)
        | sh d => simp only at h; rw [q] at h; cases h; exact .inr (.inr ⟨rfl, fun ⟨b, d', z⟩ => by cases z⟩)
        | ow b d =>
          simp only at h
          rw [List.getElem?_set_self hlt] at h
          cases t with
          | un => cases h; exact .inr (.inl rfl)
          | sh d2 => cases h; exact .inr (.inl rfl)
          | ow c d2 =>
            cases c with
            | false => cases h; exact .inr (.inl rfl)
            | true => cases h; exact .inl ⟨0, b, d, d2, rfl, rfl, rfl, rfl⟩
    · have key : ∀ s', ((match e[j]? with
          | some (.ow b _) => e.set j (match t with
            | .ow true d => .ow b d
            | _ => .un)
          | _ => e) : En)[i]? = some s' → e[i]? = some s' := fun s' z => by
        split at z
        · rw [List.getElem?_set_ne (Ne.symm hij)] at z; exact z
        · exact z
      rcases back_at (as := as) (ss := ss) n2 (by simpa using l) h with ⟨k, b, d, d', h1, h2, h3, h4⟩ | h | ⟨h, q⟩
      · exact .inl ⟨k + 1, b, d, d', by simpa using h1, by simpa using h2, key _ h3, h4⟩
      · exact .inr (.inl h)
      · refine .inr (.inr ⟨key _ h, fun z w => ?_⟩)
        rcases List.mem_cons.mp (show i ∈ j :: bors as from w) with w | w
        · exact hij w
        · exact q z w
/-- the addresses that are lent -/
def lents (σ : L2.St) (e : En) (as : List A) : List Addr := as.filterMap fun a => match a with
  | .bor i => match e[i]?, σ[i]? with
    | some (.ow _ _), some (some (.ref p)) => some p
    | _, _ => none
  | _ => none
theorem mem_lents {as : List A} {p : Addr} : p ∈ lents σ e as ↔ ∃ i b d, .bor i ∈ as ∧ e[i]? = some (.ow b d) ∧ σ[i]? = some (some (.ref p)) := by
  unfold lents
  rw [List.mem_filterMap]
  constructor
  · rintro ⟨a, ha, h⟩
    cases a with
    | sh d => cases h
    | bor i =>
      simp only at h
      split at h
      · rename_i b d p' h1 h2
        cases h
        exact ⟨i, b, d, ha, h1, h2⟩
      · cases h
  · rintro ⟨i, b, d, ha, h1, h2⟩
    exact ⟨.bor i, ha, by simp only [h1, h2]⟩
theorem lend (R : Rel K G e F H σ) {as : List A} {vs : List V} {ss : List Sl} (h : AsOk K F σ as vs) (nd : (bors as).Nodup) (ha : argsOf e as = some ss) :
    Rel K ⟨H, F, lents σ e as, vs.map some⟩ ss F H (vs.map some) := by
  have slot : ∀ {k : Nat} {b : Bool} {d : D}, ss[k]? = some (.ow b d) → b = true ∧ ∃ i c p, as[k]? = some (.bor i) ∧ e[i]? = some (.ow c d) ∧ σ[i]? = some (some (.ref p)) ∧ vs[k]? = some (.ref p) ∧ F p = none ∧ Own K F H p d := fun {k b d} z => by
    obtain ⟨a, h1, h2⟩ := argsOf_at ha z
    cases a with
    | sh d' => cases h2
    | bor i =>
      unfold argOf at h2
      simp only at h2
      split at h2
      · cases h2
      · rename_i c d' q
        cases h2
        obtain ⟨p, g1, g2, g3⟩ := R.owV q
        obtain ⟨v, w1, w2⟩ := asOk_at h h1
        have w3 : σ[i]? = some (some v) := w2
        rw [g1] at w3
        cases w3
        exact ⟨rfl, i, c, p, h1, q, g1, w1, g2, g3⟩
      · cases h2
  have mapAt : ∀ {k : Nat} {v : V}, vs[k]? = some v → (vs.map some)[k]? = some (some v) := fun {k v} z => by rw [List.getElem?_map, z]; rfl
  refine ⟨?_, fun k s z => ?_, fun j k b c d d' p h1 h2 h3 h4 => ?_, fun k b d p z y => ?_, R.fh, .refl _, fun a o z => .inl z, fun a o z _ => z, fun a z => ?_, fun i d z => rfl⟩
  · rw [argsOf_len ha, List.length_map, h.len]
  · obtain ⟨a, h1, h2⟩ := argsOf_at ha z
    obtain ⟨v, w1, w2⟩ := asOk_at h h1
    rw [mapAt w1]
    cases a with
    | sh d => cases h2; exact ⟨v, rfl, w2⟩
    | bor i =>
      have w3 : σ[i]? = some (some v) := w2
      unfold argOf at h2
      simp only at h2
      split at h2
      · rename_i d q
        cases h2
        obtain ⟨v', g1, g2⟩ := R.shV q
        rw [w3] at g1
        cases g1
        exact ⟨v, rfl, g2⟩
      · rename_i c d q
        cases h2
        obtain ⟨p, g1, g2, g3⟩ := R.owV q
        rw [w3] at g1
        cases g1
        exact ⟨p, rfl, g2, g3⟩
      · cases h2
  · obtain ⟨_, i1, c1, p1, a1, b1, s1, v1, _⟩ := slot h1
    obtain ⟨_, i2, c2, p2, a2, b2, s2, v2, _⟩ := slot h2
    rw [mapAt v1] at h3
    rw [mapAt v2] at h4
    cases h3
    cases h4
    have := R.dj i1 i2 c1 c2 d d' p b1 b2 s1 s2
    subst this
    exact bors_inj nd a1 a2
  · obtain ⟨e1, i1, c1, p1, a1, b1, s1, v1, _⟩ := slot z
    subst e1
    rw [mapAt v1] at y
    cases y
    rw [if_pos rfl]
    exact mem_lents.mpr ⟨i1, c1, d, List.mem_of_getElem? a1, b1, s1⟩
  · obtain ⟨i, b, d, _, g1, g2⟩ := mem_lents.mp z
    obtain ⟨p, q1, _, q3⟩ := R.owV g1
    rw [g2] at q1
    cases q1
    exact q3.some
theorem unlend (R : Rel K G e F H σ) {as : List A} {vs : List V} {ss as' : List Sl} {F' H' : Hp} (h : AsOk K F σ as vs) (nd : (bors as).Nodup) (ha : argsOf e as = some ss) (hl : as'.length = as.length)
    (R' : Rel K ⟨H, F, lents σ e as, vs.map some⟩ as' F' H' (vs.map some)) : Rel K G (back as as' e) F' H' σ := by
  have own : ∀ {i : Nat} {b : Bool} {d : D}, (back as as' e)[i]? = some (.ow b d) → ∃ d0, e[i]? = some (.ow b d0) := fun {i b d} z => by
    rcases back_at nd hl z with ⟨k, b', d', d2, h1, h2, h3, h4⟩ | q | ⟨q, _⟩
    · cases h4; exact ⟨d', h3⟩
    · cases q
    · exact ⟨d, q⟩
  refine ⟨by rw [back_len]; exact R.len, fun i s z => ?_, fun i j b c d d' p h1 h2 h3 h4 => ?_, fun i b d p z y => ?_, R'.fh, R.f0.trans R'.f0, fun a o z => ?_, fun a o z q => ?_, fun a z => ?_, fun i d z => ?_⟩
  · rcases back_at nd hl z with ⟨k, b, d, d', h1, h2, h3, h4⟩ | q | ⟨q, nb⟩
    · subst h4
      obtain ⟨p, g1, g2, g3⟩ := R.owV h3
      obtain ⟨v, w1, w2⟩ := asOk_at h h1
      have w3 : σ[i]? = some (some v) := w2
      rw [g1] at w3
      cases w3
      obtain ⟨p', q1, q2, q3⟩ := R'.owV h2
      rw [List.getElem?_map, w1] at q1
      cases q1
      exact ⟨p, by rw [g1]; rfl, q2, q3⟩
    · subst q; trivial
    · cases s with
      | un => trivial
      | sh d =>
        obtain ⟨v, g1, g2⟩ := R.sl i _ q
        exact ⟨v, g1, g2.mono R'.f0⟩
      | ow b d =>
        obtain ⟨p, g1, g2, g3⟩ := R.sl i _ q
        obtain ⟨o, ho⟩ := g3.some
        have np : p ∉ lents σ e as := fun w => by
          obtain ⟨i2, b2, d2, w1, w2, w3⟩ := mem_lents.mp w
          have := R.dj i i2 b b2 d d2 p q w2 (join_some g1) w3
          subst this
          exact nb ⟨b, d, rfl⟩ (List.mem_filterMap.mpr ⟨_, w1, rfl⟩)
        have hp' : H' p = some o := R'.bs p o ho np
        refine ⟨p, g1, ?_, g3.mono R'.f0 (hp'.trans ho.symm)⟩
        cases w : F' p with
        | none => rfl
        | some u =>
          rcases R'.nw p u w with x | x
          · have x' : F p = some u := x
            rw [g2] at x'; cases x'
          · have x' : H p = none := x
            rw [ho] at x'; cases x'
  · obtain ⟨d1, g1⟩ := own h1
    obtain ⟨d2, g2⟩ := own h2
    exact R.dj i j b c d1 d2 p g1 g2 h3 h4
  · obtain ⟨d1, g1⟩ := own z
    exact R.mn i b d1 p g1 y
  · rcases R'.nw a o z with x | x
    · exact R.nw a o x
    · exact .inr (R.free0 x)
  · refine R'.bs a o (R.bs a o z q) fun w => ?_
    obtain ⟨i, b, d, _, g1, g2⟩ := mem_lents.mp w
    have m := R.mn i b d a g1 g2
    cases b with
    | true => exact q (by simpa using m)
    | false => rw [show G.H0 a = none by simpa using m] at z; cases z
  · obtain ⟨o, q⟩ := R.as a z
    by_cases w : a ∈ lents σ e as
    · exact R'.as a w
    · exact ⟨o, R'.bs a o q w⟩
  · obtain ⟨d0, g⟩ := own z
    exact R.ar i d0 g
theorem new_out (R : Rel K G e F H σ) {as : List A} {as' : List Sl} {L : List Addr} {vs : L2.St} {F' H' : Hp} {d : D} {v : V} (nd : (bors as).Nodup) (hl : as'.length = as.length) (n : NewAt ⟨H, F, L, vs⟩ as' K F' H' vs d v) : NewAt G (back as as' e) K F' H' σ d v := by
  obtain ⟨p, rfl, h1, h2, h3, h4⟩ := n
  refine ⟨p, rfl, h1, h2, R.free0 h3, fun j b d' z y => ?_⟩
  have own : ∃ d0, e[j]? = some (.ow b d0) := by
    rcases back_at nd hl z with ⟨k, b', d', d2, h1, h2, h3, h4⟩ | q | ⟨q, _⟩
    · cases h4; exact ⟨d', h3⟩
    · cases q
    · exact ⟨_, q⟩
  obtain ⟨d0, g⟩ := own
  obtain ⟨p', q1, _, q3⟩ := R.owV g
  rw [y] at q1
  cases q1
  obtain ⟨o, ho⟩ := q3.some
  have h3' : H p = none := h3
  rw [ho] at h3'; cases h3'
end
/-- the meaning keeps the number of its arguments -/
def Keeps (Fd : List Sl → Rt) : Prop := ∀ ss, (∀ o d as', Fd ss = .ret o d as' → as'.length = ss.length) ∧ ∀ x as', Fd ss = .exc x as' → as'.length = ss.length
theorem runDef_keeps {n : Nat} {body : En → SR} : Keeps (runDef n body) := by
  intro ss
  unfold runDef
  by_cases h : okArgs ss = true
  · rw [if_pos h]
    refine ⟨fun o d as' e => ?_, fun x as' e => ?_⟩
    · split at e
      · split at e
        · rename_i q; cases e; exact outs_len q
        · cases e
      · split at e
        · rename_i q; cases e; exact outs_len q
        · cases e
      · split at e <;> cases e
      · cases e
    · split at e
      · split at e <;> cases e
      · split at e <;> cases e
      · split at e
        · rename_i q; cases e; exact outs_len q
        · cases e
      · cases e
  · rw [if_neg h]
    exact ⟨fun o d as' e => (nomatch e), fun x as' e => (nomatch e)⟩
section
variable {X : Cx} {W : WX} {CX : CXT} {k : Nat} {f : Addr} {fd : FuncData} {ps : List Str} {dvs : List V} {ds : List Value} {E : XK} {x m : Str} {p pos apos : Pos} {a : Expr} {es : List Expr} {fs : Ev (List A)} {Fd : List Sl → Rt}
/-- no exception -/
def NoX (Fd : List Sl → Rt) : Prop := ∀ ss y as', Fd ss ≠ .exc y as'
theorem call_run {G : Gd} {e1 : En} {F1 H1 : Hp} {σ : L2.St} {as : List A} {vs : List V} {n : Nat} {β : Type} {g : Bool × D → En → M.R β} {Q : VK} {Post : Hp → M.R β → Prop} (kp : Keeps Fd) (hn : as.length = n)
    (R1 : Rel X.K G e1 F1 H1 σ) (o1 : AsOk X.K F1 σ as vs) (nb : Post F1 .bad → False) (h : Post F1 ((callRt Fd as e1).bind g))
    (ok : ∀ o d e2 v F' H', Rel X.K G e2 F' H' σ → Same F1 F' → RtOk X.K G e2 F' H' σ o d v → Post F1 (g (o, d) e2) → Q v H')
    (ex : ∀ y e2 cls dd F' H', (∃ ss as', Fd ss = .exc y as') → Rel X.K G e2 F' H' σ → Same F1 F' → XOk X F' y cls dd → Post F1 (.ex y e2) → E cls dd H') : spD X.K X.mg n Fd vs H1 Q E := by
  unfold callRt at h
  by_cases nd : (bors as).Nodup
  · rw [if_pos nd] at h
    cases z : argsOf e1 as with
    | none => rw [z] at h; exact (nb h).elim
    | some ss =>
      rw [z] at h
      simp only at h
      have R2 := lend R1 o1 nd z
      refine ⟨by rw [o1.len, hn], F1, ss, lents σ e1 as, by rw [argsOf_len z, hn], R2, ?_⟩
      cases y : Fd ss with
      | bad => rw [y] at h; exact (nb h).elim
      | ret o d as' =>
        rw [y] at h
        simp only [M.R.bind] at h
        intro v F' H' R' s' ro
        have hl : as'.length = as.length := ((kp ss).1 o d as' y).trans (argsOf_len z)
        refine ok o d _ v F' H' (unlend R1 o1 nd z hl R') s' ?_ h
        unfold RtOk at ro ⊢
        cases o with
        | false => rw [if_neg Bool.false_ne_true] at ro ⊢; exact ro
        | true => rw [if_pos rfl] at ro ⊢; exact new_out R1 nd hl ro
      | exc xx as' =>
        rw [y] at h
        simp only [M.R.bind] at h
        intro cls dd F' H' R' s' xo
        have hl : as'.length = as.length := ((kp ss).2 xx as' y).trans (argsOf_len z)
        exact ex xx _ cls dd F' H' ⟨_, _, y⟩ (unlend R1 o1 nd z hl R') s' xo h
  · rw [if_neg nd] at h; exact (nb h).elim
/-- as NewAt, frozen -/
theorem NewAt.frz {K : PySem.W.Frag} {G : Gd} {en : En} {F H : Hp} {σ : L2.St} {d : D} {v : V} (R' : Rel K G en F H σ) (n : NewAt G en K F H σ d v) : ∃ F', Rel K G en F' H σ ∧ Same F F' ∧ Rep K F' v d := by
  obtain ⟨p, rfl, n, o, h0, nd⟩ := n
  obtain ⟨ob, ho⟩ := o.some
  have sF : Same F (upd F p ob) := fun b u z => by
    have ne : b ≠ p := fun y => by rw [y, n] at z; cases z
    rw [upd_ne ne]; exact z
  have rp : Rep K (upd F p ob) (.ref p) d := o.rep sF (by rw [upd_same, ho])
  refine ⟨upd F p ob, ?_, sF, rp⟩
  exact {
    len := R'.len
    sl := fun j s z => by
      have y := R'.sl j s z
      cases s with
      | un => trivial
      | sh d => obtain ⟨v, g1, g2⟩ := y; exact ⟨v, g1, g2.mono sF⟩
      | ow bb d' =>
        obtain ⟨p', g1, g2, g3⟩ := y
        have ne : p' ≠ p := fun w => nd j bb d' z (by rw [← w]; exact join_some g1)
        exact ⟨p', g1, by rw [upd_ne ne]; exact g2, g3.mono sF rfl⟩
    dj := R'.dj
    mn := R'.mn
    fh := fun b u z => by
      by_cases y : b = p
      · rw [y, upd_same] at z; cases z; rw [y]; exact ho
      · rw [upd_ne y] at z; exact R'.fh _ _ z
    f0 := R'.f0.trans sF
    nw := fun b u z => by
      by_cases y : b = p
      · rw [y]; exact .inr h0
      · rw [upd_ne y] at z; exact R'.nw b u z
    bs := R'.bs
    as := R'.as
    ar := R'.ar }
theorem rt_frz {K : PySem.W.Frag} {G : Gd} {en : En} {F H : Hp} {σ : L2.St} {d : D} {v : V} {o : Bool} (R' : Rel K G en F H σ) (n : RtOk K G en F H σ o d v) : ∃ F', Rel K G en F' H σ ∧ Same F F' ∧ Rep K F' v d := by
  unfold RtOk at n
  cases o with
  | false => rw [if_neg Bool.false_ne_true] at n; exact ⟨F, R', .refl _, n⟩
  | true => rw [if_pos rfl] at n; exact n.frz R'
theorem alen_nil {en e1 : En} {as : List A} (h : eNil en = .ok as e1) : as.length = 0 := by cases h; rfl
theorem alen_cons {fa : Ev A} {fs : Ev (List A)} {n : Nat} (h : ∀ en as e1, fs en = .ok as e1 → as.length = n) : ∀ en as e1, eCons fa fs en = .ok as e1 → as.length = n + 1 := by
  intro en as e1 z
  unfold eCons at z
  cases q : fa en with
  | bad => rw [q] at z; cases z
  | ex y e => rw [q] at z; cases z
  | ok a e2 =>
    rw [q] at z
    simp only [M.R.bind] at z
    cases q2 : fs e2 with
    | bad => rw [q2] at z; cases z
    | ex y e => rw [q2] at z; cases z
    | ok as2 e3 =>
      rw [q2] at z
      cases z
      exact congrArg (· + 1) (h e2 as2 _ q2)
end
end M
set_option Elab.async false
set_option linter.all false
set_option maxRecDepth 100000
set_option autoImplicit false
/-! MG: a def's promise that knows that no object's text is being made around it (repr wants that), and a law's end over it. -/
namespace M
open PySem PySem.Spec PyProof.Rows L2
/-- as FnOk, where no object's text is in the making around the call -/
structure FnG (P : Program) (w : World) (K : PySem.W.Frag) (mg : Str → Option Value) (bs : Heap) (cx : CXT) (k : Nat) (f : Addr) (fd : FuncData) (ps : List Str) (sp : Sp) : Prop where
  len : ∀ us H Q E, sp us H Q E → us.length = ps.length
  run : ∀ (A : Around) (out : List PySem.Env) (s : Shared) (H : Hp) (ar : Args) (us : List Value) (vs : List V) (Q : VK) (E : XK), Room k A → A.guards = some [] → Env0 P w K mg bs A out s H → BindsTo s fd ar (ps.zip us) → Vals vs us → sp vs H Q E →
    codeAny (model P w) A (.call (.ref f) ar) (CR cx out P w H s Q E) s
section
variable {P : Program} {w : World} {K : PySem.W.Frag} {mg : Str → Option Value} {bs : Heap}
theorem FnG.mono {cx : CXT} {j k : Nat} {f : Addr} {fd : FuncData} {ps : List Str} {sp : Sp} (F : FnG P w K mg bs cx j f fd ps sp) (h : j ≤ k) : FnG P w K mg bs cx k f fd ps sp :=
  ⟨F.len, fun A out s H ar us vs Q E r => F.run A out s H ar us vs Q E (r.mono h)⟩
theorem FnG.of {cx : CXT} {k : Nat} {f : Addr} {fd : FuncData} {ps : List Str} {sp : Sp} (F : FnOk P w K mg bs cx k f fd ps sp) : FnG P w K mg bs cx k f fd ps sp :=
  ⟨F.len, fun A out s H ar us vs Q E r _ => F.run A out s H ar us vs Q E r⟩
theorem guards_deeper {A : Around} {env : PySem.Env} (h : A.guards = some []) : (A.deeper env).guards = some [] := by
  first | exact h | (simp [Around.deeper, h])
/-- a def of the text, by its body, where no object's text is in the making -/
theorem fnG_of {cx : CXT} {k : Nat} {f : Addr} {nm qu : Str} {pa : Arguments} {bd : List Stmt} {sc : Scope} {v1 v2 v3 v4 cdv v5 v6 : Value} {a1 a2 : Option Addr}
    {sl : Array (Option Value)} {N ps : List Str} {sp : Sp} (lk : K.lookup f = some ⟨v6, a2, .func (PySem.W.fnOf nm qu pa bd sc v1 v2 v3 v4 a1 cdv v5), sl⟩) (hc : PySem.W.codeIn K cdv qu = true) (S : FnScope N ps sc) (len : ∀ us H Q E, sp us H Q E → us.length = ps.length)
    (body : ∀ (A : Around) (out : List PySem.Env) (s : Shared) (H : Hp) (vs : List V) (Q : VK) (E : XK), Room k (A.deeper (envOfC qu sc s.heap.objs.size f cdv)) → (A.deeper (envOfC qu sc s.heap.objs.size f cdv)).guards = some [] → sp vs H Q E →
      ∃ t, PSs (cxOf cx P w K mg bs N qu sc f cdv A out s H E) bd t ∧ t { nx := fun _ H1 => Q .non H1, rt := Q } (start N vs) H) :
    FnG P w K mg bs cx (k + 1) f (PySem.W.fnOf nm qu pa bd sc v1 v2 v3 v4 a1 cdv v5) ps sp := by
  refine ⟨len, fun A out s H ar us vs Q E r gd e0 hb rv hp => ?_⟩
  have l1 := len _ _ _ _ hp
  have k1 : K.In s.heap := e0.mod.kin.keeps fun c o q => (e0.bs c o q).1
  have l2 : s.heap.NoLimit := e0.mod.nolimit.keeps fun c o q => (e0.bs c o q).1
  have kinds : ∀ z ∈ ps.zip us, sc.names.lookup z.1 = some .local ∨ (sc.names.lookup z.1 = some .cell ∧ ((cellsFrom (s.heap.objs.size + 1) sc.names []).lookup z.1).isSome = true) := by
    rintro ⟨n, v⟩ hz
    cases S.par n (List.of_mem_zip hz).1 with
    | inl q => exact .inl q
    | inr q => exact .inr ⟨q, PySem.W.cellsFrom_some _ _ _ (.inl q)⟩
  refine codeAny_call_function r.depth (k1 _ _ lk) rfl S.co S.gen rfl (PySem.W.codeRec_of k1 hc) (hb _ _ _ _ (wpAny_newFunctionEnv_cells S.kind kinds fun ev q s1 x => ?_))
  subst q
  refine ⟨l2.keeps x.toInCall.keep, codeAny_func ?_⟩
  obtain ⟨t, ht, hq⟩ := body A out s H vs Q E (r.deeper _) (guards_deeper gd) hp
  have I0 : Inv (cxOf cx P w K mg bs N qu sc f cdv A out s H E) [] (start N vs) H s1 := inv_start S r.hd e0 l1 rv x
  refine wpAny_mono (ht.run [] s1 (start N vs) H _ I0 hq) (fun fl s2 hs => ?_) fun _ _ q => q
  cases fl with
  | ret u => exact (fun ⟨v, σ2, H2, J, q1, q2⟩ => ⟨v, H2, J.os, J.bare, J.base, J.hok, q1, q2⟩) hs
  | next => exact (fun ⟨σ2, H2, J, q2⟩ => ⟨.non, H2, J.os, J.bare, J.base, J.hok, rfl, q2⟩) hs
  | brk => obtain ⟨_, _, _, q⟩ := hs; exact q.elim
  | cont => obtain ⟨_, _, _, q⟩ := hs; exact q.elim
/-- the end of a law over such promises -/
theorem law_callG {mb : Str → Option Value} {cx : CXT} {k : Nat} {fa a : Addr} {fd : FuncData} {x : Str} {sp : Sp} {s1 : Shared} {us : List Value} {ns : List Int}
    (k1 : K.In s1.heap) (n1 : s1.heap.Ns mainGlobals mg) (n2 : s1.heap.Ns builtinsNs mb) (n3 : ∀ y : Str, y ≠ "__name__" → mb y = bootBuiltins y) (l1 : s1.heap.NoLimit) (g1 : s1.gens = #[])
    (a1 : s1.heap.get? a = some { cls := .type "list", data := .seq us.toArray }) (i1 : IntsAre us ns) (z1 : ns.length ≤ sizeLine) (r1 : Room k callerA)
    (F : ∀ bs : Heap, K.In bs → bs.Ns mainGlobals mg → FnG P w K mg bs cx k fa fd [x] sp) (b1 : ∀ (s : Shared) (u : Value), BindsTo s fd ⟨[u], []⟩ [(x, u)])
    (hp : ∀ H : Hp, Only H → SqL K H a (ns.map V.int) → sp [.ref a] H (fun v _ => v = .bl true) fun _ _ _ => False) (hx : ∀ H e s2, cx [] H s1 (fun _ _ _ => False) e s2 → False) :
    codeAny (model P w) callerA (.call (.ref fa) ⟨[.ref a], []⟩) (fun r s2 => r = .ok (.ret (.bool true)) ∧ OldK s1.heap s2.heap ∧ s2.os = s1.os ∧ AllBare s2.gens) s1 := by
  have rv := vals_ints i1
  have core : ∀ H : Hp, Only H → SqL K H a (ns.map V.int) → HOk P w H s1.heap → (∀ b, H b ≠ none → b = a) → (H a ≠ none → K.lookup a = none) → codeAny (model P w) callerA (.call (.ref fa) ⟨[.ref a], []⟩) (fun r s2 => r = .ok (.ret (.bool true)) ∧ OldK s1.heap s2.heap ∧ s2.os = s1.os ∧ AllBare s2.gens) s1 := by
    intro H hO hS hok hA hK
    have nod : ∀ {b : Addr} {o : Obj} {es : Array DictEntry} {ep : Nat}, s1.heap.get? b = some o → o.data = .dict es ep → H b = none := fun {b o es ep} e d => by
      cases q : H b with
      | none => rfl
      | some u =>
        obtain rfl : b = a := hA b (by rw [q]; simp)
        rw [a1] at e
        cases e
        exact nomatch (show Data.seq us.toArray _ = Data.dict es ep from d)
    have nsK : ∀ {b : Addr} {m : Str → Option Value}, s1.heap.Ns b m → (hidT s1.heap H).Ns b m := fun {b m} h => let ⟨o, es, ep, e, d, r⟩ := h; ⟨o, es, ep, hidT_get e (nod e d), d, r⟩
    have k2 : K.In (hidT s1.heap H) := fun b o e => hidT_get (k1 b o e) (by
      cases q : H b with
      | none => rfl
      | some u =>
        obtain rfl : b = a := hA b (by rw [q]; simp)
        rw [hK (by rw [q]; simp)] at e
        cases e)
    have m2 : Mod K mg (hidT s1.heap H) := ⟨k2, nsK n1, ⟨mb, nsK n2, n3⟩, (fun ⟨mc, h1, h2⟩ => ⟨mc, nsK h1, h2⟩ : s1.heap.NoLimit → (hidT s1.heap H).NoLimit) l1⟩
    have e0 : Env0 P w K mg (hidT s1.heap H) callerA [] s1 H := ⟨rfl, m2, fun b o q => of_hidT q, Nat.le_of_eq (hidT_size _ _), trivial, (fun b q => absurd (show b ∈ ([] : List Addr) from q) (by simp)), hok, .of_eq g1⟩
    refine codeAny_mono ((F _ k2 (nsK n1)).run callerA [] s1 H ⟨[.ref a], []⟩ [.ref a] [.ref a] _ _ r1 rfl e0 (b1 s1 (.ref a)) (.cons rfl .nil) (hp H hO hS)) fun r s2 h => ?_
    cases r with
    | error e => exact (hx H e s2 h).elim
    | ok fl =>
      cases fl with
      | ret u =>
        obtain ⟨v, H2, w1, w2, w3, w4, w5, w6⟩ := h
        obtain rfl : v = .bl true := w6
        obtain rfl : u = Value.bool true := w5
        refine ⟨rfl, OldK.of_keep fun b o e => ?_, w1, w2⟩
        cases q : H b with
        | none => exact w3.keep b o e q (fun z => absurd (show b ∈ ([] : List Addr) from z) (by simp)) (by simp)
        | some u =>
          cases hO b with
          | inl z => rw [q] at z; cases z
          | inr z =>
            obtain ⟨ob, xs, z⟩ := z
            have y1 := (hok b _ z).1
            have y2 := (w4 b _ (w3.frzs b ob _ z)).1
            rw [e] at y1
            cases y1
            exact y2
      | _ => exact False.elim h
  cases hk : K.lookup a with
  | some o =>
    have e := k1 a o hk
    rw [a1] at e
    cases e
    exact core (fun _ => none) (fun _ => .inl rfl) (.inr ⟨_, us.toArray, _, hk, rfl, rfl, rfl, by rw [List.size_toArray, i1.length]; exact z1, by simpa using rv⟩) (fun b u z => by cases z) (fun b z => absurd rfl z) fun z => absurd rfl z
  | none =>
    refine core (fun b => if b = a then some (.frz { cls := .type "list", data := .seq us.toArray } (.lst (ns.map V.int))) else none) (fun b => ?_) (.inl (.inr ⟨{ cls := .type "list", data := .seq us.toArray }, if_pos rfl⟩)) (fun b u z => ?_) (fun b z => ?_) fun _ => hk
    · by_cases y : b = a
      · exact .inr ⟨_, _, if_pos y⟩
      · exact .inl (if_neg y)
    · by_cases y : b = a
      · cases (if_pos y).symm.trans z
        subst y
        exact ⟨a1, by rw [List.length_map]; exact z1, us, _, rv, a1⟩
      · cases (if_neg y).symm.trans z
    · by_cases y : b = a
      · exact y
      · exact absurd (if_neg y) z
theorem walk_ofG {l : PySem.W.OpenLaw} {n k : Nat} {q : Program} {loose : List Str} {XP : (Str → Option Value) → Heap → Prop} {YP : World → Heap → Prop} {d : DefRec} {Kf : Params → PySem.W.Frag} {sp : World → (Str → Option Value) → Sp} {x : Str}
    (h1 : l.most = some n) (h2 : n ≤ sizeLine) (h3 : d.params.defaults = []) (h4 : Room k callerA) (h5 : ∀ (w : World) (h : Heap), YP w h → (Kf w.params).In h)
    (F : ∀ (w : World) (mg : Str → Option Value) (fa : Addr) (h : Heap), (Kf w.params).In h → h.Ns mainGlobals mg → mg d.name = some (.ref fa) →
      ∃ fd : FuncData, (∀ (s : Shared) (u : Value), BindsTo s fd ⟨[u], []⟩ [(x, u)]) ∧ ∀ bs : Heap, (Kf w.params).In bs → bs.Ns mainGlobals mg → FnG l.prog w (Kf w.params) mg bs CX0 k fa fd [x] (sp w mg))
    (hp : ∀ (w : World) (mg : Str → Option Value) (H : Hp) (a : Addr) (ns : List Int), ns.length ≤ n → Only H → SqL (Kf w.params) H a (ns.map V.int) → sp w mg [.ref a] H (fun v _ => v = .bl true) fun _ _ _ => False) :
    PySem.W.WalkO q loose XP YP l.row.toRowW d [] (fun f us => PySem.call f us) := by
  refine Att.attach_call h1 h3 fun w s0 s1 mg mb fa o pm cd doc a us ns G Y ho hd hcd hmg hobj hints hlen hg => ?_
  have k1 := h5 w _ Y
  obtain ⟨fd, hb, hF⟩ := F w mg fa _ k1 G.T.g hmg
  exact law_callG k1 G.T.g G.T.b G.T.builtins G.T.nolimit hg hobj hints (Nat.le_trans hlen h2) h4 hF hb (fun H hO hS => hp w mg H a ns hlen hO hS) fun H e s2 z => z
end
end M
set_option Elab.async false
set_option linter.all false
set_option maxRecDepth 100000
set_option autoImplicit false
/-! M5: defs and their calls. -/
namespace M
open PySem PySem.Spec PyProof.Rows L2
/-- what a def says that lets no exception out -/
def run0 (n : Nat) (body : En → SR) (as : List Sl) : Rt := match runDef n body as with
  | .exc _ _ => .bad
  | r => r
theorem run0_nox {n : Nat} {body : En → SR} : NoX (run0 n body) := by
  intro ss y as' h
  unfold run0 at h
  split at h
  · cases h
  · rename_i r q; exact q y as' h
theorem run0_keeps {n : Nat} {body : En → SR} : Keeps (run0 n body) := by
  intro ss
  refine ⟨fun o d as' h => ?_, fun x as' h => (run0_nox ss x as' h).elim⟩
  unfold run0 at h
  split at h
  · cases h
  · exact (runDef_keeps ss).1 o d as' h
section
variable {P : Program} {w : World} {K : PySem.W.Frag} {mg : Str → Option Value} {bs : Heap}
/-- THE RULE for a def that lets no exception out -/
theorem def_ok {x qual : Str} {st : Stmt} {f : Addr} {fd : FuncData} {N ps : List Str} {k : Nat} {body : En → SR} (F : Fun K x qual st f fd) (S : FnScope N ps (defScope st)) (hps : ps.length ≤ N.length)
    (hbody : ∀ (cdv : Value) (A : Around) (out : List PySem.Env) (s : Shared) (H : Hp) (E : XK), Room k (A.deeper (envOfC qual (defScope st) s.heap.objs.size f cdv)) → (A.deeper (envOfC qual (defScope st) s.heap.objs.size f cdv)).guards = some [] →
      DSs (cxOf CX0 P w K mg bs N qual (defScope st) f cdv A out s H E).nox WX0 (defBody st) body) :
    FnG P w K mg bs CX0 (k + 1) f fd ps (spD K mg ps.length (run0 N.length body)) := by
  obtain ⟨oc, od, kV, doc, pm, an, cdv, ct, osl, rfl, lk, hcd⟩ := F.ex
  refine fnG_of lk hcd S (fun vs H Q E h => h.1) (fun A out s H vs Q E hr gd h => ?_)
  obtain ⟨t, p, q⟩ := (hbody cdv A out s H E hr gd).ex
  refine ⟨t, p.nox, ?_⟩
  refine body_ok (X := (cxOf CX0 P w K mg bs N qual (defScope st) f cdv A out s H E).nox) (W := WX0) (E := fun _ _ _ => False) rfl rfl (fun _ _ _ _ z => z) rfl hps q ?_
  obtain ⟨h1, F', as, As, h2, h3, h4⟩ := h
  refine ⟨h1, F', as, As, h2, h3, ?_⟩
  show PostC K mg _ _ _ _ _ (runDef N.length body as)
  unfold run0 at h4
  split at h4
  · exact h4.elim
  · rename_i r z
    cases y : runDef N.length body as with
    | bad => rw [y] at h4; exact h4
    | ret o d as' => rw [y] at h4; exact h4
    | exc yy as' => exact (z yy as' y).elim
end
section
variable {X : Cx} {W : WX} {k : Nat} {f : Addr} {fd : FuncData} {ps : List Str} {x : Str} {p pos : Pos} {a : Expr} {es : List Expr} {fs : Ev (List A)} {Fd : List Sl → Rt} {sp : Sp} {t : TA}
theorem runG {pins : List (Addr × Obj)} {σ : L2.St} {H : Hp} {s : Shared} {Q : VK} {us : List Value} {vs : List V} (F : FnG X.prog X.w X.K X.mg X.base CX0 k f fd ps sp) (r : Room k X.A) (gd : X.A.guards = some []) (hb : Binds X.K fd ps [])
    (I : Inv X pins σ H s) (rv : Vals vs us) (h : sp vs H Q E0) : wpAny (model X.prog X.w) X.A (call (.ref f) us) (EP X pins σ Q) X.xe s := by
  have l1 : us.length = ps.length := by rw [← rv.length]; exact F.len _ _ _ _ h
  have l2 : (us ++ []).length = ps.length := by rw [List.append_nil]; exact l1
  have b1 := hb s us I.kIn l2
  rw [List.append_nil] at b1
  refine wpAny_call (codeAny_mono (F.run X.A X.stack s H ⟨us, []⟩ us vs Q E0 r gd I.env0 b1 rv h) fun res s1 q => ?_)
  cases res with
  | error e => exact False.elim q
  | ok fl =>
    cases fl with
    | ret u => exact I.after q
    | _ => exact False.elim q
theorem pe_callG (F : FnG X.prog X.w X.K X.mg X.base CX0 k f fd ps sp) (r : Room k X.A) (gd : X.A.guards = some []) (hg : Gl X x) (hm : X.mg x = some (.ref f)) (hk : PySem.W.keepIn X.K (.ref f) = true) (hb : Binds X.K fd ps [])
    (ha : PA X (a :: es) t) (hdb : (x == ("__debug__" : Str)) = false := by decide) (he : starEach (a :: es) X.env = (false, eval a X.env) :: starEach es X.env := by rfl) (hpl : (backTo pos (starEach es X.env)).any (·.1) = false := by rfl) :
    PE X (.Call (.Name x p) (a :: es) [] pos) (fun σ H Q => t σ H fun vs H1 => sp vs H1 Q E0) :=
  ⟨fun pins s σ H Q I h => wpAny_Call_Name_kw (ld_glob I hg hm (PySem.W.callWith_K (h₀ := X.base) I.ok.mod.kin hk (thn (ha.run pos pins s σ H _ I h) fun us s1 ⟨vs, H1, I1, rv, q⟩ => ⟨I1.kIn, runG F r gd hb I1 rv q⟩) he hpl) hdb)⟩
theorem dx_call (hF : FnG X.prog X.w X.K X.mg X.base CX0 k f fd ps (spD X.K X.mg ps.length Fd)) (kp : Keeps Fd) (nx : NoX Fd) (hr : Room k X.A) (gd : X.A.guards = some []) (hm : X.mg x = some (.ref f)) (hk : PySem.W.keepIn X.K (.ref f) = true) (hb : Binds X.K fd ps [])
    (ha : DA X W (a :: es) fs) (hn : ∀ en as e1, fs en = .ok as e1 → as.length = ps.length) (hg : Gl X x := by rfl) (hdb : (x == ("__debug__" : Str)) = false := by decide) (he : starEach (a :: es) X.env = (false, eval a X.env) :: starEach es X.env := by rfl) (hpl : (backTo pos (starEach es X.env)).any (·.1) = false := by rfl) :
    DX X W (.Call (.Name x p) (a :: es) [] pos) (eCall Fd fs) := by
  obtain ⟨t, pt, q⟩ := ha.ex
  refine ⟨_, pe_callG hF hr gd hg hm hk hb pt hdb he hpl, fun G en F H σ Q R h => q G en F H σ _ R ?_⟩
  unfold eCall at h
  cases z : fs en with
  | bad => rw [z] at h; exact h
  | ex y e1 => rw [z] at h; exact h
  | ok as e1 =>
    rw [z] at h
    intro vs F1 H1 R1 s1 o1
    refine call_run (Post := fun _ r => PE1 X W G F σ r Q) kp (hn en as e1 z) R1 o1 (fun w => w) h (fun o d e2 v F' H' R' s' ro w => ?_) (fun y e2 cls dd F' H' w => ?_)
    · obtain ⟨F2, R2, s2, r2⟩ := rt_frz R' ro
      exact w v F2 H' R2 (s1.trans (s'.trans s2)) r2
    · obtain ⟨ss, as', w⟩ := w
      exact (nx ss y as' w).elim
theorem do_call (hF : FnG X.prog X.w X.K X.mg X.base CX0 k f fd ps (spD X.K X.mg ps.length Fd)) (kp : Keeps Fd) (nx : NoX Fd) (hr : Room k X.A) (gd : X.A.guards = some []) (hm : X.mg x = some (.ref f)) (hk : PySem.W.keepIn X.K (.ref f) = true) (hb : Binds X.K fd ps [])
    (ha : DA X W (a :: es) fs) (hn : ∀ en as e1, fs en = .ok as e1 → as.length = ps.length) (hg : Gl X x := by rfl) (hdb : (x == ("__debug__" : Str)) = false := by decide) (he : starEach (a :: es) X.env = (false, eval a X.env) :: starEach es X.env := by rfl) (hpl : (backTo pos (starEach es X.env)).any (·.1) = false := by rfl) :
    DO X W (.Call (.Name x p) (a :: es) [] pos) (oCall Fd fs) := by
  obtain ⟨t, pt, q⟩ := ha.ex
  refine ⟨_, pe_callG hF hr gd hg hm hk hb pt hdb he hpl, fun G en F H σ Q R h => q G en F H σ _ R ?_⟩
  unfold oCall at h
  cases z : fs en with
  | bad => rw [z] at h; exact h
  | ex y e1 => rw [z] at h; exact h
  | ok as e1 =>
    rw [z] at h
    intro vs F1 H1 R1 s1 o1
    refine call_run (Post := fun _ r => PostO X W G F σ r Q) kp (hn en as e1 z) R1 o1 (fun w => w) h (fun o d e2 v F' H' R' s' ro w => ?_) (fun y e2 cls dd F' H' w => ?_)
    · cases o with
      | false => rw [if_neg Bool.false_ne_true] at w; exact w.elim
      | true =>
        rw [if_pos rfl] at w
        unfold RtOk at ro
        rw [if_pos rfl] at ro
        exact w v F' H' R' (s1.trans s') ro
    · obtain ⟨ss, as', w⟩ := w
      exact (nx ss y as' w).elim
end
end M
set_option Elab.async false
set_option linter.all false
set_option maxRecDepth 100000
set_option autoImplicit false
/-! M6: comprehensions. -/
namespace M
open PySem PySem.Spec PyProof.Rows L2
def wipeE : List Nat → En → En
  | [], e => e
  | v :: vs, e => (wipeE vs e).set v .un
/-- the outer places of the block's own names, as they were -/
def restE : List Nat → En → En → En
  | [], _, e => e
  | v :: vs, e0, e => (restE vs e0 e).set v (match e0[v]? with
    | some (.sh d) => .sh d
    | _ => .un)
def R.nox {α : Type} : M.R α → M.R α
  | .ex _ _ => .bad
  | r => r
def lcD (g : Gt) (t : Ev Bool) (f : Ev A) (own : List Nat) : List D → List D → En → M.R D
  | [], acc, e => .ok (.list acc) e
  | d :: ds, acc, e => match g d (wipeE own e) with
    | none => .bad
    | some e1 => (t e1).nox.bind fun b e2 => if b = true then ((eHold f e2).nox.bind fun x e3 => if small (acc.length + 1) then lcD g t f own ds (acc ++ [x]) (restE own e e3) else .bad) else lcD g t f own ds acc (restE own e e2)
def oLc (fi : Ev (List D)) (g : Gt) (t : Ev Bool) (f : Ev A) (own : List Nat) : Ev D := fun e => (fi e).bind fun ds e1 => lcD g t f own ds [] e1
def tYes1 : Ev Bool := fun e => .ok true e
section
variable {K : PySem.W.Frag} {G : Gd} {en : En} {F H : Hp} {σ σ' : L2.St}
/-- other slots where nothing is known -/
theorem Rel.sig (R : Rel K G en F H σ) (hl : σ'.length = σ.length) (h : ∀ (i : Nat) (s : Sl), en[i]? = some s → (∀ b d, s ≠ .ow b d) ∧ (∀ d, s ≠ .sh d) ∨ σ'[i]? = σ[i]?) : Rel K G en F H σ' := by
  have ow : ∀ {i : Nat} {b : Bool} {d : D}, en[i]? = some (.ow b d) → σ'[i]? = σ[i]? := fun {i b d} e => by
    rcases h i _ e with ⟨z, _⟩ | z
    · exact (z b d rfl).elim
    · exact z
  refine ⟨by rw [R.len, hl], fun i s e => ?_, fun i j b c d e p h1 h2 h3 h4 => ?_, fun i b d p h1 h3 => ?_, R.fh, R.f0, R.nw, R.bs, R.as, fun i d e => (ow e).trans (R.ar i d e)⟩
  · cases s with
    | un => trivial
    | sh d =>
      rcases h i _ e with ⟨_, z⟩ | z
      · exact (z d rfl).elim
      · rw [z]; exact R.sl i _ e
    | ow b d => rw [ow e]; exact R.sl i _ e
  · exact R.dj i j b c d e p h1 h2 ((ow h1).symm.trans h3) ((ow h2).symm.trans h4)
  · exact R.mn i b d p h1 ((ow h1).symm.trans h3)
theorem wipeE_len : ∀ (vs : List Nat) (e : En), (wipeE vs e).length = e.length
  | [], _ => rfl
  | v :: vs, e => by unfold wipeE; rw [List.length_set, wipeE_len vs e]
theorem wipeE_at : ∀ (vs : List Nat) (e : En) {i : Nat} {s : Sl}, (wipeE vs e)[i]? = some s → (i ∈ vs → s = .un) ∧ (i ∉ vs → e[i]? = some s)
  | [], e, i, s, h => ⟨fun z => by simp at z, fun _ => h⟩
  | v :: vs, e, i, s, h => by
    unfold wipeE at h
    by_cases hv : v = i
    · subst hv
      by_cases hl : v < (wipeE vs e).length
      · rw [List.getElem?_set_self hl] at h
        cases h
        exact ⟨fun _ => rfl, fun z => (z List.mem_cons_self).elim⟩
      · rw [List.getElem?_eq_none (by rw [List.length_set]; omega)] at h; cases h
    · rw [List.getElem?_set_ne hv] at h
      obtain ⟨h1, h2⟩ := wipeE_at vs e h
      exact ⟨fun z => (List.mem_cons.mp z).elim (fun y => (hv y.symm).elim) h1, fun z => h2 fun y => z (List.mem_cons_of_mem _ y)⟩
theorem Rel.wipeU (R : Rel K G en F H σ) : ∀ vs : List Nat, Rel K G (wipeE vs en) F H σ
  | [] => R
  | v :: vs => (Rel.wipeU R vs).forget
theorem wipe_at (σ : L2.St) : ∀ (vs : List Nat) {i : Nat}, i ∉ vs → (wipe σ vs)[i]? = σ[i]?
  | [], _, _ => rfl
  | v :: vs, i, h => by
    unfold wipe
    rw [List.getElem?_set_ne (fun z => h (by rw [z]; exact List.mem_cons_self)), wipe_at σ vs fun z => h (List.mem_cons_of_mem _ z)]
theorem Rel.wiped (R : Rel K G en F H σ) (vs : List Nat) : Rel K G (wipeE vs en) F H (wipe σ vs) := by
  refine (R.wipeU vs).sig (wipe_length σ vs) fun i s e => ?_
  obtain ⟨h1, h2⟩ := wipeE_at vs en e
  by_cases z : i ∈ vs
  · rw [h1 z]; exact .inl ⟨fun _ _ => Sl.noConfusion, fun _ => Sl.noConfusion⟩
  · exact .inr (wipe_at σ vs z)
theorem wipe_alike : ∀ {vs : List Nat} {ix : List Nat}, (∀ i ∈ ix, i ∈ vs) → Alike ix (wipe σ vs) σ' → wipe σ' vs = wipe σ vs := by
  intro vs ix hs ⟨hl, h⟩
  have none_at : ∀ (τ : L2.St) (vs : List Nat) {i : Nat}, i ∈ vs → i < τ.length → (wipe τ vs)[i]? = some none := by
    intro τ vs
    induction vs with
    | nil => intro i z; simp at z
    | cons v vs ih =>
      intro i z hi
      unfold wipe
      by_cases hv : v = i
      · subst hv
        rw [List.getElem?_set_self (by rw [wipe_length]; exact hi)]
      · rw [List.getElem?_set_ne hv]
        exact ih ((List.mem_cons.mp z).resolve_left fun y => hv y.symm) hi
  apply List.ext_getElem?
  intro i
  by_cases z : i ∈ vs
  · by_cases hi : i < σ.length
    · rw [none_at σ vs z hi, none_at σ' vs z (by rw [hl, wipe_length]; exact hi)]
    · rw [List.getElem?_eq_none (by rw [wipe_length, hl, wipe_length]; omega), List.getElem?_eq_none (by rw [wipe_length]; omega)]
  · rw [wipe_at σ' vs z, h i fun y => z (hs i y)]
/-- back to the outer names -/
theorem Rel.rest {e0 : En} {F0 H0 : Hp} (R0 : Rel K G e0 F0 H0 σ) {vs : List Nat} {ix : List Nat} (hs : ∀ i ∈ ix, i ∈ vs) (al : Alike ix (wipe σ vs) σ') (R : Rel K G en F H σ') (sF : Same F0 F) : Rel K G (restE vs e0 en) F H σ := by
  have al2 : Alike vs σ' σ := by
    refine ⟨?_, fun j z => ?_⟩
    · rw [al.1, wipe_length]
    · rw [al.2 j fun y => z (hs j y), wipe_at σ vs z]
  have R1 : Rel K G (wipeE vs en) F H σ := by
    refine (R.wipeU vs).sig al2.1 fun i s e => ?_
    obtain ⟨h1, h2⟩ := wipeE_at vs en e
    by_cases z : i ∈ vs
    · rw [h1 z]; exact .inl ⟨fun _ _ => Sl.noConfusion, fun _ => Sl.noConfusion⟩
    · exact .inr (al2.2 i z)
  -- put back, place by place
  have put : ∀ {en2 : En} (v : Nat), Rel K G en2 F H σ → Rel K G (en2.set v (match e0[v]? with
    | some (.sh d) => .sh d
    | _ => .un)) F H σ := fun {en2} v R2 => by
    split
    · rename_i d e
      cases q : en2[v]? with
      | none =>
        have : en2.set v (.sh d) = en2 := List.set_eq_of_length_le (List.getElem?_eq_none_iff.mp q)
        rw [this]
        exact R2
      | some s =>
        obtain ⟨u, h1, h2⟩ := R0.sl v _ e
        exact R2.re q (t := .sh d) ⟨u, h1, h2.mono sF⟩ fun _ _ z => nomatch z
    · exact R2.forget
  have all : ∀ (ws : List Nat) (en2 : En), (∀ en3, en3 = en2 → True) → Rel K G (wipeE ws en2) F H σ → Rel K G (restE ws e0 en2) F H σ := by
    intro ws
    induction ws with
    | nil => intro en2 _ R2; exact R2
    | cons w ws ih =>
      intro en2 hh R2
      have q : Rel K G (restE ws e0 en2) F H σ ∨ True := .inr trivial
      -- restE (w :: ws) = set w over restE ws
      have R3 : Rel K G ((restE ws e0 (en2.set w .un)).set w (match e0[w]? with
        | some (.sh d) => .sh d
        | _ => .un)) F H σ := by
        refine put w (ih (en2.set w .un) (fun _ _ => trivial) ?_)
        have comm : wipeE ws (en2.set w .un) = wipeE (w :: ws) en2 := by
          clear R2 ih q
          induction ws with
          | nil => rfl
          | cons v vs ih2 =>
            unfold wipeE
            rw [ih2]
            unfold wipeE
            by_cases hvw : v = w
            · subst hvw; rfl
            · rw [List.set_comm _ _ (fun z => hvw z.symm)]
        rw [comm]
        exact R2
      have comm2 : (restE ws e0 (en2.set w .un)).set w (match e0[w]? with
        | some (.sh d) => .sh d
        | _ => .un) = restE (w :: ws) e0 en2 := by
        clear R2 ih q R3
        show _ = (restE ws e0 en2).set w _
        have : ∀ (us : List Nat) (x : Sl), (restE us e0 (en2.set w .un)).set w x = (restE us e0 en2).set w x := by
          intro us
          induction us with
          | nil => intro x; show (en2.set w .un).set w x = en2.set w x; rw [List.set_set]
          | cons u us ih3 =>
            intro x
            unfold restE
            by_cases huw : u = w
            · subst huw; rw [List.set_set, List.set_set]; exact ih3 x
            · rw [List.set_comm _ _ huw, ih3 x, List.set_comm _ _ fun z => huw z.symm]
        exact this ws _
      rw [comm2] at R3
      exact R3
  exact all vs en (fun _ _ => trivial) R1
/-- a new thing at p is watched -/
def Gd.watch (G : Gd) (p : Addr) (o : HO) (σ : L2.St) : Gd := { G with H0 := upd G.H0 p o, S0 := G.S0 }
structure Apart (K : PySem.W.Frag) (G : Gd) (en : En) (F : Hp) (σ : L2.St) (p : Addr) : Prop where
  f : F p = none
  h0 : G.H0 p = none
  as : p ∉ G.As
  nd : ∀ (j : Nat) (b : Bool) (d : D), en[j]? = some (.ow b d) → σ[j]? ≠ some (some (.ref p))
theorem Rel.watch {p : Addr} {o : HO} (R : Rel K G en F H σ) (a : Apart K G en F σ p) (hp : H p = some o) : Rel K (G.watch p o σ) en F H σ := by
  refine ⟨R.len, R.sl, R.dj, fun i b d q h1 h3 => ?_, R.fh, R.f0, fun b u z => ?_, fun b u z hA => ?_, R.as, R.ar⟩
  · have m := R.mn i b d q h1 h3
    have ne : q ≠ p := fun z => a.nd i b d h1 (by rw [← z]; exact h3)
    show if b = true then q ∈ G.As else upd G.H0 p o q = none
    rw [upd_ne ne]
    exact m
  · have ne : b ≠ p := fun y => by rw [y, a.f] at z; cases z
    show G.F0 b = some u ∨ upd G.H0 p o b = none
    rw [upd_ne ne]
    exact R.nw b u z
  · have z' : upd G.H0 p o b = some u := z
    by_cases y : b = p
    · rw [y, upd_same] at z'; cases z'; rw [y]; exact hp
    · rw [upd_ne y] at z'; exact R.bs b u z' hA
theorem Rel.unwatch {p : Addr} {o : HO} (R : Rel K (G.watch p o σ') en F H σ) (h0 : G.H0 p = none) (as : p ∉ G.As) (f0 : G.F0 p = none) : Rel K G en F H σ ∧ Apart K G en F σ p ∧ H p = some o := by
  have hp : H p = some o := R.bs p o (show upd G.H0 p o p = some o from upd_same) as
  have fp : F p = none := by
    cases e : F p with
    | none => rfl
    | some u =>
      rcases R.nw p u e with z | z
      · rw [show G.F0 p = some u from z] at f0; cases f0
      · have z' : upd G.H0 p o p = none := z
        rw [upd_same] at z'; cases z'
  have nd : ∀ (j : Nat) (b : Bool) (d : D), en[j]? = some (.ow b d) → σ[j]? ≠ some (some (.ref p)) := fun j b d e z => by
    have m := R.mn j b d p e z
    cases b with
    | true => rw [if_pos rfl] at m; exact as m
    | false =>
      rw [if_neg Bool.false_ne_true] at m
      have m' : upd G.H0 p o p = none := m
      rw [upd_same] at m'; cases m'
  refine ⟨⟨R.len, R.sl, R.dj, fun i b d q h1 h3 => ?_, R.fh, R.f0, fun b u z => ?_, fun b u z hA => ?_, R.as, R.ar⟩, ⟨fp, h0, as, nd⟩, hp⟩
  · have m := R.mn i b d q h1 h3
    have ne : q ≠ p := fun z => nd i b d h1 (by rw [← z]; exact h3)
    have m' : if b = true then q ∈ G.As else upd G.H0 p o q = none := m
    rw [upd_ne ne] at m'
    exact m'
  · rcases R.nw b u z with y | y
    · exact .inl y
    · have y' : upd G.H0 p o b = none := y
      have ne : b ≠ p := fun w => by rw [w, upd_same] at y'; cases y'
      rw [upd_ne ne] at y'
      exact .inr y'
  · have ne : b ≠ p := fun w => by rw [w, h0] at z; cases z
    exact R.bs b u (by show upd G.H0 p o b = some u; rw [upd_ne ne]; exact z) hA
/-- the watched thing is changed -/
theorem Rel.updW {p : Addr} {o u : HO} (R : Rel K G en F H σ) (a : Apart K G en F σ p) : Rel K G en F (upd H p u) σ := by
  refine ⟨R.len, fun j s e => ?_, R.dj, R.mn, fun b v z => ?_, R.f0, R.nw, fun b v z hA => ?_, fun b hA => ?_, R.ar⟩
  · have h := R.sl j s e
    cases s with
    | un => trivial
    | sh d => exact h
    | ow b d =>
      obtain ⟨q, h1, h2, h3⟩ := h
      have ne : q ≠ p := fun z => a.nd j b d e (by rw [← z]; exact join_some h1)
      exact ⟨q, h1, h2, h3.mono (.refl _) (by rw [upd_ne ne])⟩
  · have ne : b ≠ p := fun y => by rw [y, a.f] at z; cases z
    rw [upd_ne ne]; exact R.fh b v z
  · have ne : b ≠ p := fun y => by rw [y, a.h0] at z; cases z
    rw [upd_ne ne]; exact R.bs b v z hA
  · have ne : b ≠ p := fun y => a.as (by rw [← y]; exact hA)
    obtain ⟨v, z⟩ := R.as b hA
    exact ⟨v, by rw [upd_ne ne]; exact z⟩
end
/-! ### one reading for all contexts -/
def canE (X : Cx) (f : Ev A) : TE := fun σ H Q => ∃ G en F, Rel X.K G en F H σ ∧ PE1 X WX0 G F σ (f en) Q
def canT (X : Cx) (f : Ev Bool) : TT := fun σ H Q => ∃ G en F, Rel X.K G en F H σ ∧ PT1 X WX0 G F σ (f en) Q
def canG (X : Cx) (g : Gt) (ix : List Nat) : TG := fun v σ H Q => ∃ G en F d e', Rel X.K G en F H σ ∧ Rep X.K F v d ∧ g d en = some e' ∧ ∀ F' H' σ', Rel X.K G e' F' H' σ' → Same F F' → Alike ix σ σ' → Q σ' H'
theorem DX.can {X : Cx} {e : Expr} {f : Ev A} (h : DX X WX0 e f) : PE X e (canE X f) := by
  obtain ⟨t, p, q⟩ := h.ex
  exact ⟨fun pins s σ H Q I ⟨G, en, F, R, k⟩ => p.run pins s σ H Q I (q G en F H σ Q R k)⟩
theorem DT.can {X : Cx} {e : Expr} {f : Ev Bool} (h : DT X WX0 e f) : PT X e (canT X f) := by
  obtain ⟨t, p, q⟩ := h.ex
  exact ⟨fun pins s σ H Q I ⟨G, en, F, R, k⟩ => p.run pins s σ H Q I (q G en F H σ Q R k)⟩
theorem DG.can {X : Cx} {e : Expr} {g : Gt} {ix : List Nat} (h : DG X WX0 e g ix) : PG X e (canG X g ix) := by
  obtain ⟨t, p, q⟩ := h.ex
  exact ⟨fun pins s σ H v u Q I r ⟨G, en, F, d, e', R, rp, hg, k⟩ => p.run pins s σ H v u Q I r (q G en e' F H σ v d Q R rp hg k)⟩
structure DTs (X : Cx) (ifs : List Expr) (f : Ev Bool) : Prop where
  ex : ∃ t : TT, PTs X ifs t ∧ ∀ (G : Gd) (en : En) (F H : Hp) (σ : L2.St) (Q : Bool → Hp → Prop), Rel X.K G en F H σ → PT1 X WX0 G F σ (f en) Q → t σ H Q
theorem dts_nil {X : Cx} : DTs X [] tYes1 := ⟨_, pts_nil, fun G en F H σ Q R k => k true F H R (.refl _) rfl⟩
theorem dts_one {X : Cx} {c : Expr} {f : Ev Bool} (h : DT X WX0 c f) : DTs X [c] f := by
  obtain ⟨t, p, q⟩ := h.ex
  exact ⟨t, pts_one p, q⟩
theorem DTs.can {X : Cx} {ifs : List Expr} {f : Ev Bool} (h : DTs X ifs f) : PTs X ifs (canT X f) := by
  obtain ⟨t, p, q⟩ := h.ex
  exact ⟨fun pins s σ H Q I ⟨G, en, F, R, k⟩ => p.run pins s σ H Q I (q G en F H σ Q R k)⟩
theorem PostE.nox {X : Cx} {G : Gd} {F : Hp} {σ : L2.St} {α β γ : Type} {ok : Hp → α → β → Prop} {r : M.R α} {g : α → En → M.R γ} {Q : β → Hp → Prop}
    (h : (r.nox.bind g) ≠ .bad) (k : ∀ a e v F' H', r = .ok a e → Rel X.K G e F' H' σ → Same F F' → ok F' a v → Q v H') : PostE X WX0 G F σ ok r Q := by
  cases r with
  | bad => exact (h rfl).elim
  | ok a e => exact fun v F' H' R s o => k a e v F' H' rfl R s o
  | ex x e => exact (h rfl).elim
section
variable {X : Cx} {W : WX} {elt tg iter : Expr} {ifs : List Expr} {scope : Scope} {own : List (Str × Nat)} {pos : Pos} {fi : Ev (List D)} {g : Gt} {ix : List Nat} {ft : Ev Bool} {f : Ev A}
/-- the reading of a comprehension's turns -/
theorem lc_run {G : Gd} {e1 : En} {F1 H1 : Hp} {σ : L2.St} {J : It} {ds : List D} {vs : List Nat} {Qd : Addr → Hp → Prop} (hix : ∀ i ∈ ix, i ∈ vs) (R1 : Rel X.K G e1 F1 H1 σ) (it : ItOk X.K J F1 ds)
    (nb : lcD g ft f vs ds [] e1 ≠ .bad) (h : ∀ d e D H', lcD g ft f vs ds [] e1 = .ok d e → (∃ F', Rel X.K G e F' H' σ ∧ Same F1 F' ∧ NewAt G e X.K F' H' σ d (.ref D)) → Qd D H') : ∀ D, H1 D = none → ∃ Wv : Nat → Nat → Hp → Prop, (∃ m, Wv 0 m (upd H1 D (.lst []))) ∧ ∀ i m H, Wv i m H →
      (J.stop i H ∧ Qd D H) ∨ (J.go i H ∧ ∃ Nx : Hp → Prop, (∀ H', Nx H' → ∃ m', m' < m ∧ Wv (i + 1) m' H') ∧ ∀ x H', J.yld i H x H' → canG X g ix x (wipe σ vs) H' fun σ2 H2 => wipe σ2 vs = wipe σ vs ∧ canT X ft σ2 H2 fun b H3 =>
        if b = true then canE X f σ2 H3 fun y H4 => ∃ acc, H4 D = some (.lst acc) ∧ acc.length < sizeLine ∧ Nx (upd H4 D (.lst (acc ++ [y]))) else Nx H3) := by
  obtain ⟨rA, hA⟩ : ∃ r, r = lcD g ft f vs ds [] e1 := ⟨_, rfl⟩
  rw [← hA] at nb
  simp only [← hA] at h
  intro D nD
  have ap1 : Apart X.K G e1 F1 σ D := by
    refine ⟨R1.fh.free nD, R1.free0 nD, fun z => ?_, fun j b d z y => ?_⟩
    · obtain ⟨o, q⟩ := R1.as D z
      rw [nD] at q; cases q
    · obtain ⟨p', q1, _, q3⟩ := R1.owV z
      rw [y] at q1
      cases q1
      obtain ⟨u, hu⟩ := q3.some
      rw [nD] at hu; cases hu
  refine ⟨fun i m H => m = ds.length - i ∧ i ≤ ds.length ∧ ∃ en F acc avs, Rel X.K G en F H σ ∧ Same F1 F ∧ Apart X.K G en F σ D ∧ H D = some (.lst avs) ∧ Reps X.K F avs acc ∧ lcD g ft f vs (ds.drop i) acc en = rA,
    ⟨ds.length, by simp, Nat.zero_le _, e1, F1, [], [], R1.newO nD, .refl _, ap1, upd_same, .nil, hA.symm⟩, ?_⟩
  rintro i m H ⟨rfl, hle, en, F, acc, avs, R, sF, ap, hD, rp, hq⟩
  obtain ⟨go, stop⟩ := it i F H sF R.fh
  by_cases hlt : i < ds.length
  · have ed : ds[i]? = some ds[i] := List.getElem?_eq_getElem hlt
    obtain ⟨g1, g2⟩ := go _ ed
    rw [← hq, List.drop_eq_getElem_cons hlt] at nb
    rw [List.drop_eq_getElem_cons hlt] at hq
    unfold lcD at nb hq
    refine .inr ⟨g1, fun H' => ∃ en F acc avs, Rel X.K G en F H' σ ∧ Same F1 F ∧ Apart X.K G en F σ D ∧ H' D = some (.lst avs) ∧ Reps X.K F avs acc ∧ lcD g ft f vs (ds.drop (i + 1)) acc en = rA, fun H' hN => ⟨ds.length - (i + 1), by omega, rfl, hlt, hN⟩, fun x H2 hy => ?_⟩
    obtain ⟨F2, gr, r2⟩ := g2 x H2 hy
    have hD2 : H2 D = some (.lst avs) := gr.h _ _ hD
    have R2 := R.grow gr
    have f2D : F2 D = none := by
      cases e : F2 D with
      | none => rfl
      | some u =>
        rcases gr.nw D u e with z | z
        · rw [ap.f] at z; cases z
        · rw [hD] at z; cases z
    have ap2 : Apart X.K G en F2 σ D := ⟨f2D, ap.h0, ap.as, ap.nd⟩
    have Rw := (R2.watch ap2 hD2).wiped vs
    cases z : g ds[i] (wipeE vs en) with
    | none => rw [z] at nb; exact (nb rfl).elim
    | some e2 =>
      rw [z] at nb hq
      simp only at nb hq
      have f00 : G.F0 D = none := by
        cases e : G.F0 D with
        | none => rfl
        | some u => have := R.f0 _ _ e; rw [ap.f] at this; cases this
      refine ⟨G.watch D (.lst avs) σ, _, F2, _, e2, Rw, r2, z, fun F3 H3 σ3 R3 s3 al => ⟨wipe_alike hix al, ⟨G.watch D (.lst avs) σ, e2, F3, R3, ?_⟩⟩⟩
      refine PostE.nox (X := X) (G := G.watch D (.lst avs) σ) nb fun b e3 b' F4 H4 he R4 s4 o4 => ?_
      subst o4
      rw [he] at nb hq
      simp only [M.R.nox, M.R.bind] at nb hq
      by_cases hb : b = true
      · rw [if_pos hb] at nb hq ⊢
        refine ⟨G.watch D (.lst avs) σ, e3, F4, R4, ?_⟩
        -- the element, held
        have nb2 : (eHold f e3).nox.bind (fun x e3 => if small (acc.length + 1) then lcD g ft f vs (ds.drop (i + 1)) (acc ++ [x]) (restE vs en e3) else .bad) ≠ .bad := nb
        unfold eHold at nb hq
        cases y : f e3 with
        | bad => rw [y] at nb; exact (nb rfl).elim
        | ex xx e4 => rw [y] at nb; exact (nb rfl).elim
        | ok o e4 =>
          rw [y] at nb hq
          simp only [M.R.bind] at nb hq
          intro v F5 H5 R5 s5 o5
          cases w : hold1 e4 o with
          | none => rw [w] at nb; exact (nb rfl).elim
          | some pr =>
            obtain ⟨d, e5⟩ := pr
            rw [w] at nb hq
            simp only [M.R.nox, M.R.bind] at nb hq
            obtain ⟨F6, R6, s6, r6⟩ := hold1_ok R5 o5 w
            obtain ⟨R7, ap7, hD7⟩ := R6.unwatch ap.h0 ap.as f00
            by_cases hz : small (acc.length + 1) = true
            · rw [if_pos hz] at hq
              have sAll : Same F F6 := gr.f.trans (s3.trans (s4.trans (s5.trans s6)))
              refine ⟨avs, hD7, ?_, restE vs en e5, F6, acc ++ [d], avs ++ [v], ?_, sF.trans sAll, ?_, upd_same, (rp.mono sAll).append (.cons r6 .nil), hq⟩
              · rw [rp.length]
                have := line_small hz
                omega
              · have R8 : Rel X.K G (restE vs en e5) F6 H5 σ := Rel.rest R hix al R7 sAll
                have ap8 : Apart X.K G (restE vs en e5) F6 σ D := ⟨ap7.f, ap7.h0, ap7.as, fun j b d z y => by
                  obtain ⟨p', q1, q2, q3⟩ := R8.owV z
                  rw [y] at q1
                  cases q1
                  have m := R8.mn j b d D z y
                  -- an own thing of the outer places is one of the inner ones
                  have : ∀ (ws : List Nat) (e : En) {j : Nat} {b : Bool} {d : PyData}, (restE ws en e)[j]? = some (.ow b d) → e[j]? = some (.ow b d) ∧ j ∉ ws := by
                    intro ws
                    induction ws with
                    | nil => intro e j b d z; exact ⟨z, by simp⟩
                    | cons u us ih =>
                      intro e j b d z
                      unfold restE at z
                      by_cases huj : u = j
                      · subst huj
                        by_cases hl : u < (restE us en e).length
                        · rw [List.getElem?_set_self hl] at z
                          split at z <;> cases z
                        · rw [List.getElem?_eq_none (by rw [List.length_set]; omega)] at z; cases z
                      · rw [List.getElem?_set_ne huj] at z
                        obtain ⟨a1, a2⟩ := ih e z
                        exact ⟨a1, fun w => (List.mem_cons.mp w).elim (fun q => huj q.symm) a2⟩
                  obtain ⟨a1, a2⟩ := this vs e5 z
                  refine ap7.nd j b d a1 ?_
                  rw [al.2 j fun q => a2 (hix j q), wipe_at σ vs a2]
                  exact y⟩
                exact R8.updW (o := .lst avs) ap8
              · have R8 : Rel X.K G (restE vs en e5) F6 H5 σ := Rel.rest R hix al R7 sAll
                exact ⟨ap7.f, ap7.h0, ap7.as, fun j b d z y => by
                  have : ∀ (ws : List Nat) (e : En) {j : Nat} {b : Bool} {d : PyData}, (restE ws en e)[j]? = some (.ow b d) → e[j]? = some (.ow b d) ∧ j ∉ ws := by
                    intro ws
                    induction ws with
                    | nil => intro e j b d z; exact ⟨z, by simp⟩
                    | cons u us ih =>
                      intro e j b d z
                      unfold restE at z
                      by_cases huj : u = j
                      · subst huj
                        by_cases hl : u < (restE us en e).length
                        · rw [List.getElem?_set_self hl] at z
                          split at z <;> cases z
                        · rw [List.getElem?_eq_none (by rw [List.length_set]; omega)] at z; cases z
                      · rw [List.getElem?_set_ne huj] at z
                        obtain ⟨a1, a2⟩ := ih e z
                        exact ⟨a1, fun w => (List.mem_cons.mp w).elim (fun q => huj q.symm) a2⟩
                  obtain ⟨a1, a2⟩ := this vs e5 z
                  refine ap7.nd j b d a1 ?_
                  rw [al.2 j fun q => a2 (hix j q), wipe_at σ vs a2]
                  exact y⟩
            · rw [if_neg hz] at nb; exact (nb rfl).elim
      · rw [if_neg hb] at nb hq ⊢
        obtain ⟨R7, ap7, hD7⟩ := R4.unwatch ap.h0 ap.as f00
        have sAll : Same F F4 := gr.f.trans (s3.trans s4)
        have R8 : Rel X.K G (restE vs en e3) F4 H4 σ := Rel.rest R hix al R7 sAll
        refine ⟨restE vs en e3, F4, acc, avs, R8, sF.trans sAll, ⟨ap7.f, ap7.h0, ap7.as, fun j b d z y => ?_⟩, hD7, rp.mono sAll, hq⟩
        have : ∀ (ws : List Nat) (e : En) {j : Nat} {b : Bool} {d : PyData}, (restE ws en e)[j]? = some (.ow b d) → e[j]? = some (.ow b d) ∧ j ∉ ws := by
          intro ws
          induction ws with
          | nil => intro e j b d z; exact ⟨z, by simp⟩
          | cons u us ih =>
            intro e j b d z
            unfold restE at z
            by_cases huj : u = j
            · subst huj
              by_cases hl : u < (restE us en e).length
              · rw [List.getElem?_set_self hl] at z
                split at z <;> cases z
              · rw [List.getElem?_eq_none (by rw [List.length_set]; omega)] at z; cases z
            · rw [List.getElem?_set_ne huj] at z
              obtain ⟨a1, a2⟩ := ih e z
              exact ⟨a1, fun w => (List.mem_cons.mp w).elim (fun q => huj q.symm) a2⟩
        obtain ⟨a1, a2⟩ := this vs e3 z
        refine ap7.nd j b d a1 ?_
        rw [al.2 j fun q => a2 (hix j q), wipe_at σ vs a2]
        exact y
  · have ei : ds.drop i = [] := List.drop_eq_nil_of_le (by omega)
    rw [ei] at hq
    unfold lcD at hq
    refine .inl ⟨stop (List.getElem?_eq_none (by omega)), h (.list acc) en D H hq.symm ⟨F, R, sF, D, rfl, ap.f, ⟨avs, hD, rp⟩, ap.h0, ap.nd⟩⟩
theorem do_lc (hc : X.calm = true) (hN : X.N.Nodup) (hi : DI X W tg iter fi) (ok : BlkOk X.N X.env.scope scope own) (hix : ∀ i ∈ ix, i ∈ own.map (·.2))
    (hg : ∀ (s : Shared) (H : Hp) (C : Addr) (cl : List (Str × Addr)) (fp : List Addr), DG (X.blk s H scope (compEnvC scope cl C X.env) fp) WX0 tg g ix) (ht : ∀ (s : Shared) (H : Hp) (C : Addr) (cl : List (Str × Addr)) (fp : List Addr), DTs (X.blk s H scope (compEnvC scope cl C X.env) fp) ifs ft)
    (he : ∀ (s : Shared) (H : Hp) (C : Addr) (cl : List (Str × Addr)) (fp : List Addr), DX (X.blk s H scope (compEnvC scope cl C X.env) fp) WX0 elt f) (hs : ∀ x, foldedSetIterable iter X.env x = pure x := by intro _; rfl) :
    DO X W (.ListComp elt [⟨tg, iter, ifs, 0⟩] scope pos) (oLc fi g ft f (own.map (·.2))) := by
  obtain ⟨wi, p, q⟩ := hi.ex
  refine ⟨_, pe_lc (g := canG X g ix) (tt := canT X ft) (te := canE X f) hc hN p ok (fun s H C cl fp => (hg s H C cl fp).can) (fun s H C cl fp => (ht s H C cl fp).can) (fun s H C cl fp => (he s H C cl fp).can) hs, fun G en F H σ Q R h => q G en F H σ _ R ?_⟩
  unfold oLc at h
  cases z : fi en with
  | bad => rw [z] at h; exact h
  | ex x e => rw [z] at h; exact h
  | ok ds e1 =>
    rw [z] at h
    simp only [M.R.bind] at h
    intro J F1 H1 R1 s1 it
    refine lc_run (Qd := fun D H' => Q (.ref D) H') hix R1 it (fun w => by rw [w] at h; exact h) fun d e D H' hq ⟨F', R', s', n'⟩ => ?_
    rw [hq] at h
    exact h (.ref D) F' H' R' (s1.trans s') n'
theorem ds_setLc (i : Nat) {y : Str} {py spos : Pos} (hc : X.calm = true) (hN : X.N.Nodup) (hyl : X.env.scope.names.lookup y = some .local)
    (hsw : swapsWith (.ListComp elt [⟨tg, iter, ifs, 0⟩] scope pos) (some (.Name y py)) spos.line X.env = pure true) (hi : DI X W tg iter fi) (ok : BlkOk X.N X.env.scope scope own) (hix : ∀ i ∈ ix, i ∈ own.map (·.2))
    (hg : ∀ (s : Shared) (H : Hp) (C : Addr) (cl : List (Str × Addr)) (fp : List Addr), DG (X.blk s H scope (compEnvC scope cl C X.env) fp) WX0 tg g ix) (ht : ∀ (s : Shared) (H : Hp) (C : Addr) (cl : List (Str × Addr)) (fp : List Addr), DTs (X.blk s H scope (compEnvC scope cl C X.env) fp) ifs ft)
    (he : ∀ (s : Shared) (H : Hp) (C : Addr) (cl : List (Str × Addr)) (fp : List Addr), DX (X.blk s H scope (compEnvC scope cl C X.env) fp) WX0 elt f) (hs : ∀ x, foldedSetIterable iter X.env x = pure x := by intro _; rfl) (hy : X.N[i]? = some y := by rfl) :
    DS X W (.Assign [.Name y py] (.ListComp elt [⟨tg, iter, ifs, 0⟩] scope pos) spos) (sSetO i (oLc fi g ft f (own.map (·.2)))) := by
  obtain ⟨wi, p, q⟩ := hi.ex
  refine ⟨_, ps_setLc (g := canG X g ix) (tt := canT X ft) (te := canE X f) hc hN hy hyl hsw p ok (fun s H C cl fp => (hg s H C cl fp).can) (fun s H C cl fp => (ht s H C cl fp).can) (fun s H C cl fp => (he s H C cl fp).can) hs, fun G en F H σ D R h => q G en F H σ _ R ?_⟩
  unfold sSetO oLc at h
  cases z : fi en with
  | bad => rw [z] at h; exact h
  | ex x e => rw [z] at h; exact fun cls dd F' H' R s o => h cls dd F' H' σ R s o
  | ok ds e1 =>
    rw [z] at h
    simp only [M.R.bind] at h
    intro J F1 H1 R1 s1 it
    refine lc_run (Qd := fun Da H' => gName i (.ref Da) σ H' D.nx) hix R1 it (fun w => by rw [w] at h; exact h) fun d e Da H' hq ⟨F', R', s', n'⟩ => ?_
    rw [hq] at h
    obtain ⟨p, ep, n, o, h0, nd⟩ := n'
    cases ep
    exact h F' H' _ (R'.putOw n o h0 nd) (s1.trans s')
end
end M
set_option Elab.async false
set_option linter.all false
set_option maxRecDepth 100000
set_option autoImplicit false
/-! M7: operators and built-in functions on data. -/
namespace M
open PySem PySem.Spec PyProof.Rows L2
/-! ### data without dicts -/
mutual
def nd : D → Bool
  | .list xs => nds xs
  | .tuple xs => nds xs
  | .dict _ => false
  | _ => true
def nds : List D → Bool
  | [] => true
  | x :: xs => nd x && nds xs
end
section
variable {K : PySem.W.Frag} {F H : Hp}
mutual
theorem Rep.dp : ∀ {v : V} {d : D}, Rep K F v d → nd d = true → Dp K F v d
  | _, _, .non, _ => .non
  | _, _, .bl b, _ => .bl b
  | _, _, .int i, _ => .int i
  | _, _, .str x, _ => .str x
  | _, _, .lst h r, e => .lst h (Reps.dp r e)
  | _, _, .tup h r, e => .tup h (Reps.dp r e)
  | _, _, .dK _ _, e => Bool.noConfusion e
  | _, _, .dT _ _, e => Bool.noConfusion e
theorem Reps.dp : ∀ {v : List V} {d : List D}, Reps K F v d → nds d = true → DpAll K F v d
  | _, _, .nil, _ => .nil
  | _, _, .cons h r, e => .cons (Rep.dp h (Bool.and_eq_true_iff.mp e).1) (Reps.dp r (Bool.and_eq_true_iff.mp e).2)
end
end
/-- an operator whose answer is laid anew (list) -/
def OpF (K : PySem.W.Frag) (r : R2) (g : D → D → Option D) : Prop := ∀ (F H : Hp) (x y : V) (d e q : D) (Q : VK), Same F H → PRep K F H x d → PRep K F H y e → g d e = some q → ∃ o, (∀ p H', H' p = some o → Own K F H' p q) ∧ ((∀ p, H p = none → Q (.ref p) (upd H p o)) → r x y H Q)
def FnF (K : PySem.W.Frag) (r : List V → Hp → VK → Prop) (g : List D → Option D) : Prop := ∀ (F H : Hp) (xs : List V) (ds : List D) (q : D) (Q : VK), Same F H → PReps K F H xs ds → g ds = some q → ∃ o, (∀ p H', H' p = some o → Own K F H' p q) ∧ ((∀ p, H p = none → Q (.ref p) (upd H p o)) → r xs H Q)
def oBin (g : D → D → Option D) (fa fb : Ev A) : Ev D := fun e => (fa e).bind fun a e1 => (fb e1).bind fun b e2 => match (res e2 a).bind fun x => (res e2 b).bind fun y => g x y with
  | some d => .ok d e2
  | none => .bad
def oFn (g : List D → Option D) (fs : Ev (List A)) : Ev D := fun e => (fs e).bind fun as e1 => match (ress e1 as).bind g with
  | some d => .ok d e1
  | none => .bad
theorem PostO.bind {X : Cx} {W : WX} {G : Gd} {F : Hp} {σ : L2.St} {α β : Type} {ok : Hp → α → β → Prop} {r : M.R α} {g : α → En → M.R D} {Q : VK} {Q' : β → Hp → Prop}
    (h : PostO X W G F σ (r.bind g) Q) (k : ∀ a e v F' H', Rel X.K G e F' H' σ → Same F F' → ok F' a v → PostO X W G F' σ (g a e) Q → Q' v H') : PostE X W G F σ ok r Q' := by
  cases r with
  | bad => exact h
  | ok a e =>
    intro v F' H' R s o
    refine k a e v F' H' R s o ?_
    have h' : PostO X W G F σ (g a e) Q := h
    cases q : g a e with
    | bad => rw [q] at h'; exact h'
    | ok b e2 => rw [q] at h'; exact fun w F2 H2 R2 s2 o2 => h' w F2 H2 R2 (s.trans s2) o2
    | ex x e2 => rw [q] at h'; exact fun w dd F2 H2 R2 s2 o2 => h' w dd F2 H2 R2 (s.trans s2) o2
  | ex x e => exact h
section
variable {X : Cx} {W : WX} {a b : Expr} {pos : Pos} {fa fb : Ev A}
theorem do_op {op : Operator} {r : R2} {g : D → D → Option D} (ho : OpR X (binaryOp op) r) (hg : OpF X.K r g) (ha : DX X W a fa) (hb : DX X W b fb) : DO X W (.BinOp a op b pos) (oBin g fa fb) := by
  obtain ⟨ta, pa, qa⟩ := ha.ex
  obtain ⟨tb, pb, qb⟩ := hb.ex
  refine ⟨_, pe_op ho pa pb, fun G en F H σ Q R q => qa G en F H σ _ R (q.bind fun x e1 v F1 H1 R1 s1 o1 q1 => qb G e1 F1 H1 σ _ R1 (q1.bind fun y e2 w F2 H2 R2 s2 o2 q2 => ?_))⟩
  cases ed : ((res e2 x).bind fun x => (res e2 y).bind fun y => g x y) with
  | none => rw [ed] at q2; exact q2.elim
  | some d =>
    rw [ed] at q2
    obtain ⟨d1, e1', ed'⟩ := Option.bind_eq_some_iff.mp ed
    obtain ⟨d2, e2', ed''⟩ := Option.bind_eq_some_iff.mp ed'
    obtain ⟨o, h1, h2⟩ := hg F2 H2 v w d1 d2 d Q R2.fh (res_ok R2 (o1.mono s2) e1') (res_ok R2 o2 e2') ed''
    refine h2 fun p np => ?_
    obtain ⟨R3, n3⟩ := newAt_of (d := d) (o := o) R2 np (h1 p _ upd_same)
    exact q2 (.ref p) F2 _ R3 (.refl _) n3
theorem do_fnT {x : Str} {T : String} {r : List V → Hp → VK → Prop} {g : List D → Option D} {es : List Expr} {fs : Ev (List A)} {p : Pos} (hc : CallR X (.type T) r) (hg' : FnF X.K r g) (hg : Gl X x) (hm : X.mg x = none) (hv : bootBuiltins x = some (.type T)) (ha : DA X W (a :: es) fs) (hn : x ≠ "__name__" := by decide) (hdb : (x == ("__debug__" : Str)) = false := by decide)
    (he : starEach (a :: es) X.env = (false, eval a X.env) :: starEach es X.env := by rfl) (hpl : (backTo pos (starEach es X.env)).any (·.1) = false := by rfl) : DO X W (.Call (.Name x p) (a :: es) [] pos) (oFn g fs) := by
  obtain ⟨ta, pa, qa⟩ := ha.ex
  refine ⟨_, pe_callTy hc hg hm hv pa hn hdb he hpl, fun G en F H σ Q R q => qa G en F H σ _ R (q.bind fun x e1 v F1 H1 R1 s1 o1 q1 => ?_)⟩
  cases ed : ((ress e1 x).bind g) with
  | none => rw [ed] at q1; exact q1.elim
  | some d =>
    rw [ed] at q1
    obtain ⟨d1, e1', ed'⟩ := Option.bind_eq_some_iff.mp ed
    obtain ⟨o, h1, h2⟩ := hg' F1 H1 v d1 d Q R1.fh (ress_ok R1 o1 e1') ed'
    refine h2 fun p np => ?_
    obtain ⟨R3, n3⟩ := newAt_of (d := d) (o := o) R1 np (h1 p _ upd_same)
    exact q1 (.ref p) F1 _ R3 (.refl _) n3
theorem do_fnB {x : Str} {T : String} {r : List V → Hp → VK → Prop} {g : List D → Option D} {es : List Expr} {fs : Ev (List A)} {p : Pos} (hc : CallR X (.builtin T) r) (hg' : FnF X.K r g) (hg : Gl X x) (hm : X.mg x = none) (hv : bootBuiltins x = some (.builtin T)) (ha : DA X W (a :: es) fs) (hn : x ≠ "__name__" := by decide) (hdb : (x == ("__debug__" : Str)) = false := by decide)
    (he : starEach (a :: es) X.env = (false, eval a X.env) :: starEach es X.env := by rfl) (hpl : (backTo pos (starEach es X.env)).any (·.1) = false := by rfl) : DO X W (.Call (.Name x p) (a :: es) [] pos) (oFn g fs) := by
  obtain ⟨ta, pa, qa⟩ := ha.ex
  refine ⟨_, pe_callB hc hg hm hv pa hn hdb he hpl, fun G en F H σ Q R q => qa G en F H σ _ R (q.bind fun x e1 v F1 H1 R1 s1 o1 q1 => ?_)⟩
  cases ed : ((ress e1 x).bind g) with
  | none => rw [ed] at q1; exact q1.elim
  | some d =>
    rw [ed] at q1
    obtain ⟨d1, e1', ed'⟩ := Option.bind_eq_some_iff.mp ed
    obtain ⟨o, h1, h2⟩ := hg' F1 H1 v d1 d Q R1.fh (ress_ok R1 o1 e1') ed'
    refine h2 fun p np => ?_
    obtain ⟨R3, n3⟩ := newAt_of (d := d) (o := o) R1 np (h1 p _ upd_same)
    exact q1 (.ref p) F1 _ R3 (.refl _) n3
/-- slices -/
def oInt : D → Option (Option Int)
  | .int i => some (some i)
  | .none => some none
  | _ => none
inductive Po where
  | no
  | of (f : Ev A)
def ePart (p : Po) : Ev (Option Int) := fun e => match p with
  | .no => .ok none e
  | .of f => (f e).bind fun a e1 => match (res e1 a) with
    | some (.int i) => .ok (some i) e1
    | _ => .bad
structure DP (X : Cx) (W : WX) (e : Option Expr) (p : Po) : Prop where
  ex : ∃ t : TO, PO X e t ∧ ∀ (G : Gd) (en : En) (F H : Hp) (σ : L2.St) (Q : Option Int → Hp → Prop), Rel X.K G en F H σ → PostE X W G F σ (fun _ a v => a = v) (ePart p en) Q → t σ H Q
theorem dp_no : DP X W none .no := ⟨_, po_none, fun G en F H σ Q R q => q none F H R (.refl _) rfl⟩
theorem dp_of (h : DX X W a fa) : DP X W (some a) (.of fa) := by
  obtain ⟨t, p, q⟩ := h.ex
  refine ⟨_, po_some p, fun G en F H σ Q R k => q G en F H σ _ R ?_⟩
  unfold ePart at k
  refine PostE.bind (g := fun a e1 => match (res e1 a) with | some (.int i) => (.ok (some i) e1 : M.R (Option Int)) | _ => .bad) k fun o e1 v F1 H1 R1 s1 o1 q1 => ?_
  cases z : res e1 o with
  | none => rw [z] at q1; exact q1.elim
  | some d =>
    rw [z] at q1
    cases d with
    | int i => exact ⟨i, (res_ok R1 o1 z).int, q1 (some i) F1 H1 R1 (.refl _) rfl⟩
    | _ => exact q1.elim
def cutD (xs : List D) (lo hi : Option Int) : List D := (xs.drop (HT.sIx xs.length 0 lo)).take (HT.sIx xs.length xs.length hi - HT.sIx xs.length 0 lo)
theorem Reps.cut {K : PySem.W.Frag} {F : Hp} {vs : List V} {ds : List D} (r : Reps K F vs ds) (lo hi : Option Int) : Reps K F (cutV vs lo hi) (cutD ds lo hi) := by
  unfold cutV cutD
  rw [r.length]
  exact (r.drop _).take _
def eSlT (fa : Ev A) (lo hi : Po) : Ev A := fun e => (fa e).bind fun a e1 => (ePart lo e1).bind fun l e2 => (ePart hi e2).bind fun h e3 => match res e3 a with
  | some (.tuple xs) => .ok (.sh (.tuple (cutD xs l h))) e3
  | _ => .bad
def oSlL (fa : Ev A) (lo hi : Po) : Ev D := fun e => (fa e).bind fun a e1 => (ePart lo e1).bind fun l e2 => (ePart hi e2).bind fun h e3 => match res e3 a with
  | some (.list xs) => .ok (.list (cutD xs l h)) e3
  | _ => .bad
theorem cut_whole {α : Type} {xs : List α} {lo hi : Option Int} (h : HT.sIx xs.length 0 lo = 0 ∧ HT.sIx xs.length xs.length hi = xs.length) : (xs.drop (HT.sIx xs.length 0 lo)).take (HT.sIx xs.length xs.length hi - HT.sIx xs.length 0 lo) = xs := by
  rw [h.1, h.2]; simp
theorem dx_slT {lo hi : Option Expr} {pl ph : Po} {p2 : Pos} (ha : DX X W a fa) (hl : DP X W lo pl) (hh : DP X W hi ph) : DX X W (.Subscript a (.Slice lo hi none p2) pos) (eSlT fa pl ph) := by
  obtain ⟨ta, pa, qa⟩ := ha.ex
  obtain ⟨tl, p1, q1⟩ := hl.ex
  obtain ⟨th, p2, q2⟩ := hh.ex
  refine ⟨_, pe_slice sl_tupA pa p1 p2, fun G en F H σ Q R q => qa G en F H σ _ R (q.bind fun x e1 v F1 H1 R1 s1 o1 k1 => q1 G e1 F1 H1 σ _ R1 (k1.bind fun l e2 l' F2 H2 R2 s2 ol k2 => q2 G e2 F2 H2 σ _ R2 (k2.bind fun h e3 h' F3 H3 R3 s3 oh k3 => ?_)))⟩
  subst ol oh
  cases z : res e3 x with
  | none => rw [z] at k3; exact k3.elim
  | some d =>
    rw [z] at k3
    cases d with
    | tuple xs =>
      have o3 : AOk X.K F3 σ x v := (o1.mono s2).mono s3
      obtain ⟨p, vs, rfl, hs, r⟩ := (res_ok R3 o3 z).tup R3.fh
      have len := r.length
      refine ⟨p, vs, rfl, hs, fun hw => ?_, fun _ p np => ?_⟩
      · rw [len] at hw
        have e : cutD xs l h = xs := cut_whole hw
        dsimp only at k3
        rw [e] at k3
        -- the tuple itself
        have rp : Rep X.K F3 (.ref p) (.tuple xs) := by
          rcases res_ok R3 o3 z with q | ⟨_, _, q⟩
          · exact q
          · exact q.elim
        exact k3 (.ref p) F3 H3 R3 (.refl _) rp
      · have g := Grow.alloc (o := .tup (cutV vs l h)) R3.fh np
        exact k3 (.ref p) _ _ (R3.grow g) g.f (.tup (.inl (.inl upd_same)) ((r.cut l h).mono g.f))
    | _ => exact k3.elim
theorem do_slL {lo hi : Option Expr} {pl ph : Po} {p2 : Pos} (ha : DX X W a fa) (hl : DP X W lo pl) (hh : DP X W hi ph) : DO X W (.Subscript a (.Slice lo hi none p2) pos) (oSlL fa pl ph) := by
  obtain ⟨ta, pa, qa⟩ := ha.ex
  obtain ⟨tl, p1, q1⟩ := hl.ex
  obtain ⟨th, p2, q2⟩ := hh.ex
  refine ⟨_, pe_slice sl_list pa p1 p2, fun G en F H σ Q R q => qa G en F H σ _ R (q.bind fun x e1 v F1 H1 R1 s1 o1 k1 => q1 G e1 F1 H1 σ _ R1 (k1.bind fun l e2 l' F2 H2 R2 s2 ol k2 => q2 G e2 F2 H2 σ _ R2 (k2.bind fun h e3 h' F3 H3 R3 s3 oh k3 => ?_)))⟩
  subst ol oh
  cases z : res e3 x with
  | none => rw [z] at k3; exact k3.elim
  | some d =>
    rw [z] at k3
    cases d with
    | list xs =>
      obtain ⟨p, vs, rfl, hs, r⟩ := (res_ok R3 ((o1.mono s2).mono s3) z).list R3.fh
      refine ⟨p, vs, rfl, hs, fun p np => ?_⟩
      obtain ⟨R4, n4⟩ := newAt_of (d := .list (cutD xs l h)) (o := .lst (cutV vs l h)) R3 np ⟨_, upd_same, r.cut l h⟩
      exact k3 (.ref p) F3 _ R4 (.refl _) n4
    | _ => exact k3.elim
end

/-! ### arithmetic, comparisons -/
def dAdd : D → D → Option D
  | .int a, .int b => some (.int (a + b))
  | .str a, .str b => if small (a.length + b.length) then some (.str (a ++ b)) else none
  | .tuple a, .tuple b => if small (a.length + b.length) then some (.tuple (a ++ b)) else none
  | _, _ => none
def dSub : D → D → Option D
  | .int a, .int b => some (.int (a - b))
  | _, _ => none
def dMul : D → D → Option D
  | .int a, .int b => if decide (a.natAbs.log2 + b.natAbs.log2 < 1000000) then some (.int (a * b)) else none
  | _, _ => none
def dFdiv : D → D → Option D
  | .int a, .int b => if decide (0 < b ∧ b.natAbs.log2 < 9000) then some (.int (a / b)) else none
  | _, _ => none
def dMod : D → D → Option D
  | .int a, .int b => if decide (0 < b) then some (.int (a % b)) else none
  | _, _ => none
def dPow : D → D → Option D
  | .int a, .int b => if decide (0 ≤ b ∧ b ≤ 100 ∧ a.natAbs.log2 < 100000) then some (.int (a ^ b.toNat)) else none
  | _, _ => none
def dLt : D → D → Option D
  | .int a, .int b => some (.bool (decide (a < b)))
  | _, _ => none
def dLe : D → D → Option D
  | .int a, .int b => some (.bool (decide (a ≤ b)))
  | _, _ => none
def dGt : D → D → Option D
  | .int a, .int b => some (.bool (decide (b < a)))
  | _, _ => none
def dGe : D → D → Option D
  | .int a, .int b => some (.bool (decide (b ≤ a)))
  | _, _ => none
def isN : D → Bool
  | .none => true
  | _ => false
def dIsN : D → D → Option D
  | d, .none => some (.bool (isN d))
  | _, _ => none
def dNotN : D → D → Option D
  | d, .none => some (.bool (!isN d))
  | _, _ => none
def dEqN (a b : D) : Option D := if nd a && nd b && SeqAt.shaped a && SeqAt.shaped b then some (.bool (PyData.eqv a b)) else none
def dNeN (a b : D) : Option D := if nd a && nd b && SeqAt.shaped a && SeqAt.shaped b then some (.bool (!PyData.eqv a b)) else none
def dEq : D → D → Option D
  | .str a, .str b => some (.bool (a == b))
  | a, b => dEqN a b
def dNe : D → D → Option D
  | .str a, .str b => some (.bool (!(a == b)))
  | a, b => dNeN a b
def dNeg : D → Option D
  | .int a => some (.int (-a))
  | _ => none
def atD (xs : List D) (i : Int) : Option D := atI xs i
def dIx : D → D → Option D
  | .list xs, .int i => atI xs i
  | .tuple xs, .int i => atI xs i
  | .str s, .int i => if small s.length then (atI s.cps.toList i).bind fun c => some (.str ⟨#[c]⟩) else none
  | _, _ => none
section
variable {X : Cx} {K : PySem.W.Frag} {F H : Hp}
theorem ix_reps {vs : List V} {ds : List D} {i : Int} {q : D} (r : Reps K F vs ds) (h : atI ds i = some q) : ∃ v, atI vs i = some v ∧ Rep K F v q := by
  unfold atI at h ⊢
  obtain ⟨j, h1, h2⟩ := Option.bind_eq_some_iff.mp h
  obtain ⟨v, h3, h4⟩ := r.get h2
  exact ⟨v, by rw [r.length, h1]; exact h3, h4⟩
theorem op_powW : OpR X (binaryOp .Pow) (rI (fun i j => 0 ≤ j ∧ (Builtin.Int.intBits i : Int) * j ≤ 2 ^ 27) fun i j => .int (i ^ j.toNat)) := opI fun _ _ _ _ _ _ _ hc q => pow_int hc.1 hc.2 q
theorem bad_none {α : Type} {P : Prop} {q : α} (h : (none : Option α) = some q) : P := nomatch h
theorem opd_add : OpD K (fun x y H Q => rI0 (fun i j => .int (i + j)) x y H Q ∨ ((∃ i j, x = .str i ∧ y = .str j ∧ i.length + j.length ≤ sizeLine ∧ Q (.str (i ++ j)) H) ∨ rCatA K x y H Q)) dAdd := by
  intro F H x y d e q Q sF hx hy hg k
  cases d <;> cases e <;> try exact bad_none hg
  · cases hg; exact .inl ⟨_, _, hx.int, hy.int, k _ F H (.refl sF) (.int _)⟩
  · simp only [dAdd] at hg
    split at hg
    · rename_i hz
      cases hg
      exact .inr (.inl ⟨_, _, hx.str, hy.str, line_small hz, k _ F H (.refl sF) (.str _)⟩)
    · cases hg
  · simp only [dAdd] at hg
    split at hg
    · rename_i hz
      cases hg
      obtain ⟨p, vs, rfl, hs, r⟩ := hx.tup sF
      obtain ⟨p2, vs2, rfl, hs2, r2⟩ := hy.tup sF
      have rx : ∀ {p : Addr} {ds : List D}, PRep K F H (.ref p) (.tuple ds) → Rep K F (.ref p) (.tuple ds) := fun {p ds} h => by
        rcases h with h | ⟨_, _, h⟩
        · exact h
        · exact h.elim
      refine .inr (.inr ⟨p, p2, vs, vs2, rfl, rfl, hs, hs2, ?_, fun e => ?_, fun _ e => ?_, fun _ _ p3 np => ?_⟩)
      · rw [r.length, r2.length]; exact line_small hz
      · subst e
        cases r
        exact k _ F H (.refl sF) (rx hy)
      · subst e
        cases r2
        rw [List.append_nil] at k
        exact k _ F H (.refl sF) (rx hx)
      · have g := Grow.alloc (o := .tup (vs ++ vs2)) sF np
        exact k _ _ _ g (.tup (.inl (.inl upd_same)) ((r.append r2).mono g.f))
    · cases hg
theorem opd_sub : OpD K (rI0 fun i j => .int (i - j)) dSub := by
  intro F H x y d e q Q sF hx hy hg k
  cases d <;> cases e <;> try exact bad_none hg
  cases hg; exact ⟨_, _, hx.int, hy.int, k _ F H (.refl sF) (.int _)⟩
theorem opd_mul : OpD K (rI CMulW fun i j => .int (i * j)) dMul := by
  intro F H x y d e q Q sF hx hy hg k
  cases d <;> cases e <;> try exact bad_none hg
  simp only [dMul] at hg
  split at hg
  · rename_i hz; cases hg; have hz' := of_decide_eq_true hz; exact ⟨_, _, hx.int, hy.int, hz', k _ F H (.refl sF) (.int _)⟩
  · cases hg
theorem opd_fdiv : OpD K (rI CDivW fun i j => .int (i / j)) dFdiv := by
  intro F H x y d e q Q sF hx hy hg k
  cases d <;> cases e <;> try exact bad_none hg
  simp only [dFdiv] at hg
  split at hg
  · rename_i hz; cases hg; have hz' := of_decide_eq_true hz; exact ⟨_, _, hx.int, hy.int, hz', k _ F H (.refl sF) (.int _)⟩
  · cases hg
theorem opd_mod : OpD K (rI (fun _ j => 0 < j) fun i j => .int (i % j)) dMod := by
  intro F H x y d e q Q sF hx hy hg k
  cases d <;> cases e <;> try exact bad_none hg
  simp only [dMod] at hg
  split at hg
  · rename_i hz; cases hg; have hz' := of_decide_eq_true hz; exact ⟨_, _, hx.int, hy.int, hz', k _ F H (.refl sF) (.int _)⟩
  · cases hg
theorem opd_pow : OpD K (rI (fun i j => 0 ≤ j ∧ (Builtin.Int.intBits i : Int) * j ≤ 2 ^ 27) fun i j => .int (i ^ j.toNat)) dPow := by
  intro F H x y d e q Q sF hx hy hg k
  cases d <;> cases e <;> try exact bad_none hg
  rename_i a b
  simp only [dPow] at hg
  split at hg
  · rename_i hz
    cases hg
    obtain ⟨h1, h2, h3⟩ := of_decide_eq_true hz
    refine ⟨_, _, hx.int, hy.int, ⟨h1, ?_⟩, k _ F H (.refl sF) (.int _)⟩
    have hb : Builtin.Int.intBits a ≤ 100000 := by
      unfold Builtin.Int.intBits
      split <;> omega
    have h4 : (Builtin.Int.intBits a : Int) * b ≤ 100000 * 100 := Int.mul_le_mul (by omega) h2 h1 (by decide)
    exact Int.le_trans h4 (by decide)
  · cases hg
theorem opd_lt : OpD K (rI0 fun i j => .bl (decide (i < j))) dLt := by
  intro F H x y d e q Q sF hx hy hg k
  cases d <;> cases e <;> try exact bad_none hg
  cases hg; exact ⟨_, _, hx.int, hy.int, k _ F H (.refl sF) (.bl _)⟩
theorem opd_le : OpD K (rI0 fun i j => .bl (decide (i ≤ j))) dLe := by
  intro F H x y d e q Q sF hx hy hg k
  cases d <;> cases e <;> try exact bad_none hg
  cases hg; exact ⟨_, _, hx.int, hy.int, k _ F H (.refl sF) (.bl _)⟩
theorem opd_gt : OpD K (rI0 fun i j => .bl (decide (j < i))) dGt := by
  intro F H x y d e q Q sF hx hy hg k
  cases d <;> cases e <;> try exact bad_none hg
  cases hg; exact ⟨_, _, hx.int, hy.int, k _ F H (.refl sF) (.bl _)⟩
theorem opd_ge : OpD K (rI0 fun i j => .bl (decide (j ≤ i))) dGe := by
  intro F H x y d e q Q sF hx hy hg k
  cases d <;> cases e <;> try exact bad_none hg
  cases hg; exact ⟨_, _, hx.int, hy.int, k _ F H (.refl sF) (.bl _)⟩
theorem prep_isN {v : V} {d : D} (h : PRep K F H v d) : decide (v = .non) = isN d := by
  cases d with
  | none => rw [h.non]; rfl
  | bool b => rw [h.bool]; rfl
  | int b => rw [h.int]; rfl
  | str b => rw [h.str]; rfl
  | list ds =>
    rcases h with h | ⟨p, rfl, h⟩
    · cases h; rfl
    · rfl
  | tuple ds =>
    rcases h with h | ⟨p, rfl, h⟩
    · cases h; rfl
    · rfl
  | dict ds =>
    rcases h with h | ⟨p, rfl, h⟩
    · cases h <;> rfl
    · rfl
theorem opd_isN : OpD K (fun x y H Q => y = .non ∧ Q (.bl (decide (x = .non))) H) dIsN := by
  intro F H x y d e q Q sF hx hy hg k
  cases e <;> try exact bad_none hg
  cases hg
  refine ⟨hy.non, ?_⟩
  rw [prep_isN hx]
  exact k _ F H (.refl sF) (.bl _)
theorem opd_notN : OpD K (fun x y H Q => y = .non ∧ Q (.bl (!decide (x = .non))) H) dNotN := by
  intro F H x y d e q Q sF hx hy hg k
  cases e <;> try exact bad_none hg
  cases hg
  refine ⟨hy.non, ?_⟩
  rw [prep_isN hx]
  exact k _ F H (.refl sF) (.bl _)
theorem opd_eqN : OpD K (rEqD K) dEqN := by
  intro F H x y d e q Q sF hx hy hg k
  unfold dEqN at hg
  split at hg
  · rename_i hz
    cases hg
    simp only [Bool.and_eq_true] at hz
    obtain ⟨⟨⟨h1, h2⟩, h3⟩, h4⟩ := hz
    exact ⟨d, e, (hx.rep sF).dp h1, (hy.rep sF).dp h2, h3, h4, k _ F H (.refl sF) (.bl _)⟩
  · cases hg
theorem opd_neN : OpD K (rNeD K) dNeN := by
  intro F H x y d e q Q sF hx hy hg k
  unfold dNeN at hg
  split at hg
  · rename_i hz
    cases hg
    simp only [Bool.and_eq_true] at hz
    obtain ⟨⟨⟨h1, h2⟩, h3⟩, h4⟩ := hz
    exact ⟨d, e, (hx.rep sF).dp h1, (hy.rep sF).dp h2, h3, h4, k _ F H (.refl sF) (.bl _)⟩
  · cases hg
theorem opd_eq : OpD K (fun x y H Q => rEqD K x y H Q ∨ rEq x y H Q) dEq := by
  intro F H x y d e q Q sF hx hy hg k
  unfold dEq at hg
  split at hg
  · cases hg
    rw [hx.str, hy.str]
    refine .inr ⟨rfl, ?_⟩
    rw [dec_str]
    exact k _ F H (.refl sF) (.bl _)
  · exact .inl (opd_eqN F H x y d e q Q sF hx hy hg k)
theorem opd_ne : OpD K (fun x y H Q => rNeD K x y H Q ∨ rNe x y H Q) dNe := by
  intro F H x y d e q Q sF hx hy hg k
  unfold dNe at hg
  split at hg
  · cases hg
    rw [hx.str, hy.str]
    refine .inr ⟨rfl, ?_⟩
    rw [dec_str]
    exact k _ F H (.refl sF) (.bl _)
  · exact .inl (opd_neN F H x y d e q Q sF hx hy hg k)
theorem und_neg : UnD K (rU fun i => .int (-i)) dNeg := by
  intro F H x d q Q sF hx hg k
  cases d <;> try exact bad_none hg
  cases hg
  exact ⟨_, hx.int, k _ F H (.refl sF) (.int _)⟩
theorem opd_ix : OpD K (rIx K) dIx := by
  intro F H x y d e q Q sF hx hy hg k
  cases d <;> cases e <;> try exact bad_none hg
  · rename_i s i
    simp only [dIx] at hg
    split at hg
    · rename_i hz
      obtain ⟨c, h1, h2⟩ := Option.bind_eq_some_iff.mp hg
      cases h2
      exact .inr (.inr ⟨s, i, c, hx.str, hy.int, line_small hz, h1, k _ F H (.refl sF) (.str _)⟩)
    · cases hg
  · rename_i ds i
    obtain ⟨p, vs, rfl, hs, r⟩ := hx.list sF
    obtain ⟨v, h1, h2⟩ := ix_reps r (show atI ds i = some q from hg)
    exact .inl ⟨p, vs, i, v, rfl, hy.int, hs, h1, k v F H (.refl sF) h2⟩
  · rename_i ds i
    obtain ⟨p, vs, rfl, hs, r⟩ := hx.tup sF
    obtain ⟨v, h1, h2⟩ := ix_reps r (show atI ds i = some q from hg)
    exact .inr (.inl ⟨p, vs, i, v, rfl, hy.int, hs, h1, k v F H (.refl sF) h2⟩)
/-- list + list, list * int: new lists -/
def dCat : D → D → Option D
  | .list a, .list b => if small (a.length + b.length) then some (.list (a ++ b)) else none
  | _, _ => none
def dRep : D → D → Option D
  | .list a, .int k => if decide (-(2 ^ 63) ≤ k ∧ k < 2 ^ 63) && small (a.length * k.toNat) then some (.list (List.replicate k.toNat a).flatten) else none
  | _, _ => none
/-- a list that is to be read as the heap has it -/
def NoK (K : PySem.W.Frag) : Prop := ∀ a o, K.lookup a = some o → o.cls ≠ .type "list"
theorem flat_reps {vs : List V} {ds : List D} (r : Reps K F vs ds) : ∀ n : Nat, Reps K F (List.replicate n vs).flatten (List.replicate n ds).flatten
  | 0 => .nil
  | n + 1 => by
    rw [List.replicate_succ, List.replicate_succ, List.flatten_cons, List.flatten_cons]
    exact r.append (flat_reps r n)
end
end M
set_option Elab.async false
set_option linter.all false
set_option maxRecDepth 100000
set_option autoImplicit false
/-! M8: more operators and built-in functions on data; methods that change lists; what loops walk. -/
namespace M
open PySem PySem.Spec PyProof.Rows L2
def rCatS (K : PySem.W.Frag) : R2 := fun x y H Q => ∃ l b xs zs, x = .ref l ∧ y = .ref b ∧ SqL K H l xs ∧ SqL K H b zs ∧ xs.length + zs.length ≤ sizeLine ∧ ∀ p, H p = none → Q (.ref p) (upd H p (.lst (xs ++ zs)))
def rRepS (K : PySem.W.Frag) : R2 := fun x y H Q => ∃ l k xs, x = .ref l ∧ y = .int k ∧ SqL K H l xs ∧ -(2 ^ 63) ≤ k ∧ k < 2 ^ 63 ∧ xs.length * k.toNat ≤ 1000000 ∧ ∀ p, H p = none → Q (.ref p) (upd H p (.lst (List.replicate k.toNat xs).flatten))
section
variable {X : Cx}
theorem op_catS : OpR X (binaryOp .Add) (rCatS X.K) := by
  intro pins s σ H x y v u Q I rx ry h
  obtain ⟨l, b, xs, zs, rfl, rfl, h1, h2, hz, q⟩ := h
  cases rx
  cases ry
  obtain ⟨t1, r1, p1, _⟩ := I.list h1
  obtain ⟨t2, r2, p2, _⟩ := I.list h2
  obtain ⟨⟨c1, d1, dt1, s1⟩, e1, hc1, n1, hd1⟩ := p1.isList
  obtain ⟨⟨c2, d2, dt2, s2⟩, e2, hc2, n2, hd2⟩ := p2.isList
  simp only at hc1 hd1 hc2 hd2
  subst hc1 hd1 hc2 hd2
  have l1 := r1.length
  have l2 := r2.length
  have ea : t1.toArray ++ t2.toArray = (t1 ++ t2).toArray := by simp
  refine concat_meets ⟨_, e1, rfl⟩ ⟨_, e2, rfl⟩ noFill_list_add seq_list_add PySem.F.slot_list_add PySem.F.entry_list_add (PySem.F.args_list_add_2 _ _) (list_addW l b t1.toArray t2.toArray n1 n2 d1 d2 s1 s2 (by rw [List.size_toArray, List.size_toArray]; omega)) ⟨e1, e2, ?_⟩
  rw [ea]
  exact ⟨.ref _, _, I.lnew (t' := s.toks) (r1.append r2) (by rw [List.length_append]; omega), rfl, q _ I.fresh⟩
theorem Vals.repN {xs : List V} {us : List Value} (r : Vals xs us) : ∀ n : Nat, Vals (List.replicate n xs).flatten (List.replicate n us).flatten
  | 0 => .nil
  | n + 1 => by
    rw [List.replicate_succ, List.replicate_succ, List.flatten_cons, List.flatten_cons]
    exact r.append (Vals.repN r n)
theorem op_repS : OpR X (binaryOp .Mult) (rRepS X.K) := by
  intro pins s σ H x y v u Q I rx ry h
  obtain ⟨l, k, xs, rfl, rfl, h1, h2, h3, hz, q⟩ := h
  cases rx
  obtain ⟨t, rfl⟩ := ry
  obtain ⟨t1, r1, p1, _⟩ := I.list h1
  obtain ⟨⟨c1, d1, dt1, s1⟩, e1, hc1, n1, hd1⟩ := p1.isList
  simp only at hc1 hd1
  subst hc1 hd1
  have l1 := r1.length
  have hsz3 : t1.length * k.toNat ≤ 1000000 := by rw [← l1]; exact hz
  have hsz : t1.toArray.size * k.toNat ≤ 1000000 := by rw [List.size_toArray, ← l1]; exact hz
  refine wpAny_binaryOp_repeat_ref (T := "list") (U := "int") (by decide) ⟨_, e1, rfl⟩ (fun s' => typeIs_int s' k t) noFill_list_mul PySem.F.fills_int_mul PySem.F.slot_int_rmul repeat_list PySem.F.slot_int_index.lookup
    (call_meets PySem.F.slot_int_rmul (typeIs_int s k t) PySem.F.entry_int_rmul (PySem.F.args_int_rmul_2 _ _) (lm_int_rmul_list_any k t l t1.toArray n1 d1 s1)
      ⟨e1, rfl, ⟨_, e1, rfl⟩, call_meets PySem.F.slot_list_mul ⟨_, e1, rfl⟩ PySem.F.entry_list_mul (PySem.F.args_list_mul_2 _ _)
        (lm_list_mul_any l t1.toArray n1 d1 s1 k t (by simp [Builtin.List.listFitsIndex]; omega) (by omega) (by simp [Builtin.List.listTooLong, sizeLine]; omega)) ⟨e1, ?_⟩⟩)
  rw [listMul_foldl_if]
  refine ⟨.ref _, _, I.lnew (t' := s.toks) (Vals.repN r1 k.toNat) (by rw [PyProof.Rows.lm_len_rep_flat, Nat.mul_comm, sizeLine_eq]; omega), rfl, q _ I.fresh⟩
end
section
variable {X : Cx} {K : PySem.W.Frag} {F H : Hp}
theorem opf_cat : OpF K (rCatS K) dCat := by
  intro F H x y d e q Q sF hx hy hg
  cases d <;> cases e <;> try exact bad_none hg
  rename_i a b
  simp only [dCat] at hg
  split at hg
  · rename_i hz
    cases hg
    obtain ⟨p, vs, rfl, hs, r⟩ := hx.list sF
    obtain ⟨p2, vs2, rfl, hs2, r2⟩ := hy.list sF
    exact ⟨.lst (vs ++ vs2), fun p H' h => ⟨_, h, r.append r2⟩, fun k => ⟨p, p2, vs, vs2, rfl, rfl, hs, hs2, by rw [r.length, r2.length]; exact line_small hz, k⟩⟩
  · cases hg
theorem opf_rep : OpF K (rRepS K) dRep := by
  intro F H x y d e q Q sF hx hy hg
  cases d <;> cases e <;> try exact bad_none hg
  rename_i a b
  simp only [dRep] at hg
  split at hg
  · rename_i hz
    cases hg
    obtain ⟨h1, h2⟩ := Bool.and_eq_true_iff.mp hz
    obtain ⟨h3, h4⟩ := of_decide_eq_true h1
    obtain ⟨p, vs, rfl, hs, r⟩ := hx.list sF
    exact ⟨.lst (List.replicate b.toNat vs).flatten, fun p H' h => ⟨_, h, flat_reps r _⟩, fun k => ⟨p, b, vs, rfl, hy.int, hs, h3, h4, by rw [r.length]; exact of_decide_eq_true h2, k⟩⟩
  · cases hg
/-! ### functions -/
theorem preps1 {xs : List V} {d : D} (h : PReps K F H xs [d]) : ∃ v, xs = [v] ∧ PRep K F H v d := by
  obtain ⟨v, ws, e, h1, h2⟩ := h
  cases (show ws = [] from h2)
  exact ⟨v, e, h1⟩
theorem preps2 {xs : List V} {d e : D} (h : PReps K F H xs [d, e]) : ∃ v w, xs = [v, w] ∧ PRep K F H v d ∧ PRep K F H w e := by
  obtain ⟨v, ws, e1, h1, w, us, e2, h3, h4⟩ := h
  cases (show us = [] from h4)
  subst e2
  exact ⟨v, w, e1, h1, h3⟩
def f1 (g : D → Option D) : List D → Option D
  | [d] => g d
  | _ => none
def f2 (g : D → D → Option D) : List D → Option D
  | [d, e] => g d e
  | _ => none
theorem f1_some {g : D → Option D} {ds : List D} {q : D} (h : f1 g ds = some q) : ∃ d, ds = [d] ∧ g d = some q := by
  cases ds with
  | nil => cases h
  | cons d ds => cases ds with
    | nil => exact ⟨d, rfl, h⟩
    | cons => cases h
theorem f2_some {g : D → D → Option D} {ds : List D} {q : D} (h : f2 g ds = some q) : ∃ d e, ds = [d, e] ∧ g d e = some q := by
  cases ds with
  | nil => cases h
  | cons d ds => cases ds with
    | nil => cases h
    | cons e ds => cases ds with
      | nil => exact ⟨d, e, rfl, h⟩
      | cons => cases h
def dLen : D → Option D
  | .list xs => some (.int xs.length)
  | .tuple xs => some (.int xs.length)
  | .str s => if small s.length then some (.int s.length) else none
  | _ => none
theorem fnd_len : FnD K (fun xs H Q => ∃ x n, xs = [x] ∧ LenV K x H n ∧ Q (.int n) H) (f1 dLen) := by
  intro F H xs ds q Q sF hx hg0 k
  obtain ⟨d, rfl, hg⟩ := f1_some hg0
  clear hg0
  obtain ⟨v, rfl, hv⟩ := preps1 hx
  cases d <;> try exact bad_none hg
  · rename_i s
    have hg : (if small s.length = true then some (PyData.int s.length) else none) = some q := hg
    split at hg
    · rename_i hz
      cases hg
      cases hv.str
      exact ⟨_, _, rfl, ⟨line_small hz, rfl⟩, k _ F H (.refl sF) (.int _)⟩
    · cases hg
  · cases hg
    obtain ⟨p, vs, rfl, hs, r⟩ := hv.list sF
    refine ⟨_, _, rfl, .inl ⟨vs, hs, r.length.symm⟩, k _ F H (.refl sF) (.int _)⟩
  · cases hg
    obtain ⟨p, vs, rfl, hs, r⟩ := hv.tup sF
    refine ⟨_, _, rfl, .inr ⟨vs, hs, r.length.symm⟩, k _ F H (.refl sF) (.int _)⟩
def dAbs : D → Option D
  | .int i => some (.int (if i < 0 then -i else i))
  | _ => none
theorem fnd_abs : FnD K (fun xs H Q => ∃ i, xs = [V.int i] ∧ Q (.int (if i < 0 then -i else i)) H) (f1 dAbs) := by
  intro F H xs ds q Q sF hx hg0 k
  obtain ⟨d, rfl, hg⟩ := f1_some hg0
  clear hg0
  obtain ⟨v, rfl, hv⟩ := preps1 hx
  cases d <;> try exact bad_none hg
  cases hg
  cases hv.int
  exact ⟨_, rfl, k _ F H (.refl sF) (.int _)⟩
def dMax2 : D → D → Option D
  | .int i, .int j => some (.int (if j > i then j else i))
  | _, _ => none
def dMin2 : D → D → Option D
  | .int i, .int j => some (.int (if j < i then j else i))
  | _, _ => none
theorem fnd_max2 : FnD K (fun xs H Q => ∃ i j, xs = [V.int i, V.int j] ∧ Q (.int (if j > i then j else i)) H) (f2 dMax2) := by
  intro F H xs ds q Q sF hx hg k
  obtain ⟨d, e, rfl, hg⟩ := f2_some hg
  obtain ⟨v, w, rfl, hv, hw⟩ := preps2 hx
  cases d <;> cases e <;> try exact bad_none hg
  cases hg
  cases hv.int
  cases hw.int
  exact ⟨_, _, rfl, k _ F H (.refl sF) (.int _)⟩
theorem fnd_min2 : FnD K (fun xs H Q => ∃ i j, xs = [V.int i, V.int j] ∧ Q (.int (if j < i then j else i)) H) (f2 dMin2) := by
  intro F H xs ds q Q sF hx hg k
  obtain ⟨d, e, rfl, hg⟩ := f2_some hg
  obtain ⟨v, w, rfl, hv, hw⟩ := preps2 hx
  cases d <;> cases e <;> try exact bad_none hg
  cases hg
  cases hv.int
  cases hw.int
  exact ⟨_, _, rfl, k _ F H (.refl sF) (.int _)⟩
def dInt : D → Option D
  | .int i => some (.int i)
  | .bool b => some (.int (if b then 1 else 0))
  | _ => none
theorem fnd_int : FnD K (fun xs H Q => (∃ i, xs = [V.int i] ∧ Q (.int i) H) ∨ ∃ k, xs = [V.bl k] ∧ Q (.int (if k then 1 else 0)) H) (f1 dInt) := by
  intro F H xs ds q Q sF hx hg0 k
  obtain ⟨d, rfl, hg⟩ := f1_some hg0
  clear hg0
  obtain ⟨v, rfl, hv⟩ := preps1 hx
  cases d <;> try exact bad_none hg
  · cases hg
    cases hv.bool
    exact .inr ⟨_, rfl, k _ F H (.refl sF) (.int _)⟩
  · cases hg
    cases hv.int
    exact .inl ⟨_, rfl, k _ F H (.refl sF) (.int _)⟩
def dTuple : D → Option D
  | .list xs => some (.tuple xs)
  | .tuple xs => some (.tuple xs)
  | _ => none
theorem fnd_tuple : FnD K (fun xs H Q => ∃ p ys, xs = [V.ref p] ∧ ((SqL K H p ys ∧ ∀ l, H l = none → Q (.ref l) (upd H l (.tup ys))) ∨ (SqT K H p ys ∧ Q (.ref p) H))) (f1 dTuple) := by
  intro F H xs ds q Q sF hx hg0 k
  obtain ⟨d, rfl, hg⟩ := f1_some hg0
  clear hg0
  obtain ⟨v, rfl, hv⟩ := preps1 hx
  cases d <;> try exact bad_none hg
  · cases hg
    obtain ⟨p, vs, rfl, hs, r⟩ := hv.list sF
    refine ⟨p, vs, rfl, .inl ⟨hs, fun l nl => ?_⟩⟩
    have g := Grow.alloc (o := .tup vs) sF nl
    exact k _ _ _ g (.tup (.inl (.inl upd_same)) (r.mono g.f))
  · cases hg
    obtain ⟨p, vs, rfl, hs, r⟩ := hv.tup sF
    refine ⟨p, vs, rfl, .inr ⟨hs, ?_⟩⟩
    rcases hv with h | ⟨_, _, h⟩
    · exact k _ F H (.refl sF) h
    · exact h.elim
def dList : D → Option D
  | .list xs => some (.list xs)
  | .tuple xs => some (.list xs)
  | _ => none
theorem fnf_list : FnF K (fun xs H Q => ∃ p ys, xs = [V.ref p] ∧ (SqL K H p ys ∨ SqT K H p ys) ∧ ∀ l, H l = none → Q (.ref l) (upd H l (.lst ys))) (f1 dList) := by
  intro F H xs ds q Q sF hx hg
  obtain ⟨d, rfl, hg⟩ := f1_some hg
  obtain ⟨v, rfl, hv⟩ := preps1 hx
  cases d <;> try exact bad_none hg
  · cases hg
    obtain ⟨p, vs, rfl, hs, r⟩ := hv.list sF
    exact ⟨.lst vs, fun p H' h => ⟨_, h, r⟩, fun k => ⟨p, vs, rfl, .inl hs, k⟩⟩
  · cases hg
    obtain ⟨p, vs, rfl, hs, r⟩ := hv.tup sF
    exact ⟨.lst vs, fun p H' h => ⟨_, h, r⟩, fun k => ⟨p, vs, rfl, .inr hs, k⟩⟩
def bsD : List D → Option (List Bool)
  | [] => some []
  | .bool b :: ds => (bsD ds).bind fun r => some (b :: r)
  | _ => none
theorem bsD_reps : ∀ {ds : List D} {bs : List Bool} {vs : List V}, bsD ds = some bs → Reps K F vs ds → vs = bs.map V.bl
  | [], _, _, h, r => by cases h; cases r; rfl
  | .bool b :: ds, bs, vs, h, r => by
    obtain ⟨r', h1, h2⟩ := Option.bind_eq_some_iff.mp h
    cases h2
    cases r with
    | cons a t => cases a; rw [bsD_reps h1 t]; rfl
def isD : List D → Option (List Int)
  | [] => some []
  | .int b :: ds => (isD ds).bind fun r => some (b :: r)
  | _ => none
theorem isD_reps : ∀ {ds : List D} {bs : List Int} {vs : List V}, isD ds = some bs → Reps K F vs ds → vs = bs.map V.int
  | [], _, _, h, r => by cases h; cases r; rfl
  | .int b :: ds, bs, vs, h, r => by
    obtain ⟨r', h1, h2⟩ := Option.bind_eq_some_iff.mp h
    cases h2
    cases r with
    | cons a t => cases a; rw [isD_reps h1 t]; rfl
def dAll : D → Option D
  | .list xs => (bsD xs).bind fun bs => some (.bool (bs.all id))
  | _ => none
def dAny : D → Option D
  | .list xs => (bsD xs).bind fun bs => some (.bool (bs.any id))
  | _ => none
def dSum : D → Option D
  | .list xs => (isD xs).bind fun bs => some (.int bs.sum)
  | _ => none
theorem fnd_all : FnD K (rAll K) (f1 dAll) := by
  intro F H xs ds q Q sF hx hg0 k
  obtain ⟨d, rfl, hg⟩ := f1_some hg0
  clear hg0
  obtain ⟨v, rfl, hv⟩ := preps1 hx
  cases d <;> try exact bad_none hg
  obtain ⟨bs, h1, h2⟩ := Option.bind_eq_some_iff.mp hg
  cases h2
  obtain ⟨p, vs, rfl, hs, r⟩ := hv.list sF
  rw [bsD_reps h1 r] at hs
  exact ⟨p, bs, rfl, hs, k _ F H (.refl sF) (.bl _)⟩
theorem fnd_any : FnD K (rAny K) (f1 dAny) := by
  intro F H xs ds q Q sF hx hg0 k
  obtain ⟨d, rfl, hg⟩ := f1_some hg0
  clear hg0
  obtain ⟨v, rfl, hv⟩ := preps1 hx
  cases d <;> try exact bad_none hg
  obtain ⟨bs, h1, h2⟩ := Option.bind_eq_some_iff.mp hg
  cases h2
  obtain ⟨p, vs, rfl, hs, r⟩ := hv.list sF
  rw [bsD_reps h1 r] at hs
  exact ⟨p, bs, rfl, hs, k _ F H (.refl sF) (.bl _)⟩
theorem fnd_sum : FnD K (rSum K) (f1 dSum) := by
  intro F H xs ds q Q sF hx hg0 k
  obtain ⟨d, rfl, hg⟩ := f1_some hg0
  clear hg0
  obtain ⟨v, rfl, hv⟩ := preps1 hx
  cases d <;> try exact bad_none hg
  obtain ⟨bs, h1, h2⟩ := Option.bind_eq_some_iff.mp hg
  cases h2
  obtain ⟨p, vs, rfl, hs, r⟩ := hv.list sF
  rw [isD_reps h1 r] at hs
  exact ⟨p, bs, rfl, hs, k _ F H (.refl sF) (.int _)⟩
/-! ### isinstance -/
def tyD : D → String
  | .none => "NoneType"
  | .bool _ => "bool"
  | .int _ => "int"
  | .str _ => "str"
  | .list _ => "list"
  | .tuple _ => "tuple"
  | .dict _ => "dict"
theorem tyX_sq {a : Addr} {xs : List V} (h : SqL K H a xs) : TyX K H (.ref a) (.type "list") := by
  rcases h with (h | ⟨o, h⟩) | ⟨o, its, n, h, hc, _⟩
  · exact .base (.lst h)
  · exact .base (.frz h)
  · exact .kList h hc
theorem tyX_sqT {a : Addr} {xs : List V} (h : SqT K H a xs) : TyX K H (.ref a) (.type "tuple") := by
  rcases h with (h | ⟨o, h⟩) | ⟨o, its, n, h, hc, _⟩
  · exact .base (.tup h)
  · exact .fTuple h
  · exact .kTuple h hc
def noFT : D → Bool
  | .dict _ => false
  | _ => true
theorem tyX_of {v : V} {d : D} (sF : Same F H) (h : PRep K F H v d) (hd : noFT d = true) : TyX K H v (.type (tyD d)) := by
  cases d with
  | none => rw [h.non]; exact .base .non
  | bool b => rw [h.bool]; exact .base (.bl b)
  | int b => rw [h.int]; exact .base (.int b)
  | str b => rw [h.str]; exact .base (.str b)
  | list ds => obtain ⟨p, vs, rfl, hs, r⟩ := h.list sF; exact tyX_sq hs
  | tuple ds => obtain ⟨p, vs, rfl, hs, r⟩ := h.tup sF; exact tyX_sqT hs
  | dict ds => cases hd
def dIsi (T : String) (d : D) : Option D := if noFT d then (kitB (tyD d) T).bind fun b => some (.bool b) else none
def dIsi2 (T U : String) (d : D) : Option D := if noFT d then (kitB (tyD d) T).bind fun b => (kitB (tyD d) U).bind fun c => some (.bool (b || c)) else none
variable {W : WX} {a : Expr} {fa : Ev A} {p p2 p3 p4 pos : Pos}
theorem da_of_pe {e : Expr} {v : V} (h : PE X e (tC v)) (ha : DX X W a fa) (hs : starEach [a, e] X.env = (false, eval a X.env) :: starEach [e] X.env := by rfl) (hs2 : starEach [e] X.env = (false, eval e X.env) :: starEach [] X.env := by rfl) :
    ∃ t : TA, PA X [a, e] t ∧ ∀ (G : Gd) (en : En) (F H : Hp) (σ : L2.St) (Q : List V → Hp → Prop), Rel X.K G en F H σ → PostE X W G F σ (fun F' a u => ∃ w, u = [w, v] ∧ AOk X.K F' σ a w) (fa en) Q → t σ H Q := by
  obtain ⟨t, pt, q⟩ := ha.ex
  refine ⟨_, pa_cons pt (pa_cons h pa_nil hs2) hs, fun G en F H σ Q R k => q G en F H σ _ R ?_⟩
  cases z : fa en with
  | bad => rw [z] at k; exact k
  | ex x e => rw [z] at k; exact k
  | ok o e1 =>
    rw [z] at k
    intro w F' H' R' s' o'
    exact k [w, v] F' H' R' s' ⟨w, rfl, o'⟩
theorem dx_isi {T : Str} {Tn : String} (ha : DX X W a fa) (hm : X.mg "isinstance" = none) (hT : X.mg T = none) (hv : bootBuiltins T = some (.type Tn) := by decide +kernel) (hg : Gl X "isinstance" := by rfl) (hgT : Gl X T := by rfl)
    (hn : T ≠ "__name__" := by decide) (hd : (T == ("__debug__" : Str)) = false := by decide) (he : starEach [a, .Name T p2] X.env = (false, eval a X.env) :: starEach [.Name T p2] X.env := by rfl) (he2 : starEach [.Name T p2] X.env = (false, eval (.Name T p2) X.env) :: starEach [] X.env := by rfl) (hpl : (backTo pos (starEach [.Name T p2] X.env)).any (·.1) = false := by rfl) :
    DX X W (.Call (.Name "isinstance" p) [a, .Name T p2] [] pos) (eUn (dIsi Tn) fa) := by
  obtain ⟨t, pt, q⟩ := da_of_pe (W := W) (pe_bltn (v := .ty Tn) hgT hT hv rfl hn hd) ha he he2
  refine ⟨_, pe_callB call_isi hg hm (by decide +kernel) pt (by decide) (by decide) he hpl, fun G en F H σ Q R k => q G en F H σ _ R (k.bind fun o e1 u F1 H1 R1 s1 ou k1 => ?_)⟩
  obtain ⟨w, rfl, ow⟩ := ou
  obtain ⟨d, ed⟩ := fin_some k1
  obtain ⟨d1, e1', ed'⟩ := Option.bind_eq_some_iff.mp ed
  unfold dIsi at ed'
  split at ed'
  · rename_i hz
    obtain ⟨b, h1, h2⟩ := Option.bind_eq_some_iff.mp ed'
    cases h2
    exact ⟨w, .ty Tn, _, _, b, rfl, .ty Tn, tyX_of R1.fh (res_ok R1 ow e1') hz, kit_ty h1, fin_ok R1 k1 ed (.refl R1.fh) (.bl b)⟩
  · cases ed'
theorem dx_isi2 {T U : Str} {Tn Un : String} {k : Nat} (ha : DX X W a fa) (hm : X.mg "isinstance" = none) (hT : X.mg T = none) (hU : X.mg U = none) (hv : bootBuiltins T = some (.type Tn) := by decide +kernel) (hvU : bootBuiltins U = some (.type Un) := by decide +kernel) (hg : Gl X "isinstance" := by rfl) (hgT : Gl X T := by rfl) (hgU : Gl X U := by rfl)
    (hn : T ≠ "__name__" := by decide) (hd : (T == ("__debug__" : Str)) = false := by decide) (hnU : U ≠ "__name__" := by decide) (hdU : (U == ("__debug__" : Str)) = false := by decide)
    (hs1 : starEach [.Name T p2, .Name U p3] X.env = (false, eval (.Name T p2) X.env) :: starEach [.Name U p3] X.env := by rfl) (hs2 : starEach [.Name U p3] X.env = (false, eval (.Name U p3) X.env) :: starEach [] X.env := by rfl)
    (he : starEach [a, .Tuple [.Name T p2, .Name U p3] k p4] X.env = (false, eval a X.env) :: starEach [.Tuple [.Name T p2, .Name U p3] k p4] X.env := by rfl) (he2 : starEach [.Tuple [.Name T p2, .Name U p3] k p4] X.env = (false, eval (.Tuple [.Name T p2, .Name U p3] k p4) X.env) :: starEach [] X.env := by rfl) (hpl : (backTo pos (starEach [.Tuple [.Name T p2, .Name U p3] k p4] X.env)).any (·.1) = false := by rfl) :
    DX X W (.Call (.Name "isinstance" p) [a, .Tuple [.Name T p2, .Name U p3] k p4] [] pos) (eUn (dIsi2 Tn Un) fa) := by
  obtain ⟨t, pt, q⟩ := ha.ex
  have pT := pe_tup (x1 := k) (pos := p4) (pa_cons (pe_bltn (v := .ty Tn) (pos := p2) hgT hT hv rfl hn hd) (pa_cons (pe_bltn (v := .ty Un) (pos := p3) hgU hU hvU rfl hnU hdU) pa_nil hs2) hs1)
  refine ⟨_, pe_callB call_isiT hg hm (by decide +kernel) (pa_cons pt (pa_cons pT pa_nil he2) he) (by decide) (by decide) he hpl, fun G en F H σ Q R k => q G en F H σ _ R (k.bind fun o e1 w F1 H1 R1 s1 ow k1 => ?_)⟩
  obtain ⟨d, ed⟩ := fin_some k1
  obtain ⟨d1, e1', ed'⟩ := Option.bind_eq_some_iff.mp ed
  unfold dIsi2 at ed'
  split at ed'
  · rename_i hz
    obtain ⟨b, h1, h2⟩ := Option.bind_eq_some_iff.mp ed'
    obtain ⟨c, h3, h4⟩ := Option.bind_eq_some_iff.mp h2
    cases h4
    refine ⟨by show 2 ≤ sizeLine; decide, fun tp np => ?_⟩
    have g := Grow.alloc (o := .tup [.ty Tn, .ty Un]) R1.fh np
    refine ⟨w, tp, [.ty Tn, .ty Un], _, [.type Tn, .type Un], b || c, rfl, upd_same, .cons (.ty Tn) (.cons (.ty Un) .nil), tyX_of g.fh ((res_ok R1 ow e1').elim (fun h => .inl (h.mono g.f)) fun ⟨p, e, h⟩ => .inr ⟨p, e, h.mono g.f (by
      obtain ⟨o, ho⟩ := h.some
      rw [upd_ne (ne_of_none ho np)])⟩) hz, ?_, fin_ok R1 k1 ed g (.bl _)⟩
    refine kitAny_cons (kit_ty h1) (fun hb => ?_) fun hb => by rw [hb]; rfl
    rw [hb, Bool.false_or]
    refine kitAny_cons (kit_ty h3) (fun hc => ?_) fun hc => hc
    rw [hc]
    exact kitAny_nil
  · cases ed'
end
end M
set_option Elab.async false
set_option linter.all false
set_option maxRecDepth 100000
set_option autoImplicit false
/-! M9: texts of data, methods and stores that change lists, what loops walk. -/
namespace M
open PySem PySem.Spec PyProof.Rows L2
/-! ### repr of a list or a tuple -/
def isSeqD : D → Bool
  | .list _ => true
  | .tuple _ => true
  | _ => false
def dRepr (d : D) : Option D := if isSeqD d && nd d && d.showable && decide (d.depth ≤ 60) && small d.shown.length then some (.str d.shown) else none
mutual
theorem nd_hasDict : ∀ d : D, nd d = true → d.hasDict = false
  | .none, _ => rfl
  | .bool _, _ => rfl
  | .int _, _ => rfl
  | .str _, _ => rfl
  | .list xs, h => by
    have := nds_hasDict xs h
    simpa [PyData.hasDict] using this
  | .tuple xs, h => by
    have := nds_hasDict xs h
    simpa [PyData.hasDict] using this
theorem nds_hasDict : ∀ ds : List D, nds ds = true → PyData.hasDictAll ds = false
  | [], _ => rfl
  | d :: ds, h => by
    have h' := Bool.and_eq_true_iff.mp h
    have a := nd_hasDict d h'.1
    have b := nds_hasDict ds h'.2
    simp [PyData.hasDictAll, a, b]
end
section
variable {X : Cx} {K : PySem.W.Frag} {F H : Hp}
def rRepr (K : PySem.W.Frag) : List V → Hp → VK → Prop := fun vs H Q => ∃ (a : Addr) (d : D), vs = [.ref a] ∧ Dp K H (.ref a) d ∧ d.hasDict = false ∧ d.showable = true ∧ d.depth ≤ 60 ∧ d.shown.length ≤ sizeLine ∧ Q (.str d.shown) H
theorem call_repr (gd : X.A.guards = some []) (hu : X.A.units + 64 < cLine) : CallR X (.builtin "repr") (rRepr X.K) := by
  intro pins s σ H vs us Q I r h
  obtain ⟨a, d, rfl, dp, h1, h2, h3, h4, q⟩ := h
  obtain ⟨u, rfl, rx⟩ := vals1 r
  cases (show u = Value.ref a from rx)
  obtain ⟨as, rd⟩ := Dp.reads I d (.ref a) (.ref a) dp rfl
  refine repr_of_reads' rd h2 (fun z => by rw [h1] at z; cases z) gd (by omega) (fun _ _ e => e) (fun h' u tk hk => ?_) h4
  have J : Inv X pins σ H { s with heap := h', toks := tk } := I.kept (t' := tk) fun b o e => hk b o e
  exact ⟨.str d.shown, H, J, ⟨u, rfl⟩, q⟩
theorem fnd_repr : FnD K (rRepr K) (f1 dRepr) := by
  intro F H xs ds q Q sF hx hg0 k
  obtain ⟨d, rfl, hg⟩ := f1_some hg0
  obtain ⟨v, rfl, hv⟩ := preps1 hx
  unfold dRepr at hg
  split at hg
  · rename_i hz
    cases hg
    simp only [Bool.and_eq_true] at hz
    obtain ⟨⟨⟨⟨z0, z1⟩, z2⟩, z3⟩, z4⟩ := hz
    have rp := hv.rep sF
    obtain ⟨a, rfl⟩ : ∃ a, v = .ref a := by
      cases d with
      | list ds => obtain ⟨p, vs, rfl, _⟩ := hv.list sF; exact ⟨p, rfl⟩
      | tuple ds => obtain ⟨p, vs, rfl, _⟩ := hv.tup sF; exact ⟨p, rfl⟩
      | _ => cases z0
    exact ⟨a, d, rfl, rp.dp z1, nd_hasDict d z1, z2, of_decide_eq_true z3, line_small z4, k _ F H (.refl sF) (.str _)⟩
  · cases hg
end
/-! ### methods of what is one's own -/
def MutD (K : PySem.W.Frag) (r : V → List V → Hp → VK → Prop) (g : D → List D → Option (D × D)) : Prop := ∀ (F H : Hp) (p : Addr) (vs : List V) (d d' q : D) (ds : List D) (Q : VK), Same F H → Own K F H p d → Reps K F vs ds → g d ds = some (d', q) → (∀ o v, Own K F (upd H p o) p d' → Rep K F v q → Q v (upd H p o)) → r (.ref p) vs H Q
def isLo : Sl → Bool
  | .ow _ (.list _) => true
  | _ => false
def methAt (i : Nat) (g : D → List D → Option (D × D)) (ds : List D) (e1 : En) : M.R A := match e1[i]? with
  | some (.ow b d) => match g d ds with
    | some (d', q) => .ok (.sh q) (e1.set i (.ow b d'))
    | none => .bad
  | _ => .bad
def eMeth (i : Nat) (g : D → List D → Option (D × D)) (fs : Ev (List A)) : Ev A := fun e => if (e[i]?.map isLo) = some true then (eHolds fs e).bind fun ds e1 => methAt i g ds e1 else .bad
section
variable {X : Cx} {W : WX} {e : Expr} {es : List Expr} {name x : Str} {apos cpos npos : Pos} {id : String} {r : V → List V → Hp → VK → Prop} {g : D → List D → Option (D × D)} {fs : Ev (List A)}
theorem holdsE_run {f : Ev (List A)} {t : TA} {G : Gd} {en : En} {F H : Hp} {σ : L2.St} {Q : List V → Hp → Prop} (q : ∀ (G : Gd) (en : En) (F H : Hp) (σ : L2.St) (Q : List V → Hp → Prop), Rel X.K G en F H σ → PA1 X W G F σ (f en) Q → t σ H Q) (R0 : Rel X.K G en F H σ)
    (h : PostE X W G F σ (fun F' d v => Reps X.K F' v d) (eHolds f en) Q) : t σ H Q := by
  refine q G en F H σ Q R0 ?_
  unfold eHolds at h
  cases z : f en with
  | bad => rw [z] at h; exact h
  | ex x e => rw [z] at h; exact h
  | ok o e =>
    rw [z] at h
    simp only [M.R.bind] at h
    intro v F' H' R' s' o'
    cases y : holds o e with
    | none => rw [y] at h; exact h.elim
    | some pr =>
      obtain ⟨d, e2⟩ := pr
      rw [y] at h
      obtain ⟨F2, R2, s2, r2⟩ := holds_ok R' o' y
      exact h v F2 H' R2 (s'.trans s2) r2
theorem isLo_at {en : En} {i : Nat} (h : (en[i]?.map isLo) = some true) : ∃ b xs, en[i]? = some (.ow b (.list xs)) := by
  cases e : en[i]? with
  | none => rw [e] at h; cases h
  | some s =>
    rw [e] at h
    cases s with
    | un => cases h
    | sh d => cases h
    | ow b d =>
      cases d with
      | list xs => exact ⟨b, xs, rfl⟩
      | _ => cases h
theorem methAt_ok {G : Gd} {e1 : En} {F1 H1 : Hp} {σ : L2.St} {Q : VK} {i : Nat} {p : Addr} {ds : List D} {vs : List V} (hg : MutD X.K r g) (R1 : Rel X.K G e1 F1 H1 σ) (hp : σ[i]? = some (some (.ref p))) (rv : Reps X.K F1 vs ds) (h : PE1 X W G F1 σ (methAt i g ds e1) Q) : r (.ref p) vs H1 Q := by
  unfold methAt at h
  cases z : e1[i]? with
  | none => rw [z] at h; exact h.elim
  | some s =>
    rw [z] at h
    cases s with
    | un => exact h.elim
    | sh d => exact h.elim
    | ow b d =>
      simp only at h
      obtain ⟨p', g1, g2, g3⟩ := R1.owV z
      rw [hp] at g1
      cases g1
      cases y : g d ds with
      | none => rw [y] at h; exact h.elim
      | some pr =>
        obtain ⟨d', q⟩ := pr
        rw [y] at h
        exact hg F1 H1 p vs d d' q ds Q R1.fh g3 rv y fun o v ow rq => h v F1 _ (R1.mut z hp ow) (.refl _) rq
/-- x.name(e, ..) of a list that is one's own -/
theorem dx_methL (i : Nat) (slot : Slot "list" name id) (hty : typeOf (.builtin id) = pure (.type "method_descriptor")) (hm : MtR X id r) (hg : MutD X.K r g) (ha : DA X W (e :: es) fs)
    (hN : X.N[i]? = some x := by rfl) (hv : Vis X.env.scope x := by first | exact Or.inl rfl | exact Or.inr (Or.inl rfl) | exact Or.inr (Or.inr rfl)) (hd : (x == ("__debug__" : Str)) = false := by decide) (hcd : (x == ("__classdict__" : Str)) = false := by decide)
    (hb : attributeBase (.Name x npos) name X.env (eval (.Name x npos) X.env) = eval (.Name x npos) X.env := by rfl)
    (hfew : ((backTo cpos (starEach (e :: es) X.env)).all (fun x => !x.1) && (backToKw cpos (keywordEach [] X.env)).all (fun x => x.1.isSome) && decide ((e :: es).length + ([] : List Keyword).length + (if ([] : List Keyword).isEmpty then 0 else 1) < 30)) = true := by rfl)
    (h1 : starEach (e :: es) X.env = (false, eval e X.env) :: starEach es X.env := by rfl) (hp : (backTo cpos (starEach es X.env)).any (·.1) = false := by rfl) (hln : (apos.endLine == cpos.line) = true := by rfl) :
    DX X W (.Call (.Attribute (.Name x npos) name apos) (e :: es) [] cpos) (eMeth i g fs) := by
  obtain ⟨t, pt, q⟩ := ha.ex
  refine ⟨_, pe_bm PySem.F.plainAttrs_list slot hty hm (pe_var hN hv hd hcd) pt hb hfew hln h1 hp, fun G en F H σ Q R h => ?_⟩
  unfold eMeth at h
  split at h
  · rename_i hl
    obtain ⟨b, xs, e0⟩ := isLo_at hl
    obtain ⟨p, g1, g2, g3⟩ := R.owV e0
    obtain ⟨ws, hw, _⟩ := g3
    refine ⟨.ref p, g1, .inl ⟨rfl, ws, .inl (.inl hw)⟩, holdsE_run q R (h.bind fun ds e1 vs F1 H1 R1 s1 o1 k1 => methAt_ok hg R1 g1 o1 k1)⟩
  · exact h.elim
theorem dx_methL0 (i : Nat) (slot : Slot "list" name id) (hty : typeOf (.builtin id) = pure (.type "method_descriptor")) (hm : MtR X id r) (hg : MutD X.K r g)
    (hN : X.N[i]? = some x := by rfl) (hv : Vis X.env.scope x := by first | exact Or.inl rfl | exact Or.inr (Or.inl rfl) | exact Or.inr (Or.inr rfl)) (hd : (x == ("__debug__" : Str)) = false := by decide) (hcd : (x == ("__classdict__" : Str)) = false := by decide)
    (hb : attributeBase (.Name x npos) name X.env (eval (.Name x npos) X.env) = eval (.Name x npos) X.env := by rfl) (hln : (apos.endLine == cpos.line) = true := by rfl) :
    DX X W (.Call (.Attribute (.Name x npos) name apos) [] [] cpos) (eMeth i g eNil) := by
  refine ⟨_, pe_bm0 PySem.F.plainAttrs_list slot hty hm (pe_var hN hv hd hcd) hb hln, fun G en F H σ Q R h => ?_⟩
  unfold eMeth at h
  split at h
  · rename_i hl
    obtain ⟨b, xs, e0⟩ := isLo_at hl
    obtain ⟨p, g1, g2, g3⟩ := R.owV e0
    obtain ⟨ws, hw, _⟩ := g3
    exact ⟨.ref p, g1, .inl ⟨rfl, ws, .inl (.inl hw)⟩, methAt_ok (W := W) hg R g1 (.nil : Reps X.K F [] []) h⟩
  · exact h.elim
end
def gAppend : D → List D → Option (D × D)
  | .list xs, [y] => if small xs.length then some (.list (xs ++ [y]), .none) else none
  | _, _ => none
def gPop : D → List D → Option (D × D)
  | .list xs, [] => (xs[xs.length - 1]?).bind fun y => some (.list xs.dropLast, y)
  | _, _ => none
def gPopAt : D → List D → Option (D × D)
  | .list xs, [.int i] => if decide (-(2 ^ 63) ≤ i ∧ i < 2 ^ 63) then (seqIndex? i xs.length).bind fun k => (xs[k]?).bind fun y => some (.list (xs.eraseIdx k), y) else none
  | _, _ => none
def gReverse : D → List D → Option (D × D)
  | .list xs, [] => some (.list xs.reverse, .none)
  | _, _ => none
def gClear : D → List D → Option (D × D)
  | .list xs, [] => some (.list [], .none)
  | _, _ => none
def gInsert : D → List D → Option (D × D)
  | .list xs, [.int i, y] => if decide (0 ≤ i ∧ i < 2 ^ 63) && small xs.length then some (.list (xs.take i.toNat ++ [y] ++ xs.drop i.toNat), .none) else none
  | _, _ => none
section
variable {K : PySem.W.Frag}
theorem Reps.one_of {F : Hp} {vs : List V} {d : D} (r : Reps K F vs [d]) : ∃ v, vs = [v] ∧ Rep K F v d := by
  cases r with
  | cons a t => cases t; exact ⟨_, rfl, a⟩
theorem Reps.dropLast {F : Hp} {vs : List V} {ds : List D} (r : Reps K F vs ds) : Reps K F vs.dropLast ds.dropLast := by
  rw [List.dropLast_eq_take, List.dropLast_eq_take, r.length]
  exact r.take _
theorem Reps.eraseIdx {F : Hp} : ∀ {vs : List V} {ds : List D} (k : Nat), Reps K F vs ds → Reps K F (vs.eraseIdx k) (ds.eraseIdx k)
  | _, _, _, .nil => .nil
  | _, _, 0, .cons _ t => t
  | _, _, k + 1, .cons a t => .cons a (Reps.eraseIdx k t)
theorem mut_append : MutD K rAppend gAppend := by
  intro F H p vs d d' q ds Q sF ow rv hg k
  cases d with
  | list xs =>
    obtain ⟨ws, hw, rw'⟩ := ow
    cases ds with
    | nil => cases hg
    | cons y ds => cases ds with
      | cons => cases hg
      | nil =>
        obtain ⟨v, rfl, r1⟩ := rv.one_of
        have hg : (if small xs.length = true then some (PyData.list (xs ++ [y]), PyData.none) else none) = some (d', q) := hg
        split at hg
        · rename_i hz
          cases hg
          exact ⟨p, ws, v, rfl, rfl, hw, by rw [rw'.length]; exact line_smallLt hz, k _ _ ⟨_, upd_same, rw'.append (.cons r1 .nil)⟩ .non⟩
        · cases hg
  | _ => cases hg
theorem mut_pop : MutD K rPop gPop := by
  intro F H p vs d d' q ds Q sF ow rv hg k
  cases d with
  | list xs =>
    obtain ⟨ws, hw, rw'⟩ := ow
    cases ds with
    | cons => cases hg
    | nil =>
      cases rv
      obtain ⟨y, h1, h2⟩ := Option.bind_eq_some_iff.mp hg
      cases h2
      obtain ⟨v, h3, h4⟩ := rw'.get h1
      exact ⟨p, ws, v, rfl, rfl, hw, by rw [rw'.length]; exact h3, k _ _ ⟨_, upd_same, rw'.dropLast⟩ h4⟩
  | _ => cases hg
theorem mut_popAt : MutD K rPopAt gPopAt := by
  intro F H p vs d d' q ds Q sF ow rv hg k
  cases d with
  | list xs =>
    obtain ⟨ws, hw, rw'⟩ := ow
    cases ds with
    | nil => cases hg
    | cons y ds => cases ds with
      | cons => cases y <;> cases hg
      | nil =>
        obtain ⟨v, rfl, r1⟩ := rv.one_of
        cases y with
        | int i =>
          cases r1
          have hg : (if decide (-(2 ^ 63) ≤ i ∧ i < 2 ^ 63) = true then (seqIndex? i xs.length).bind fun k => (xs[k]?).bind fun y => some (PyData.list (xs.eraseIdx k), y) else none) = some (d', q) := hg
          split at hg
          · rename_i hz
            obtain ⟨b1, b2⟩ := of_decide_eq_true hz
            obtain ⟨j, h1, h2⟩ := Option.bind_eq_some_iff.mp hg
            obtain ⟨y, h3, h4⟩ := Option.bind_eq_some_iff.mp h2
            cases h4
            obtain ⟨v, h5, h6⟩ := rw'.get h3
            exact ⟨p, ws, i, j, v, rfl, rfl, hw, b1, b2, by rw [rw'.length]; exact h1, h5, k _ _ ⟨_, upd_same, rw'.eraseIdx j⟩ h6⟩
          · cases hg
        | _ => cases hg
  | _ => cases hg
theorem mut_reverse : MutD K rReverse gReverse := by
  intro F H p vs d d' q ds Q sF ow rv hg k
  cases d with
  | list xs =>
    obtain ⟨ws, hw, rw'⟩ := ow
    cases ds with
    | cons => cases hg
    | nil => cases rv; cases hg; exact ⟨p, ws, rfl, rfl, hw, k _ _ ⟨_, upd_same, rw'.reverse⟩ .non⟩
  | _ => cases hg
theorem mut_clear : MutD K rClear gClear := by
  intro F H p vs d d' q ds Q sF ow rv hg k
  cases d with
  | list xs =>
    obtain ⟨ws, hw, rw'⟩ := ow
    cases ds with
    | cons => cases hg
    | nil => cases rv; cases hg; exact ⟨p, ws, rfl, rfl, hw, k _ _ ⟨_, upd_same, .nil⟩ .non⟩
  | _ => cases hg
theorem mut_insert : MutD K (fun x vs H Q => ∃ (l : Addr) (xs : List V) (i : Int) (y : V), x = .ref l ∧ vs = [.int i, y] ∧ H l = some (.lst xs) ∧ xs.length < sizeLine ∧ 0 ≤ i ∧ i < 2 ^ 63 ∧ Q .non (upd H l (.lst (xs.take i.toNat ++ [y] ++ xs.drop i.toNat)))) gInsert := by
  intro F H p vs d d' q ds Q sF ow rv hg k
  cases d with
  | list xs =>
    obtain ⟨ws, hw, rw'⟩ := ow
    cases rv with
    | nil => cases hg
    | @cons v vs' y ds' r1 t =>
      cases t with
      | nil => cases y <;> cases hg
      | @cons v2 vs2 y2 ds2 r2 t =>
        cases t with
        | cons => cases y <;> cases hg
        | nil =>
          cases y with
          | int i =>
            cases r1
            have hg : (if (decide (0 ≤ i ∧ i < 2 ^ 63) && small xs.length) = true then some (PyData.list (xs.take i.toNat ++ [y2] ++ xs.drop i.toNat), PyData.none) else none) = some (d', q) := hg
            split at hg
            · rename_i hz
              obtain ⟨z1, z2⟩ := Bool.and_eq_true_iff.mp hz
              obtain ⟨b1, b2⟩ := of_decide_eq_true z1
              cases hg
              exact ⟨p, ws, i, v2, rfl, rfl, hw, by rw [rw'.length]; exact line_smallLt z2, b1, b2, k _ _ ⟨_, upd_same, ((rw'.take _).append (.cons r2 .nil)).append (rw'.drop _)⟩ .non⟩
            · cases hg
          | _ => cases hg
  | _ => cases hg
end
/-! ### x[i] = e, x[i] op= e -/
def setAt (i : Nat) (d : D) (a : A) (e2 : En) : SR := match res e2 a, e2[i]? with
  | some (.int k), some (.ow b (.list xs)) => match ixN xs.length k with
    | some j => .nx (e2.set i (.ow b (.list (xs.set j d))))
    | none => .bad
  | _, _ => .bad
def sSetIx (i : Nat) (fe fi : Ev A) : En → SR := fun e => (eHold fe e).st fun d e1 => if (e1[i]?.map isLo) = some true then (fi e1).st fun a e2 => setAt i d a e2 else .bad
section
variable {X : Cx} {W : WX} {a ie : Expr} {x : Str} {pos tpos npos : Pos} {fa fi : Ev A}
theorem setAt_ok {G : Gd} {e2 : En} {F2 H2 : Hp} {σ : L2.St} {i : Nat} {p : Addr} {d : D} {v w : V} {o : A} {D' : Ends} (R2 : Rel X.K G e2 F2 H2 σ) (hp : σ[i]? = some (some (.ref p))) (rd : Rep X.K F2 v d) (ow : AOk X.K F2 σ o w) (h : PostS X W G F2 (setAt i d o e2) D') : rSetL (.ref p) w v H2 fun H3 => D'.nx σ H3 := by
  unfold setAt at h
  split at h
  · rename_i k b xs z1 z2
    obtain ⟨p', g1, g2, ws, g3, g4⟩ := R2.owV z2
    rw [hp] at g1
    cases g1
    cases y : ixN xs.length k with
    | none => rw [y] at h; exact h.elim
    | some j =>
      rw [y] at h
      exact ⟨p, ws, k, j, rfl, (res_ok R2 ow z1).int, g3, by rw [g4.length]; exact y, h F2 _ σ (R2.mut z2 hp ⟨_, upd_same, g4.set rd j⟩) (.refl _)⟩
  · exact h.elim
theorem ds_setIx (i : Nat) (ha : DX X W a fa) (hi : DX X W ie fi) (hN : X.N[i]? = some x := by rfl) (hv : Vis X.env.scope x := by first | exact Or.inl rfl | exact Or.inr (Or.inl rfl) | exact Or.inr (Or.inr rfl)) (hd : (x == ("__debug__" : Str)) = false := by decide) (hcd : (x == ("__classdict__" : Str)) = false := by decide)
    (hs : swapsWithSole [.Subscript (.Name x npos) ie tpos] a pos.line X.env = pure false := by rfl) (hw : swappedStores [.Subscript (.Name x npos) ie tpos] a X.env = pure none := by rfl) (h1 : (assignEach [.Subscript (.Name x npos) ie tpos] X.env).map (·.2) = [assign (.Subscript (.Name x npos) ie tpos) X.env] := by rfl)
    (has : ∀ v, assign (.Subscript (.Name x npos) ie tpos) X.env v = (do
      let ov ← holding [v] (eval (.Name x npos) X.env)
      let iv ← holding [v, ov] (eval ie X.env)
      standAt tpos
      holding [v, ov, iv] (setItem ov iv v)
      release [v, ov, iv] []) := by intro _; rfl) :
    DS X W (.Assign [.Subscript (.Name x npos) ie tpos] a pos) (sSetIx i fa fi) := by
  obtain ⟨t, pt, q⟩ := ha.ex
  obtain ⟨ti, pi, qi⟩ := hi.ex
  refine ⟨_, ps_asg pt (pg_sub (pe_var hN hv hd hcd) pi set_list has) hs hw h1, fun G en F H σ D R h => hold_run q R (h.of fun d e1 v F1 H1 R1 s1 o1 k1 => ?_)⟩
  split at k1
  · rename_i hl
    obtain ⟨b, xs, e0⟩ := isLo_at hl
    obtain ⟨p, g1, g2, g3⟩ := R1.owV e0
    exact ⟨.ref p, g1, qi G e1 F1 H1 σ _ R1 (k1.of fun o e2 w F2 H2 R2 s2 o2 k2 => setAt_ok (W := W) R2 g1 (o1.mono s2) o2 k2)⟩
  · exact k1.elim
end
end M
set_option Elab.async false
set_option linter.all false
set_option maxRecDepth 100000
set_option autoImplicit false
/-! M10: stores by an operator, what loops walk. -/
namespace M
open PySem PySem.Spec PyProof.Rows L2
def rGetL (K : PySem.W.Frag) : V → V → Hp → VK → Prop := fun x y H Q => ∃ p xs i v, x = .ref p ∧ y = .int i ∧ H p = some (.lst xs) ∧ 0 ≤ i ∧ xs[i.toNat]? = some v ∧ Q v H
section
variable {X : Cx}
theorem get_list : PGet X (rGetL X.K) := by
  intro pins s σ H o i ov iv Q I ro ri h
  obtain ⟨p, xs, k, v, rfl, rfl, hp, h0, hx, q⟩ := h
  cases ro
  obtain ⟨t, rfl⟩ := ri
  obtain ⟨its, r, pl, hz⟩ := I.list (.inl (.inl hp))
  obtain ⟨u, hu, ru⟩ := r.get hx
  have hl := r.length
  have hn := line63
  have hlt : k.toNat < xs.length := (List.getElem?_eq_some_iff.mp hx).1
  exact wpAny_getItem_list pl.isList h0 (by omega) (by simpa using hu) ⟨v, H, I, ru, q⟩
end
def ipOp (g : D → D → Option D) (r : TIp) (K : PySem.W.Frag) : Prop := IpD K r g
theorem ipd_add {K : PySem.W.Frag} : IpD K (ipI fun i j => i + j) (fun a b => match a, b with | .int x, .int y => some (.int (x + y)) | _, _ => none) := by
  intro F H x y d e q Q sF hx hy hg k
  cases d <;> cases e <;> try exact bad_none hg
  cases hg
  exact ⟨_, _, hx.int, hy.int, k _ F H (.refl sF) (.int _)⟩
theorem ipd_sub {K : PySem.W.Frag} : IpD K (ipI fun i j => i - j) (fun a b => match a, b with | .int x, .int y => some (.int (x - y)) | _, _ => none) := by
  intro F H x y d e q Q sF hx hy hg k
  cases d <;> cases e <;> try exact bad_none hg
  cases hg
  exact ⟨_, _, hx.int, hy.int, k _ F H (.refl sF) (.int _)⟩
/-- any operator in the place of its own (for what is never changed: numbers, texts, tuples) -/
def gAdd (a b : D) : Option D := match a, b with | .int x, .int y => some (.int (x + y)) | _, _ => none
def gSub' (a b : D) : Option D := match a, b with | .int x, .int y => some (.int (x - y)) | _, _ => none
def augAt (i : Nat) (g : D → D → Option D) (k : A) (y : A) (old : D) (e3 : En) : SR := match (res e3 y).bind fun d => g old d with
  | some z => setAt i z k e3
  | none => .bad
def getAt (i : Nat) (k : A) (e2 : En) : Option D := match res e2 k, e2[i]? with
  | some (.int j), some (.ow _ (.list xs)) => if 0 ≤ j then xs[j.toNat]? else none
  | _, _ => none
def sAugIx (i : Nat) (g : D → D → Option D) (fi fe : Ev A) : En → SR := fun e => if (e[i]?.map isLo) = some true then (fi e).st fun k e1 => match getAt i k e1 with
  | some old => (fe e1).st fun y e2 => augAt i g k y old e2
  | none => .bad else .bad
section
variable {X : Cx} {W : WX} {a ie : Expr} {x : Str} {pos tpos npos : Pos} {fa fi : Ev A}
theorem ds_augIx (i : Nat) {op : Operator} {r : TIp} {g : D → D → Option D} (ho : PIp X op r) (hg : IpD X.K r g) (ha : DX X W a fa) (hi : DX X W ie fi) (hN : X.N[i]? = some x := by rfl) (hv : Vis X.env.scope x := by first | exact Or.inl rfl | exact Or.inr (Or.inl rfl) | exact Or.inr (Or.inr rfl)) (hd : (x == ("__debug__" : Str)) = false := by decide) (hcd : (x == ("__classdict__" : Str)) = false := by decide)
    (has : ∀ ov iv new, augStore ie ov iv new = (do holding [new, ov, iv] (setItem ov iv new); release [new, ov, iv] []; pure .next) := by intros; rfl) :
    DS X W (.AugAssign (.Subscript (.Name x npos) ie tpos) op a pos) (sAugIx i g fi fa) := by
  obtain ⟨t, pt, q⟩ := ha.ex
  obtain ⟨ti, pi, qi⟩ := hi.ex
  refine ⟨_, ps_augS (pe_var hN hv hd hcd) pi get_list pt ho set_list has, fun G en F H σ D R h => ?_⟩
  unfold sAugIx at h
  split at h
  · rename_i hl
    obtain ⟨b, xs, e0⟩ := isLo_at hl
    obtain ⟨p, g1, g2, g3⟩ := R.owV e0
    refine ⟨.ref p, g1, qi G en F H σ _ R (h.of fun k e1 w F1 H1 R1 s1 o1 k1 => ?_)⟩
    cases z : getAt i k e1 with
    | none => rw [z] at k1; exact k1.elim
    | some old =>
      rw [z] at k1
      unfold getAt at z
      split at z
      · rename_i j b' ys y1 y2
        split at z
        · rename_i h0
          obtain ⟨p', w1, w2, ws, w3, w4⟩ := R1.owV y2
          rw [g1] at w1
          cases w1
          obtain ⟨v, v1, v2⟩ := w4.get z
          refine ⟨p, ws, j, v, rfl, (res_ok R1 o1 y1).int, w3, h0, v1, q G e1 F1 H1 σ _ R1 (k1.of fun o e2 u F2 H2 R2 s2 o2 k2 => ?_)⟩
          unfold augAt at k2
          cases y : ((res e2 o).bind fun d => g old d) with
          | none => rw [y] at k2; exact k2.elim
          | some nw =>
            rw [y] at k2
            obtain ⟨d1, c1, c2⟩ := Option.bind_eq_some_iff.mp y
            refine hg F2 H2 v u old d1 nw _ R2.fh (.inl (v2.mono s2)) (res_ok R2 o2 c1) c2 fun nv F3 H3 gr r3 => ?_
            have R3 := R2.grow gr
            exact setAt_ok (W := W) R3 g1 r3 ((o1.mono s2).mono gr.f) (PostS.mono k2 gr.f)
        · cases z
      · cases z
  · exact h.elim
end
/-! ### what loops walk -/
def iL (fa : Ev A) : Ev (List D) := fun e => (eHold fa e).bind fun d e1 => match d with
  | .list ds => .ok ds e1
  | _ => .bad
def iT (fa : Ev A) : Ev (List D) := fun e => (eHold fa e).bind fun d e1 => match d with
  | .tuple ds => .ok ds e1
  | _ => .bad
def iS (fa : Ev A) : Ev (List D) := fun e => (eHold fa e).bind fun d e1 => match d with
  | .list ds => .ok ds e1
  | .tuple ds => .ok ds e1
  | _ => .bad
def rangeD (lo : Int) (n : Nat) : List D := (List.range n).map fun k => .int (lo + (k : Nat))
/-- sealed, that the kernel does not reckon here -/
noncomputable def okRS : {f : Int → Bool // ∀ i, f i = decide (-(2 ^ 62) ≤ i ∧ i < 2 ^ 62)} := Classical.choice ⟨⟨fun i => decide (-(2 ^ 62) ≤ i ∧ i < 2 ^ 62), fun _ => rfl⟩⟩
noncomputable def okR (i : Int) : Bool := okRS.1 i
theorem okR_d (i : Int) : okR i = decide (-(2 ^ 62) ≤ i ∧ i < 2 ^ 62) := okRS.2 i
noncomputable def iR1 (fs : Ev (List A)) : Ev (List D) := fun e => (fs e).bind fun as e1 => match ress e1 as with
  | some [.int n] => if okR n then .ok (rangeD 0 n.toNat) e1 else .bad
  | _ => .bad
noncomputable def iR2 (fs : Ev (List A)) : Ev (List D) := fun e => (fs e).bind fun as e1 => match ress e1 as with
  | some [.int m, .int n] => if okR m && okR n then .ok (rangeD m (n - m).toNat) e1 else .bad
  | _ => .bad
def enumD : Nat → List D → List D
  | _, [] => []
  | k, d :: ds => .tuple [.int k, d] :: enumD (k + 1) ds
def zipD : List D → List D → List D
  | x :: xs, y :: ys => .tuple [x, y] :: zipD xs ys
  | _, _ => []
def iE (fs : Ev (List A)) : Ev (List D) := fun e => (eHolds fs e).bind fun ds e1 => match ds with
  | [.list xs] => .ok (enumD 0 xs) e1
  | _ => .bad
def iZ (fs : Ev (List A)) : Ev (List D) := fun e => (eHolds fs e).bind fun ds e1 => match ds with
  | [.list xs, .list ys] => .ok (zipD xs ys) e1
  | [.tuple xs, .tuple ys] => .ok (zipD xs ys) e1
  | _ => .bad
section
variable {K : PySem.W.Frag} {F : Hp}
theorem itOk_l {a : Addr} {vs : List V} {ds : List D} (h : SqL K F a vs) (r : Reps K F vs ds) : ItOk K (Itl K a) F ds := by
  intro i F1 H1 s1 s2
  have hs : SqL K H1 a vs := (s1.trans s2).seq h
  refine ⟨fun d e => ?_, fun e => ⟨vs, hs, by rw [r.length]; exact List.getElem?_eq_none_iff.mp e⟩⟩
  obtain ⟨v, h1, h2⟩ := r.get e
  refine ⟨⟨vs, v, hs, h1⟩, fun x H2 hy => ?_⟩
  obtain ⟨rfl, hy⟩ := hy
  have ex := hy vs hs
  rw [h1] at ex
  cases ex
  exact ⟨F1, .refl s2, h2.mono s1⟩
theorem itOk_t {a : Addr} {vs : List V} {ds : List D} (h : SqT K F a vs) (r : Reps K F vs ds) : ItOk K (Itt K a) F ds := by
  intro i F1 H1 s1 s2
  have hs : SqT K H1 a vs := SqT.mono (s1.trans s2) h
  refine ⟨fun d e => ?_, fun e => ⟨vs, hs, by rw [r.length]; exact List.getElem?_eq_none_iff.mp e⟩⟩
  obtain ⟨v, h1, h2⟩ := r.get e
  refine ⟨⟨vs, v, hs, h1⟩, fun x H2 hy => ?_⟩
  obtain ⟨rfl, hy⟩ := hy
  have ex := hy vs hs
  rw [h1] at ex
  cases ex
  exact ⟨F1, .refl s2, h2.mono s1⟩
theorem rangeD_get {lo : Int} {n i : Nat} : (rangeD lo n)[i]? = if i < n then some (.int (lo + (i : Nat))) else none := by
  unfold rangeD
  rw [List.getElem?_map]
  by_cases h : i < n
  · rw [if_pos h, List.getElem?_range h]; rfl
  · rw [if_neg h, List.getElem?_eq_none (by rw [List.length_range]; omega)]; rfl
theorem itOk_r {lo : Int} {n : Nat} : ItOk K (Itr lo n) F (rangeD lo n) := by
  intro i F1 H1 s1 s2
  rw [rangeD_get]
  refine ⟨fun d e => ?_, fun e => ?_⟩
  · split at e
    · rename_i h
      cases e
      refine ⟨h, fun x H2 hy => ?_⟩
      obtain ⟨rfl, rfl⟩ := hy
      exact ⟨F1, .refl s2, .int _⟩
    · cases e
  · split at e
    · cases e
    · rename_i h; exact Nat.le_of_not_lt h
theorem enumD_get : ∀ (k : Nat) (ds : List D) (i : Nat), (enumD k ds)[i]? = (ds[i]?).map fun d => .tuple [.int ((k + i : Nat) : Int), d]
  | k, [], i => by simp [enumD]
  | k, d :: ds, 0 => by simp [enumD]
  | k, d :: ds, i + 1 => by
    show (enumD (k + 1) ds)[i]? = _
    rw [enumD_get (k + 1) ds i]
    have : k + 1 + i = k + (i + 1) := by omega
    rw [this]
    rfl
theorem zipD_get : ∀ (xs ys : List D) (i : Nat), (zipD xs ys)[i]? = (xs[i]?).bind fun x => (ys[i]?).bind fun y => some (.tuple [x, y])
  | [], ys, i => by simp [zipD]
  | x :: xs, [], i => by
    show ([] : List D)[i]? = _
    cases h : (x :: xs)[i]? <;> simp
  | x :: xs, y :: ys, 0 => by simp [zipD]
  | x :: xs, y :: ys, i + 1 => by
    show (zipD xs ys)[i]? = _
    rw [zipD_get xs ys i]
    rfl
theorem itOk_e {a : Addr} {vs : List V} {ds : List D} (h : SqL K F a vs) (r : Reps K F vs ds) : ItOk K (Ite K a) F (enumD 0 ds) := by
  intro i F1 H1 s1 s2
  have hs : SqL K H1 a vs := (s1.trans s2).seq h
  rw [enumD_get]
  refine ⟨fun d e => ?_, fun e => ⟨vs, hs, ?_⟩⟩
  · cases q : ds[i]? with
    | none => rw [q] at e; cases e
    | some d0 =>
      rw [q] at e
      cases e
      obtain ⟨v, h1, h2⟩ := r.get q
      refine ⟨⟨vs, v, hs, h1⟩, fun x H2 hy => ?_⟩
      obtain ⟨T, y, rfl, nT, rfl, hy⟩ := hy
      have ex := hy vs hs
      rw [h1] at ex
      cases ex
      have g := Grow.alloc (o := .tup [.int (i : Nat), v]) s2 nT
      refine ⟨_, g, .tup (.inl (.inl upd_same)) (.cons ?_ (.cons (h2.mono (s1.trans g.f)) .nil))⟩
      rw [Nat.zero_add]
      exact .int _
  · cases q : ds[i]? with
    | none => rw [r.length]; exact List.getElem?_eq_none_iff.mp q
    | some d0 => rw [q] at e; cases e
theorem itOk_z {a b : Addr} {vs ws : List V} {ds es : List D} (h : SqL K F a vs) (r : Reps K F vs ds) (h' : SqL K F b ws) (r' : Reps K F ws es) : ItOk K (Itz K a b) F (zipD ds es) := by
  intro i F1 H1 s1 s2
  have hs : SqL K H1 a vs := (s1.trans s2).seq h
  have hs' : SqL K H1 b ws := (s1.trans s2).seq h'
  rw [zipD_get]
  refine ⟨fun d e => ?_, fun e => ⟨vs, ws, hs, hs', ?_⟩⟩
  · obtain ⟨x, q1, e⟩ := Option.bind_eq_some_iff.mp e
    obtain ⟨y, q2, e⟩ := Option.bind_eq_some_iff.mp e
    cases e
    obtain ⟨v, h1, h2⟩ := r.get q1
    obtain ⟨w, h3, h4⟩ := r'.get q2
    refine ⟨⟨vs, ws, v, w, hs, hs', h1, h3⟩, fun x H2 hy => ?_⟩
    obtain ⟨T, y1, y2, rfl, nT, rfl, hy1, hy2⟩ := hy
    have ex := hy1 vs hs
    rw [h1] at ex
    cases ex
    have ey := hy2 ws hs'
    rw [h3] at ey
    cases ey
    have g := Grow.alloc (o := .tup [v, w]) s2 nT
    exact ⟨_, g, .tup (.inl (.inl upd_same)) (.cons (h2.mono (s1.trans g.f)) (.cons (h4.mono (s1.trans g.f)) .nil))⟩
  · rw [r.length, r'.length]
    cases q1 : ds[i]? with
    | none => exact .inl (List.getElem?_eq_none_iff.mp q1)
    | some x =>
      cases q2 : es[i]? with
      | none => exact .inr (List.getElem?_eq_none_iff.mp q2)
      | some y => rw [q1, q2] at e; cases e
theorem itOk_zT {a b : Addr} {vs ws : List V} {ds es : List D} (h : SqT K F a vs) (r : Reps K F vs ds) (h' : SqT K F b ws) (r' : Reps K F ws es) : ItOk K (RZ.ItzT K a b) F (zipD ds es) := by
  intro i F1 H1 s1 s2
  have hs : SqT K H1 a vs := SqT.mono (s1.trans s2) h
  have hs' : SqT K H1 b ws := SqT.mono (s1.trans s2) h'
  rw [zipD_get]
  refine ⟨fun d e => ?_, fun e => ⟨vs, ws, hs, hs', ?_⟩⟩
  · obtain ⟨x, q1, e⟩ := Option.bind_eq_some_iff.mp e
    obtain ⟨y, q2, e⟩ := Option.bind_eq_some_iff.mp e
    cases e
    obtain ⟨v, h1, h2⟩ := r.get q1
    obtain ⟨w, h3, h4⟩ := r'.get q2
    refine ⟨⟨vs, ws, v, w, hs, hs', h1, h3⟩, fun x H2 hy => ?_⟩
    obtain ⟨T, y1, y2, rfl, nT, rfl, hy1, hy2⟩ := hy
    have ex := hy1 vs hs
    rw [h1] at ex
    cases ex
    have ey := hy2 ws hs'
    rw [h3] at ey
    cases ey
    have g := Grow.alloc (o := .tup [v, w]) s2 nT
    exact ⟨_, g, .tup (.inl (.inl upd_same)) (.cons (h2.mono (s1.trans g.f)) (.cons (h4.mono (s1.trans g.f)) .nil))⟩
  · rw [r.length, r'.length]
    cases q1 : ds[i]? with
    | none => exact .inl (List.getElem?_eq_none_iff.mp q1)
    | some x =>
      cases q2 : es[i]? with
      | none => exact .inr (List.getElem?_eq_none_iff.mp q2)
      | some y => rw [q1, q2] at e; cases e
end
section
variable {X : Cx} {W : WX} {tg a b : Expr} {fa fb : Ev A} {fs : Ev (List A)} {p pos tpos : Pos}
theorem holdI_run {f : Ev A} {t : TE} {G : Gd} {en : En} {F H : Hp} {σ : L2.St} {Q : VK} {R' : It → Hp → Prop} {g : D → En → M.R (List D)} (q : ∀ (G : Gd) (en : En) (F H : Hp) (σ : L2.St) (Q : VK), Rel X.K G en F H σ → PE1 X W G F σ (f en) Q → t σ H Q) (R0 : Rel X.K G en F H σ)
    (h : PostE X W G F σ (fun F' ds J => ItOk X.K J F' ds) ((eHold f en).bind g) R') (k : ∀ d e v F' H', Rel X.K G e F' H' σ → Same F F' → Rep X.K F' v d → PostE X W G F' σ (fun F' ds J => ItOk X.K J F' ds) (g d e) R' → Q v H') : t σ H Q :=
  hold_run q R0 (PostE.bind h k)
theorem di_list (ha : DX X W a fa) : DI X W tg a (iL fa) := by
  obtain ⟨t, pt, q⟩ := ha.ex
  refine ⟨_, pi_list pt, fun G en F H σ R' R h => holdI_run q R h fun d e v F1 H1 R1 s1 rp k => ?_⟩
  cases d with
  | list ds =>
    cases rp with
    | lst hs r => exact ⟨_, rfl, ⟨_, R1.fh.seq hs⟩, k _ F1 H1 R1 (.refl _) (itOk_l hs r)⟩
  | _ => exact k.elim
theorem di_tup (ha : DX X W a fa) : DI X W tg a (iT fa) := by
  obtain ⟨t, pt, q⟩ := ha.ex
  refine ⟨_, pi_tup pt, fun G en F H σ R' R h => holdI_run q R h fun d e v F1 H1 R1 s1 rp k => ?_⟩
  cases d with
  | tuple ds =>
    cases rp with
    | tup hs r => exact ⟨_, rfl, ⟨_, SqT.mono R1.fh hs⟩, k _ F1 H1 R1 (.refl _) (itOk_t hs r)⟩
  | _ => exact k.elim
theorem di_r1 (ha : DA X W [a] fs) (hm : X.mg "range" = none) (hg : Gl X "range" := by rfl) (hs : starEach [a] X.env = [(false, eval a X.env)] := by rfl) : DI X W tg (.Call (.Name "range" p) [a] [] pos) (iR1 fs) := by
  obtain ⟨t, pt, q⟩ := ha.ex
  refine ⟨_, pi_range1 hg hm pt hs, fun G en F H σ R' R h => q G en F H σ _ R (PostE.bind h fun as e vs F1 H1 R1 s1 o1 k => ?_)⟩
  cases z : ress e as with
  | none => rw [z] at k; exact k.elim
  | some l =>
    rw [z] at k
    have pr := ress_ok R1 o1 z
    cases l with
    | nil => exact k.elim
    | cons d l =>
      cases l with
      | cons => cases d <;> exact k.elim
      | nil =>
        obtain ⟨v, rfl, hv⟩ := preps1 pr
        cases d with
        | int n =>
          simp only at k
          split at k
          · rename_i hz
            obtain ⟨b1, b2⟩ := of_decide_eq_true ((okR_d _).symm.trans hz)
            cases hv.int
            exact ⟨n, rfl, b1, b2, k _ F1 H1 R1 (.refl _) itOk_r⟩
          · exact k.elim
        | _ => exact k.elim
theorem di_r2 (ha : DA X W [a, b] fs) (hm : X.mg "range" = none) (hg : Gl X "range" := by rfl) (hs : starEach [a, b] X.env = [(false, eval a X.env), (false, eval b X.env)] := by rfl) (hs2 : starEach [b] X.env = [(false, eval b X.env)] := by rfl) : DI X W tg (.Call (.Name "range" p) [a, b] [] pos) (iR2 fs) := by
  obtain ⟨t, pt, q⟩ := ha.ex
  refine ⟨_, pi_range2 hg hm pt hs hs2, fun G en F H σ R' R h => q G en F H σ _ R (PostE.bind h fun as e vs F1 H1 R1 s1 o1 k => ?_)⟩
  unfold iR2 at *
  cases z : ress e as with
  | none => rw [z] at k; exact k.elim
  | some l =>
    rw [z] at k
    have pr := ress_ok R1 o1 z
    have key : ∃ m n, l = [.int m, .int n] ∧ (okR m && okR n) = true := by
      split at k
      · rename_i m n h1
        cases h1
        split at k
        · rename_i hz; exact ⟨m, n, rfl, hz⟩
        · exact k.elim
      · exact k.elim
    obtain ⟨m, n, rfl, hz⟩ := key
    simp only at k
    rw [if_pos hz] at k
    obtain ⟨v, w, rfl, hv, hw⟩ := preps2 pr
    cases hv.int
    cases hw.int
    obtain ⟨z1, z2⟩ := Bool.and_eq_true_iff.mp hz
    obtain ⟨b1, b2⟩ := of_decide_eq_true ((okR_d _).symm.trans z1)
    obtain ⟨b3, b4⟩ := of_decide_eq_true ((okR_d _).symm.trans z2)
    exact ⟨m, n, rfl, ⟨b1, b2, b3, b4⟩, k _ F1 H1 R1 (.refl _) itOk_r⟩
theorem holdsI_run {f : Ev (List A)} {t : TA} {G : Gd} {en : En} {F H : Hp} {σ : L2.St} {Q : List V → Hp → Prop} {R' : It → Hp → Prop} {g : List D → En → M.R (List D)} (q : ∀ (G : Gd) (en : En) (F H : Hp) (σ : L2.St) (Q : List V → Hp → Prop), Rel X.K G en F H σ → PA1 X W G F σ (f en) Q → t σ H Q) (R0 : Rel X.K G en F H σ)
    (h : PostE X W G F σ (fun F' ds J => ItOk X.K J F' ds) ((eHolds f en).bind g) R') (k : ∀ ds e vs F' H', Rel X.K G e F' H' σ → Same F F' → Reps X.K F' vs ds → PostE X W G F' σ (fun F' ds J => ItOk X.K J F' ds) (g ds e) R' → Q vs H') : t σ H Q :=
  holdsE_run q R0 (PostE.bind h k)
theorem di_enum {elts : List Expr} {kk : Nat} (ha : DA X W [a] fs) (hm : X.mg "enumerate" = none) (hg : Gl X "enumerate" := by rfl) (hs : starEach [a] X.env = [(false, eval a X.env)] := by rfl) : DI X W (.Tuple elts kk tpos) (.Call (.Name "enumerate" p) [a] [] pos) (iE fs) := by
  obtain ⟨t, pt, q⟩ := ha.ex
  refine ⟨_, pi_enum hg hm pt hs, fun G en F H σ R' R h => holdsI_run q R h fun ds e vs F1 H1 R1 s1 rp k => ?_⟩
  have key : ∃ xs, ds = [.list xs] := by
    split at k
    · exact ⟨_, rfl⟩
    · exact k.elim
  obtain ⟨xs, rfl⟩ := key
  obtain ⟨v, rfl, rv⟩ := rp.one_of
  cases rv with
  | lst hs r => exact ⟨_, _, rfl, R1.fh.seq hs, k _ F1 H1 R1 (.refl _) (itOk_e hs r)⟩
theorem di_zip {elts : List Expr} {kk : Nat} (ha : DA X W [a, b] fs) (hm : X.mg "zip" = none) (hg : Gl X "zip" := by rfl) (hs : starEach [a, b] X.env = (false, eval a X.env) :: starEach [b] X.env := by rfl) (hpl : (backTo pos (starEach [b] X.env)).any (·.1) = false := by rfl) : DI X W (.Tuple elts kk tpos) (.Call (.Name "zip" p) [a, b] [] pos) (iZ fs) := by
  obtain ⟨t, pt, q⟩ := ha.ex
  refine ⟨_, RZ.pi_zipA hg hm pt hs hpl, fun G en F H σ R' R h => holdsI_run q R h fun ds e vs F1 H1 R1 s1 rp k => ?_⟩
  split at k
  · rename_i xs ys
    cases rp with
    | cons r1 rp =>
      obtain ⟨w, rfl, r2⟩ := rp.one_of
      cases r1 with
      | lst h1 q1 =>
        cases r2 with
        | lst h2 q2 => exact ⟨_, _, _, _, rfl, .inl ⟨R1.fh.seq h1, R1.fh.seq h2, k _ F1 H1 R1 (.refl _) (itOk_z h1 q1 h2 q2)⟩⟩
  · rename_i xs ys
    cases rp with
    | cons r1 rp =>
      obtain ⟨w, rfl, r2⟩ := rp.one_of
      cases r1 with
      | tup h1 q1 =>
        cases r2 with
        | tup h2 q2 => exact ⟨_, _, _, _, rfl, .inr ⟨SqT.mono R1.fh h1, SqT.mono R1.fh h2, k _ F1 H1 R1 (.refl _) (itOk_zT h1 q1 h2 q2)⟩⟩
  · exact k.elim
end
end M
set_option Elab.async false
set_option linter.all false
set_option maxRecDepth 100000
set_option autoImplicit false
/-! M11: one rule for several kinds of data. -/
namespace M
open PySem PySem.Spec PyProof.Rows L2
section
variable {K : PySem.W.Frag}
theorem OpD.or {r r' : R2} {g g' : D → D → Option D} (h : OpD K r g) (h' : OpD K r' g') : OpD K (fun x y H Q => r x y H Q ∨ r' x y H Q) (fun d e => (g d e).orElse fun _ => g' d e) := by
  intro F H x y d e q Q sF hx hy hg k
  dsimp only at hg
  cases z : g d e with
  | none => rw [z] at hg; exact .inr (h' F H x y d e q Q sF hx hy hg k)
  | some w => rw [z] at hg; cases hg; exact .inl (h F H x y d e _ Q sF hx hy z k)
theorem OpF.d {r : R2} {g : D → D → Option D} (h : OpF K r g) : OpD K r g := by
  intro F H x y d e q Q sF hx hy hg k
  obtain ⟨o, h1, h2⟩ := h F H x y d e q Q sF hx hy hg
  refine h2 fun p np => ?_
  have g := Grow.alloc (o := o) sF np
  exact k (.ref p) _ _ g ((h1 p (upd H p o) upd_same).rep g.f (upd_same.trans upd_same.symm))
end
def dAddU (d e : D) : Option D := match d, e with
  | .int a, .int b => some (.int (a + b))
  | .str a, .str b => if small (a.length + b.length) then some (.str (a ++ b)) else none
  | .tuple a, .tuple b => if small (a.length + b.length) then some (.tuple (a ++ b)) else none
  | .list a, .list b => if small (a.length + b.length) then some (.list (a ++ b)) else none
  | _, _ => none
theorem dAddU_eq (d e : D) : dAddU d e = (dAdd d e).orElse fun _ => dCat d e := by
  cases d <;> cases e <;> first | rfl | (simp only [dAddU, dAdd, dCat]; split <;> rfl)
def dMulU (d e : D) : Option D := match d, e with
  | .int a, .int b => if decide (a.natAbs.log2 + b.natAbs.log2 < 1000000) then some (.int (a * b)) else none
  | .list a, .int k => if decide (-(2 ^ 63) ≤ k ∧ k < 2 ^ 63) && small (a.length * k.toNat) then some (.list (List.replicate k.toNat a).flatten) else none
  | _, _ => none
theorem dMulU_eq (d e : D) : dMulU d e = (dMul d e).orElse fun _ => dRep d e := by
  cases d <;> cases e <;> first | rfl | (simp only [dMulU, dMul, dRep]; split <;> rfl)
section
variable {X : Cx} {K : PySem.W.Frag}
abbrev rAddU (K : PySem.W.Frag) : R2 := fun x y H Q => (rI0 (fun i j => .int (i + j)) x y H Q ∨ ((∃ i j, x = .str i ∧ y = .str j ∧ i.length + j.length ≤ sizeLine ∧ Q (.str (i ++ j)) H) ∨ rCatA K x y H Q)) ∨ rCatS K x y H Q
theorem op_addU : OpR X (binaryOp .Add) (rAddU X.K) := (op_add.or (op_add_str.or op_catA)).or op_catS
theorem opd_addU : OpD K (rAddU K) dAddU := by
  have h := (opd_add (K := K)).or opf_cat.d
  intro F H x y d e q Q sF hx hy hg k
  exact h F H x y d e q Q sF hx hy ((dAddU_eq d e).symm.trans hg) k
abbrev rMulU (K : PySem.W.Frag) : R2 := fun x y H Q => rI CMulW (fun i j => .int (i * j)) x y H Q ∨ rRepS K x y H Q
theorem op_mulU : OpR X (binaryOp .Mult) (rMulU X.K) := op_mulW.or op_repS
theorem opd_mulU : OpD K (rMulU K) dMulU := by
  have h := (opd_mul (K := K)).or opf_rep.d
  intro F H x y d e q Q sF hx hy hg k
  exact h F H x y d e q Q sF hx hy ((dMulU_eq d e).symm.trans hg) k
end
/-! ### short names -/
section
variable {X : Cx} {W : WX} {a b : Expr} {pos : Pos} {fa fb : Ev A}
def eAdd := eBin dAddU
def eSub := eBin dSub
def eMul := eBin dMulU
def eFdiv := eBin dFdiv
def eMod := eBin dMod
def ePow := eBin dPow
def eLt := eBin dLt
def eLe := eBin dLe
def eGt := eBin dGt
def eGe := eBin dGe
def eEq := eBin dEq
def eNe := eBin dNe
def eIsN := eBin dIsN
def eNotN := eBin dNotN
def eIx := eBin dIx
theorem dx_add (ha : DX X W a fa) (hb : DX X W b fb) : DX X W (.BinOp a .Add b pos) (eAdd fa fb) := dx_op op_addU opd_addU ha hb
theorem dx_sub (ha : DX X W a fa) (hb : DX X W b fb) : DX X W (.BinOp a .Sub b pos) (eSub fa fb) := dx_op op_sub opd_sub ha hb
theorem dx_mul (ha : DX X W a fa) (hb : DX X W b fb) : DX X W (.BinOp a .Mult b pos) (eMul fa fb) := dx_op op_mulU opd_mulU ha hb
theorem dx_fdiv (ha : DX X W a fa) (hb : DX X W b fb) : DX X W (.BinOp a .FloorDiv b pos) (eFdiv fa fb) := dx_op op_fdivW opd_fdiv ha hb
theorem dx_mod (ha : DX X W a fa) (hb : DX X W b fb) : DX X W (.BinOp a .Mod b pos) (eMod fa fb) := dx_op op_mod opd_mod ha hb
theorem dx_pow (ha : DX X W a fa) (hb : DX X W b fb) : DX X W (.BinOp a .Pow b pos) (ePow fa fb) := dx_op op_powW opd_pow ha hb
theorem dx_neg (ha : DX X W a fa) : DX X W (.UnaryOp .USub a pos) (eUn dNeg fa) := dx_un un_neg und_neg ha
theorem dx_lt (ha : DX X W a fa) (hb : DX X W b fb) : DX X W (.Compare a [.Lt] [b] pos) (eLt fa fb) := dx_cmp op_lt opd_lt ha hb (nomark _)
theorem dx_le (ha : DX X W a fa) (hb : DX X W b fb) : DX X W (.Compare a [.LtE] [b] pos) (eLe fa fb) := dx_cmp op_le opd_le ha hb (nomark _)
theorem dx_gt (ha : DX X W a fa) (hb : DX X W b fb) : DX X W (.Compare a [.Gt] [b] pos) (eGt fa fb) := dx_cmp op_gt opd_gt ha hb (nomark _)
theorem dx_ge (ha : DX X W a fa) (hb : DX X W b fb) : DX X W (.Compare a [.GtE] [b] pos) (eGe fa fb) := dx_cmp op_ge opd_ge ha hb (nomark _)
theorem dx_isN (ha : DX X W a fa) (hb : DX X W b fb) : DX X W (.Compare a [.Is] [b] pos) (eIsN fa fb) := dx_cmp op_isN opd_isN ha hb (nomark _)
theorem dx_notN (ha : DX X W a fa) (hb : DX X W b fb) : DX X W (.Compare a [.IsNot] [b] pos) (eNotN fa fb) := dx_cmp op_notN opd_notN ha hb (nomark _)
theorem dx_eq (hu : X.A.units + 64 < cLine) (ha : DX X W a fa) (hb : DX X W b fb) : DX X W (.Compare a [.Eq] [b] pos) (eEq fa fb) := dx_cmp ((op_eqD hu).or op_eq) opd_eq ha hb (nomark _)
theorem dx_ne (hu : X.A.units + 64 < cLine) (ha : DX X W a fa) (hb : DX X W b fb) : DX X W (.Compare a [.NotEq] [b] pos) (eNe fa fb) := dx_cmp ((op_neD hu).or op_ne) opd_ne ha hb (nomark _)
theorem dx_item (ha : DX X W a fa) (hb : DX X W b fb) (hs : PlainIx b := by exact fun _ _ => rfl) : DX X W (.Subscript a b pos) (eIx fa fb) := dx_ix ix_seq opd_ix ha hb hs
theorem hbD {g : D → D → Option D} (h : ∀ x y, ∀ q, g x y = some q → ∃ k, q = .bool k) : ∀ x y q, g x y = some q → ∃ k, q = .bool k := h
theorem hb_i {g : Int → Int → Bool} {f : D → D → Option D} (h : ∀ x y, f x y = match x, y with | .int a, .int b => some (.bool (g a b)) | _, _ => none) : ∀ x y q, f x y = some q → ∃ k, q = .bool k := by
  intro x y q e
  rw [h] at e
  split at e
  · cases e; exact ⟨_, rfl⟩
  · cases e
theorem dt_lt (ha : DX X W a fa) (hb : DX X W b fb) : DT X W (.Compare a [.Lt] [b] pos) (tOf (eLt fa fb)) := dt_cmp op_lt opd_lt ha hb (nomark _) (hb_i (g := fun a b => decide (a < b)) fun x y => rfl)
theorem dt_le (ha : DX X W a fa) (hb : DX X W b fb) : DT X W (.Compare a [.LtE] [b] pos) (tOf (eLe fa fb)) := dt_cmp op_le opd_le ha hb (nomark _) (hb_i (g := fun a b => decide (a ≤ b)) fun x y => rfl)
theorem dt_gt (ha : DX X W a fa) (hb : DX X W b fb) : DT X W (.Compare a [.Gt] [b] pos) (tOf (eGt fa fb)) := dt_cmp op_gt opd_gt ha hb (nomark _) (hb_i (g := fun a b => decide (b < a)) fun x y => rfl)
theorem dt_ge (ha : DX X W a fa) (hb : DX X W b fb) : DT X W (.Compare a [.GtE] [b] pos) (tOf (eGe fa fb)) := dt_cmp op_ge opd_ge ha hb (nomark _) (hb_i (g := fun a b => decide (b ≤ a)) fun x y => rfl)
theorem hb_isN : ∀ x y q, dIsN x y = some q → ∃ k, q = .bool k := by
  intro x y q e
  cases y <;> first | (cases e; exact ⟨_, rfl⟩) | cases e
theorem hb_notN : ∀ x y q, dNotN x y = some q → ∃ k, q = .bool k := by
  intro x y q e
  cases y <;> first | (cases e; exact ⟨_, rfl⟩) | cases e
theorem hb_eq : ∀ x y q, dEq x y = some q → ∃ k, q = .bool k := by
  intro x y q e
  unfold dEq at e
  split at e
  · cases e; exact ⟨_, rfl⟩
  · unfold dEqN at e
    split at e
    · cases e; exact ⟨_, rfl⟩
    · cases e
theorem hb_ne : ∀ x y q, dNe x y = some q → ∃ k, q = .bool k := by
  intro x y q e
  unfold dNe at e
  split at e
  · cases e; exact ⟨_, rfl⟩
  · unfold dNeN at e
    split at e
    · cases e; exact ⟨_, rfl⟩
    · cases e
theorem dt_isN (ha : DX X W a fa) (hb : DX X W b fb) : DT X W (.Compare a [.Is] [b] pos) (tOf (eIsN fa fb)) := dt_cmp op_isN opd_isN ha hb (nomark _) hb_isN
theorem dt_notN (ha : DX X W a fa) (hb : DX X W b fb) : DT X W (.Compare a [.IsNot] [b] pos) (tOf (eNotN fa fb)) := dt_cmp op_notN opd_notN ha hb (nomark _) hb_notN
theorem dt_eq (hu : X.A.units + 64 < cLine) (ha : DX X W a fa) (hb : DX X W b fb) : DT X W (.Compare a [.Eq] [b] pos) (tOf (eEq fa fb)) := dt_cmp ((op_eqD hu).or op_eq) opd_eq ha hb (nomark _) hb_eq
theorem dt_ne (hu : X.A.units + 64 < cLine) (ha : DX X W a fa) (hb : DX X W b fb) : DT X W (.Compare a [.NotEq] [b] pos) (tOf (eNe fa fb)) := dt_cmp ((op_neD hu).or op_ne) opd_ne ha hb (nomark _) hb_ne
/-! built-in functions by name -/
variable {fs : Ev (List A)} {p : Pos} {es : List Expr}
theorem dx_len (ha : DX X W a fa) (hm : X.mg "len" = none) (hg : Gl X "len" := by rfl) (he : starEach [a] X.env = (false, eval a X.env) :: starEach [] X.env := by rfl) (hpl : (backTo pos (starEach [] X.env)).any (·.1) = false := by rfl) : DX X W (.Call (.Name "len" p) [a] [] pos) (eFn (f1 dLen) (eCons fa eNil)) :=
  dx_fnB call_len fnd_len hg hm PySem.boot_len (da_cons ha da_nil he) (by decide) (by decide) he hpl
theorem dx_abs (ha : DX X W a fa) (hm : X.mg "abs" = none) (hg : Gl X "abs" := by rfl) (he : starEach [a] X.env = (false, eval a X.env) :: starEach [] X.env := by rfl) (hpl : (backTo pos (starEach [] X.env)).any (·.1) = false := by rfl) : DX X W (.Call (.Name "abs" p) [a] [] pos) (eFn (f1 dAbs) (eCons fa eNil)) :=
  dx_fnB call_abs fnd_abs hg hm (by decide +kernel) (da_cons ha da_nil he) (by decide) (by decide) he hpl
theorem dx_max2 (hc : X.calm = true) (ha : DX X W a fa) (hb : DX X W b fb) (hm : X.mg "max" = none) (hg : Gl X "max" := by rfl) (he : starEach [a, b] X.env = (false, eval a X.env) :: starEach [b] X.env := by rfl) (he2 : starEach [b] X.env = (false, eval b X.env) :: starEach [] X.env := by rfl) (hpl : (backTo pos (starEach [b] X.env)).any (·.1) = false := by rfl) : DX X W (.Call (.Name "max" p) [a, b] [] pos) (eFn (f2 dMax2) (eCons fa (eCons fb eNil))) :=
  dx_fnB (call_max2 hc) fnd_max2 hg hm (by decide +kernel) (da_cons ha (da_cons hb da_nil he2) he) (by decide) (by decide) he hpl
theorem dx_min2 (hc : X.calm = true) (ha : DX X W a fa) (hb : DX X W b fb) (hm : X.mg "min" = none) (hg : Gl X "min" := by rfl) (he : starEach [a, b] X.env = (false, eval a X.env) :: starEach [b] X.env := by rfl) (he2 : starEach [b] X.env = (false, eval b X.env) :: starEach [] X.env := by rfl) (hpl : (backTo pos (starEach [b] X.env)).any (·.1) = false := by rfl) : DX X W (.Call (.Name "min" p) [a, b] [] pos) (eFn (f2 dMin2) (eCons fa (eCons fb eNil))) :=
  dx_fnB (call_min2 hc) fnd_min2 hg hm (by decide +kernel) (da_cons ha (da_cons hb da_nil he2) he) (by decide) (by decide) he hpl
theorem dx_int1 (ha : DX X W a fa) (hm : X.mg "int" = none) (hg : Gl X "int" := by rfl) (he : starEach [a] X.env = (false, eval a X.env) :: starEach [] X.env := by rfl) (hpl : (backTo pos (starEach [] X.env)).any (·.1) = false := by rfl) : DX X W (.Call (.Name "int" p) [a] [] pos) (eFn (f1 dInt) (eCons fa eNil)) :=
  dx_fnT call_int1 fnd_int hg hm (by decide +kernel) (da_cons ha da_nil he) (by decide) (by decide) he hpl
theorem dx_tuple (ha : DX X W a fa) (hm : X.mg "tuple" = none) (hg : Gl X "tuple" := by rfl) (he : starEach [a] X.env = (false, eval a X.env) :: starEach [] X.env := by rfl) (hpl : (backTo pos (starEach [] X.env)).any (·.1) = false := by rfl) : DX X W (.Call (.Name "tuple" p) [a] [] pos) (eFn (f1 dTuple) (eCons fa eNil)) :=
  dx_fnT call_tuple_of fnd_tuple hg hm (by decide +kernel) (da_cons ha da_nil he) (by decide) (by decide) he hpl
theorem dx_all (hc : X.calm = true) (ha : DX X W a fa) (hm : X.mg "all" = none) (hg : Gl X "all" := by rfl) (he : starEach [a] X.env = (false, eval a X.env) :: starEach [] X.env := by rfl) (hpl : (backTo pos (starEach [] X.env)).any (·.1) = false := by rfl) : DX X W (.Call (.Name "all" p) [a] [] pos) (eFn (f1 dAll) (eCons fa eNil)) :=
  dx_fnB (cr_all hc) fnd_all hg hm (by decide +kernel) (da_cons ha da_nil he) (by decide) (by decide) he hpl
theorem dx_any (hc : X.calm = true) (ha : DX X W a fa) (hm : X.mg "any" = none) (hg : Gl X "any" := by rfl) (he : starEach [a] X.env = (false, eval a X.env) :: starEach [] X.env := by rfl) (hpl : (backTo pos (starEach [] X.env)).any (·.1) = false := by rfl) : DX X W (.Call (.Name "any" p) [a] [] pos) (eFn (f1 dAny) (eCons fa eNil)) :=
  dx_fnB (cr_any hc) fnd_any hg hm (by decide +kernel) (da_cons ha da_nil he) (by decide) (by decide) he hpl
theorem dx_sum (hc : X.calm = true) (ha : DX X W a fa) (hm : X.mg "sum" = none) (hg : Gl X "sum" := by rfl) (he : starEach [a] X.env = (false, eval a X.env) :: starEach [] X.env := by rfl) (hpl : (backTo pos (starEach [] X.env)).any (·.1) = false := by rfl) : DX X W (.Call (.Name "sum" p) [a] [] pos) (eFn (f1 dSum) (eCons fa eNil)) :=
  dx_fnB (cr_sum hc) fnd_sum hg hm (by decide +kernel) (da_cons ha da_nil he) (by decide) (by decide) he hpl
theorem dx_repr (gd : X.A.guards = some []) (hu : X.A.units + 64 < cLine) (ha : DX X W a fa) (hm : X.mg "repr" = none) (hg : Gl X "repr" := by rfl) (he : starEach [a] X.env = (false, eval a X.env) :: starEach [] X.env := by rfl) (hpl : (backTo pos (starEach [] X.env)).any (·.1) = false := by rfl) : DX X W (.Call (.Name "repr" p) [a] [] pos) (eFn (f1 dRepr) (eCons fa eNil)) :=
  dx_fnB (call_repr gd hu) fnd_repr hg hm (by decide +kernel) (da_cons ha da_nil he) (by decide) (by decide) he hpl
theorem do_list (ha : DX X W a fa) (hm : X.mg "list" = none) (hg : Gl X "list" := by rfl) (he : starEach [a] X.env = (false, eval a X.env) :: starEach [] X.env := by rfl) (hpl : (backTo pos (starEach [] X.env)).any (·.1) = false := by rfl) : DO X W (.Call (.Name "list" p) [a] [] pos) (oFn (f1 dList) (eCons fa eNil)) :=
  do_fnT call_list_of fnf_list hg hm (by decide +kernel) (da_cons ha da_nil he) (by decide) (by decide) he hpl
theorem do_cat (ha : DX X W a fa) (hb : DX X W b fb) : DO X W (.BinOp a .Add b pos) (oBin dCat fa fb) := do_op op_catS opf_cat ha hb
theorem do_rep (ha : DX X W a fa) (hb : DX X W b fb) : DO X W (.BinOp a .Mult b pos) (oBin dRep fa fb) := do_op op_repS opf_rep ha hb
/-- a list or a tuple walked -/
theorem pi_or2 {tg l : Expr} {w1 w2 : TI} (h1 : PI X tg l w1) (h2 : PI X tg l w2) : PI X tg l (fun σ H R => w1 σ H R ∨ w2 σ H R) :=
  ⟨fun pins s σ H R I h => h.elim (h1.run pins s σ H R I) (h2.run pins s σ H R I)⟩
theorem di_seq {tg : Expr} (ha : DX X W a fa) : DI X W tg a (iS fa) := by
  obtain ⟨w1, p1, q1⟩ := (di_list (tg := tg) ha).ex
  obtain ⟨w2, p2, q2⟩ := (di_tup (tg := tg) ha).ex
  refine ⟨_, pi_or2 p1 p2, fun G en F H σ R' R h => ?_⟩
  unfold iS at h
  cases z : eHold fa en with
  | bad => rw [z] at h; exact h.elim
  | ex x e => rw [z] at h; exact .inl (q1 G en F H σ R' R (by unfold iL; rw [z]; exact h))
  | ok d e =>
    rw [z] at h
    cases d with
    | list ds => exact .inl (q1 G en F H σ R' R (by unfold iL; rw [z]; exact h))
    | tuple ds => exact .inr (q2 G en F H σ R' R (by unfold iT; rw [z]; exact h))
    | _ => exact h.elim
end
end M
set_option Elab.async false
set_option linter.all false
set_option maxRecDepth 100000
set_option autoImplicit false
/-! M12: defs by their names; the end of a law. -/
namespace M
open PySem PySem.Spec PyProof.Rows L2
section
variable {P : Program} {w : World} {K : PySem.W.Frag} {mg : Str → Option Value} {bs : Heap}
/-- a def of the text by its name -/
structure FunAt (K : PySem.W.Frag) (mg : Str → Option Value) (x qual : Str) (st : Stmt) (ps : List Str) : Prop where
  ex : ∃ f fd, Fun K x qual st f fd ∧ mg x = some (.ref f) ∧ Binds K fd ps []
/-- a def that says what its meaning says -/
structure CallOk (P : Program) (w : World) (K : PySem.W.Frag) (mg : Str → Option Value) (bs : Heap) (k : Nat) (x : Str) (ps : List Str) (Fd : List Sl → Rt) : Prop where
  ex : ∃ f fd, FnG P w K mg bs CX0 k f fd ps (spD K mg ps.length Fd) ∧ mg x = some (.ref f) ∧ PySem.W.keepIn K (.ref f) = true ∧ Binds K fd ps []
theorem CallOk.mono {j k : Nat} {x : Str} {ps : List Str} {Fd : List Sl → Rt} (c : CallOk P w K mg bs j x ps Fd) (h : j ≤ k) : CallOk P w K mg bs k x ps Fd := by
  obtain ⟨f, fd, h1, h2, h3, h4⟩ := c.ex
  exact ⟨f, fd, h1.mono h, h2, h3, h4⟩
theorem fun_ok {x qual : Str} {st : Stmt} {N ps : List Str} {k : Nat} {body : En → SR} (F : FunAt K mg x qual st ps) (S : FnScope N ps (defScope st)) (hps : ps.length ≤ N.length)
    (hbody : ∀ (f : Addr) (cdv : Value) (A : Around) (out : List PySem.Env) (s : Shared) (H : Hp) (E : XK), Room k (A.deeper (envOfC qual (defScope st) s.heap.objs.size f cdv)) → (A.deeper (envOfC qual (defScope st) s.heap.objs.size f cdv)).guards = some [] →
      DSs (cxOf CX0 P w K mg bs N qual (defScope st) f cdv A out s H E).nox WX0 (defBody st) body) : CallOk P w K mg bs (k + 1) x ps (run0 N.length body) := by
  obtain ⟨f, fd, h1, h2, h3⟩ := F.ex
  exact ⟨f, fd, def_ok h1 S hps (fun cdv A out s H E hr gd => hbody f cdv A out s H E hr gd), h2, h1.kp, h3⟩
def badF : List Sl → Rt := fun _ => .bad
theorem fun_bad {x qual : Str} {st : Stmt} {ps : List Str} {k : Nat} (F : FunAt K mg x qual st ps) : CallOk P w K mg bs k x ps badF := by
  obtain ⟨f, fd, h1, h2, h3⟩ := F.ex
  refine ⟨f, fd, ⟨fun us H Q E h => h.1, fun A out s H ar us vs Q E _ _ _ _ _ h => ?_⟩, h2, h1.kp, h3⟩
  obtain ⟨_, F', as, As, _, _, z⟩ := h
  exact z.elim
theorem bad_keeps : Keeps badF := fun ss => ⟨fun o d as' h => (nomatch h), fun x as' h => (nomatch h)⟩
theorem bad_nox : NoX badF := fun ss y as' h => nomatch h
end
section
variable {X : Cx} {W : WX} {k : Nat} {ps : List Str} {x : Str} {p pos : Pos} {a : Expr} {es : List Expr} {fs : Ev (List A)} {Fd : List Sl → Rt}
theorem dx_callC (C : CallOk X.prog X.w X.K X.mg X.base k x ps Fd) (kp : Keeps Fd) (nx : NoX Fd) (hr : Room k X.A) (gd : X.A.guards = some []) (ha : DA X W (a :: es) fs) (hn : ∀ en as e1, fs en = .ok as e1 → as.length = ps.length) (hg : Gl X x := by rfl) (hdb : (x == ("__debug__" : Str)) = false := by decide)
    (he : starEach (a :: es) X.env = (false, eval a X.env) :: starEach es X.env := by rfl) (hpl : (backTo pos (starEach es X.env)).any (·.1) = false := by rfl) : DX X W (.Call (.Name x p) (a :: es) [] pos) (eCall Fd fs) := by
  obtain ⟨f, fd, h1, h2, h3, h4⟩ := C.ex
  exact dx_call h1 kp nx hr gd h2 h3 h4 ha hn hg hdb he hpl
theorem do_callC (C : CallOk X.prog X.w X.K X.mg X.base k x ps Fd) (kp : Keeps Fd) (nx : NoX Fd) (hr : Room k X.A) (gd : X.A.guards = some []) (ha : DA X W (a :: es) fs) (hn : ∀ en as e1, fs en = .ok as e1 → as.length = ps.length) (hg : Gl X x := by rfl) (hdb : (x == ("__debug__" : Str)) = false := by decide)
    (he : starEach (a :: es) X.env = (false, eval a X.env) :: starEach es X.env := by rfl) (hpl : (backTo pos (starEach es X.env)).any (·.1) = false := by rfl) : DO X W (.Call (.Name x p) (a :: es) [] pos) (oCall Fd fs) := by
  obtain ⟨f, fd, h1, h2, h3, h4⟩ := C.ex
  exact do_call h1 kp nx hr gd h2 h3 h4 ha hn hg hdb he hpl
end
theorem alen0 : ∀ en as e1, eNil en = .ok as e1 → as.length = 0 := fun _ _ _ h => alen_nil h
/-- slices of lists and tuples -/
def eSl (fa : Ev A) (lo hi : Po) : Ev A := fun e => (fa e).bind fun a e1 => (ePart lo e1).bind fun l e2 => (ePart hi e2).bind fun h e3 => match res e3 a with
  | some (.tuple xs) => .ok (.sh (.tuple (cutD xs l h))) e3
  | some (.list xs) => .ok (.sh (.list (cutD xs l h))) e3
  | _ => .bad
theorem dx_sl {X : Cx} {W : WX} {a : Expr} {pos p2 : Pos} {fa : Ev A} {lo hi : Option Expr} {pl ph : Po} (ha : DX X W a fa) (hl : DP X W lo pl) (hh : DP X W hi ph) : DX X W (.Subscript a (.Slice lo hi none p2) pos) (eSl fa pl ph) := by
  obtain ⟨ta, pa, qa⟩ := ha.ex
  obtain ⟨tl, p1, q1⟩ := hl.ex
  obtain ⟨th, p2, q2⟩ := hh.ex
  refine ⟨_, pe_slice (SlR.or sl_tupA sl_list) pa p1 p2, fun G en F H σ Q R q => qa G en F H σ _ R (q.bind fun x e1 v F1 H1 R1 s1 o1 k1 => q1 G e1 F1 H1 σ _ R1 (k1.bind fun l e2 l' F2 H2 R2 s2 ol k2 => q2 G e2 F2 H2 σ _ R2 (k2.bind fun h e3 h' F3 H3 R3 s3 oh k3 => ?_)))⟩
  subst ol oh
  have o3 : AOk X.K F3 σ x v := (o1.mono s2).mono s3
  cases z : res e3 x with
  | none => rw [z] at k3; exact k3.elim
  | some d =>
    rw [z] at k3
    cases d with
    | tuple xs =>
      obtain ⟨p, vs, rfl, hs, r⟩ := (res_ok R3 o3 z).tup R3.fh
      have len := r.length
      refine .inl ⟨p, vs, rfl, hs, fun hw => ?_, fun _ p np => ?_⟩
      · rw [len] at hw
        have e : cutD xs l h = xs := cut_whole hw
        dsimp only at k3
        rw [e] at k3
        have rp : Rep X.K F3 (.ref p) (.tuple xs) := by
          rcases res_ok R3 o3 z with q | ⟨_, _, q⟩
          · exact q
          · exact q.elim
        exact k3 (.ref p) F3 H3 R3 (.refl _) rp
      · have g := Grow.alloc (o := .tup (cutV vs l h)) R3.fh np
        exact k3 (.ref p) _ _ (R3.grow g) g.f (.tup (.inl (.inl upd_same)) ((r.cut l h).mono g.f))
    | list xs =>
      obtain ⟨p, vs, rfl, hs, r⟩ := (res_ok R3 o3 z).list R3.fh
      refine .inr ⟨p, vs, rfl, hs, fun p np => ?_⟩
      have g := Grow.alloc (o := .lst (cutV vs l h)) R3.fh np
      exact k3 (.ref p) _ _ (R3.grow g) g.f (.lst (.inl (.inl upd_same)) ((r.cut l h).mono g.f))
    | _ => exact k3.elim
theorem ipd_addG {K : PySem.W.Frag} : IpD K (ipI fun i j => i + j) gAdd := ipd_add
theorem ipd_subG {K : PySem.W.Frag} : IpD K (ipI fun i j => i - j) gSub' := ipd_sub
/-- the script as data -/
def scriptD (ns : List Int) : D := .list (ns.map .int)
theorem reps_ints {K : PySem.W.Frag} {F : Hp} : ∀ ns : List Int, Reps K F (ns.map V.int) (ns.map PyData.int)
  | [] => .nil
  | n :: ns => .cons (.int n) (reps_ints ns)
/-- THE END: the law's meaning is True at every script -/
theorem law_end {l : PySem.W.OpenLaw} {n k : Nat} {q : Program} {loose : List Str} {XP : (Str → Option Value) → Heap → Prop} {YP : World → Heap → Prop} {d : DefRec} {Kf : Params → PySem.W.Frag} {x : Str} {Fd : List Sl → Rt}
    (h1 : l.most = some n) (h2 : n ≤ sizeLine) (h3 : d.params.defaults = []) (h4 : Room k callerA) (h5 : ∀ (w : World) (h : Heap), YP w h → (Kf w.params).In h)
    (F : ∀ (w : World) (mg : Str → Option Value) (fa : Addr) (h : Heap), (Kf w.params).In h → h.Ns mainGlobals mg → mg d.name = some (.ref fa) →
      ∃ fd : FuncData, (∀ (s : Shared) (u : Value), BindsTo s fd ⟨[u], []⟩ [(x, u)]) ∧ ∀ bs : Heap, (Kf w.params).In bs → bs.Ns mainGlobals mg → FnG l.prog w (Kf w.params) mg bs CX0 k fa fd [x] (spD (Kf w.params) mg 1 Fd))
    (hp : ∀ ns : List Int, ns.length ≤ n → ∃ as', Fd [.sh (scriptD ns)] = .ret false (.bool true) as') :
    PySem.W.WalkO q loose XP YP l.row.toRowW d [] (fun f us => PySem.call f us) := by
  refine walk_ofG (sp := fun w mg => spD (Kf w.params) mg 1 Fd) h1 h2 h3 h4 h5 F fun w mg H a ns hl hO hS => ?_
  obtain ⟨as', hq⟩ := hp ns hl
  refine ⟨rfl, H, [.sh (scriptD ns)], [], rfl, ?_, ?_⟩
  · refine ⟨rfl, fun i s e => ?_, fun i j b c d e p z => ?_, fun i b d p z => ?_, .refl _, .refl _, fun a o e => .inl e, fun a o e _ => e, fun a z => ?_, fun i d z => rfl⟩
    · cases i with
      | zero => cases e; exact ⟨.ref a, rfl, .lst hS (reps_ints ns)⟩
      | succ i => simp at e
    · cases i <;> simp at z
    · cases i <;> simp at z
    · simp at z
  · rw [hq]
    intro v F' H' R' s' ro
    unfold RtOk at ro
    rw [if_neg Bool.false_ne_true] at ro
    cases ro
    rfl
end M
set_option Elab.async false
set_option linter.all false
set_option maxRecDepth 100000
set_option autoImplicit false
/-! M13: what is one's own, lent to be read while an expression runs that tells a number, a truth or a text. -/
namespace M
open PySem PySem.Spec PyProof.Rows L2
def flatD : D → Bool
  | .none => true
  | .bool _ => true
  | .int _ => true
  | .str _ => true
  | _ => false
def flatO : D → Bool
  | .list xs => xs.all flatD
  | _ => false
def okSl (s : Sl) : Sl → Prop
  | .sh d => s = .sh d
  | .ow _ d => flatO d = true
  | .un => True
def okE : Nat → En → En → Prop
  | _, [], [] => True
  | 0, _ :: e, _ :: e2 => okEA e e2
  | i + 1, s :: e, s2 :: e2 => okSl s s2 ∧ okE i e e2
  | _, _, _ => False
where okEA : En → En → Prop
  | [], [] => True
  | s :: e, s2 :: e2 => okSl s s2 ∧ okEA e e2
  | _, _ => False
theorem okEA_at : ∀ {e e2 : En} {j : Nat} {s2 : Sl}, okE.okEA e e2 → e2[j]? = some s2 → ∃ s, e[j]? = some s ∧ okSl s s2
  | [], [], j, s2, _, h => by simp at h
  | s :: e, t :: e2, 0, s2, ⟨h1, _⟩, h => by simp at h; subst h; exact ⟨s, rfl, h1⟩
  | s :: e, t :: e2, j + 1, s2, ⟨_, h2⟩, h => by
    obtain ⟨u, g1, g2⟩ := okEA_at (j := j) h2 (by simpa using h)
    exact ⟨u, by simpa using g1, g2⟩
  | [], _ :: _, _, _, h0, _ => h0.elim
  | _ :: _, [], _, _, h0, _ => h0.elim
theorem okE_at : ∀ {i : Nat} {e e2 : En} {j : Nat} {s2 : Sl}, okE i e e2 → j ≠ i → e2[j]? = some s2 → ∃ s, e[j]? = some s ∧ okSl s s2
  | i, [], [], j, s2, _, _, h => by simp at h
  | 0, s :: e, t :: e2, 0, s2, _, n, h => (n rfl).elim
  | 0, s :: e, t :: e2, j + 1, s2, h0, _, h => by
    obtain ⟨u, g1, g2⟩ := okEA_at (j := j) h0 (by simpa using h)
    exact ⟨u, by simpa using g1, g2⟩
  | i + 1, s :: e, t :: e2, 0, s2, ⟨h1, _⟩, _, h => by simp at h; subst h; exact ⟨s, rfl, h1⟩
  | i + 1, s :: e, t :: e2, j + 1, s2, ⟨_, h2⟩, n, h => by
    obtain ⟨u, g1, g2⟩ := okE_at (j := j) h2 (by omega) (by simpa using h)
    exact ⟨u, by simpa using g1, g2⟩
  | 0, [], _ :: _, _, _, h0, _, _ => h0.elim
  | 0, _ :: _, [], _, _, h0, _, _ => h0.elim
  | _ + 1, [], _ :: _, _, _, h0, _, _ => h0.elim
  | _ + 1, _ :: _, [], _, _, h0, _, _ => h0.elim
open Classical in
noncomputable def viewEnd (i : Nat) (b : Bool) (d : D) (e : En) (a : A) (e2 : En) : M.R A := match a with
  | .sh q => if flatD q = true ∧ okE i e e2 then .ok (.sh q) (e2.set i (.ow b d)) else if b = false then .ok (.sh q) e2 else .bad
  | _ => .bad
noncomputable def eView (i : Nat) (f : Ev A) : Ev A := fun e => match e[i]? with
  | some (.ow b d) => (f (e.set i (.sh d))).nox.bind fun a e2 => viewEnd i b d e a e2
  | _ => f e
section
variable {K : PySem.W.Frag} {G : Gd} {en : En} {F F' H H' : Hp} {σ : L2.St} {i : Nat}
theorem flat_rep {v : V} {d : D} (h : Rep K F v d) (hf : flatD d = true) (F2 : Hp) : Rep K F2 v d := by
  cases h with
  | non => exact .non
  | bl b => exact .bl b
  | int i => exact .int i
  | str s => exact .str s
  | lst _ _ => cases hf
  | tup _ _ => cases hf
  | dK _ _ => cases hf
  | dT _ _ => cases hf
theorem flatReps : ∀ {vs : List V} {ds : List D}, Reps K F vs ds → ds.all flatD = true → ∀ F2 : Hp, Reps K F2 vs ds
  | _, _, .nil, _, _ => .nil
  | _, _, .cons h r, hf, F2 => by
    rw [List.all_cons, Bool.and_eq_true] at hf
    exact .cons (flat_rep h hf.1 F2) (flatReps r hf.2 F2)
theorem flat_own {p : Addr} {d : D} (h : Own K F H p d) (hf : flatO d = true) (F2 : Hp) : Own K F2 H p d := by
  cases d with
  | list ds => obtain ⟨vs, h1, h2⟩ := h; exact ⟨vs, h1, flatReps h2 hf F2⟩
  | _ => cases hf
/-- without p -/
def hidA (H : Hp) (p : Addr) : Hp := fun a => if a = p then none else H a
theorem hidA_ne {p a : Addr} (h : a ≠ p) : hidA H p a = H a := if_neg h
theorem hidA_self {p : Addr} : hidA H p p = none := if_pos rfl
def Gd.lendR (G : Gd) (p : Addr) : Gd := { G with H0 := hidA G.H0 p }
theorem Rel.lendR {b : Bool} {d : D} {p : Addr} {o : HO} (R : Rel K G en F H σ) (e : en[i]? = some (.ow b d)) (hp : σ[i]? = some (some (.ref p))) (hH : H p = some o) : Rel K (G.lendR p) (en.set i (.sh d)) (upd F p o) H σ ∧ Same F (upd F p o) := by
  obtain ⟨p', h1, h2, h3⟩ := R.owV e
  rw [hp] at h1
  cases h1
  have hlen : i < en.length := (List.getElem?_eq_some_iff.mp e).1
  have sF : Same F (upd F p o) := fun a u q => by
    have ne : a ≠ p := fun z => by rw [z, h2] at q; cases q
    rw [upd_ne ne]; exact q
  have other : ∀ {j : Nat} {c : Bool} {d' : D} {q : Addr}, j ≠ i → en[j]? = some (.ow c d') → σ[j]? = some (some (.ref q)) → q ≠ p := fun {j c d' q} hj g1 g2 z => by
    subst z
    exact hj (R.dj j i c b d' d q g1 e g2 hp)
  have at_ : ∀ {j : Nat} {s : Sl}, (en.set i (.sh d))[j]? = some s → (j = i ∧ s = .sh d) ∨ (j ≠ i ∧ en[j]? = some s) := fun {j s} z => by
    by_cases h : i = j
    · subst h
      rw [List.getElem?_set_self hlen] at z
      cases z
      exact .inl ⟨rfl, rfl⟩
    · rw [List.getElem?_set_ne h] at z
      exact .inr ⟨fun q => h q.symm, z⟩
  refine ⟨⟨by rw [List.length_set, R.len], fun j s z => ?_, fun j k c c' d1 d2 q h1 h2 h3 h4 => ?_, fun j c d1 q h1 h3 => ?_, fun a u q => ?_, R.f0.trans sF, fun a u q => ?_, fun a u q hA => ?_, R.as, fun j d1 h1 => ?_⟩, sF⟩
  · rcases at_ z with ⟨rfl, rfl⟩ | ⟨hj, z⟩
    · exact ⟨.ref p, by rw [hp]; rfl, h3.rep sF (by rw [upd_same, hH])⟩
    · have y := R.sl j s z
      cases s with
      | un => trivial
      | sh d => obtain ⟨v, g1, g2⟩ := y; exact ⟨v, g1, g2.mono sF⟩
      | ow c d' =>
        obtain ⟨q, g1, g2, g3⟩ := y
        exact ⟨q, g1, by rw [upd_ne (other hj z (join_some g1))]; exact g2, g3.mono sF rfl⟩
  · rcases at_ h1 with ⟨_, h1⟩ | ⟨_, h1⟩
    · cases h1
    · rcases at_ h2 with ⟨_, h2⟩ | ⟨_, h2⟩
      · cases h2
      · exact R.dj j k c c' d1 d2 q h1 h2 h3 h4
  · rcases at_ h1 with ⟨_, h1⟩ | ⟨hj, h1⟩
    · cases h1
    · have m := R.mn j c d1 q h1 h3
      show if c = true then q ∈ G.As else hidA G.H0 p q = none
      rw [hidA_ne (other hj h1 h3)]
      exact m
  · by_cases h : a = p
    · rw [h, upd_same] at q; cases q; rw [h]; exact hH
    · rw [upd_ne h] at q; exact R.fh _ _ q
  · by_cases h : a = p
    · rw [h]; exact .inr hidA_self
    · rw [upd_ne h] at q
      show G.F0 a = some u ∨ hidA G.H0 p a = none
      rw [hidA_ne h]
      exact R.nw a u q
  · have q' : hidA G.H0 p a = some u := q
    by_cases h : a = p
    · rw [h, hidA_self] at q'; cases q'
    · rw [hidA_ne h] at q'; exact R.bs a u q' hA
  · rcases at_ h1 with ⟨_, h1⟩ | ⟨_, h1⟩
    · cases h1
    · exact R.ar j d1 h1
theorem Rel.backR {b : Bool} {d : D} {p : Addr} {o : HO} {e2 : En} {F2 H2 : Hp} (R : Rel K G en F H σ) (e : en[i]? = some (.ow b d)) (hp : σ[i]? = some (some (.ref p))) (hH : H p = some o) (R2 : Rel K (G.lendR p) e2 F2 H2 σ) (s2 : Same (upd F p o) F2) (ok : okE i en e2) :
    Rel K G (e2.set i (.ow b d)) (hidA F2 p) H2 σ ∧ Same F (hidA F2 p) := by
  obtain ⟨p', h1, h2, h3⟩ := R.owV e
  rw [hp] at h1
  cases h1
  have hFp : F2 p = some o := s2 p o upd_same
  have hHp : H2 p = some o := R2.fh _ _ hFp
  have sF : Same F (hidA F2 p) := fun a u q => by
    have ne : a ≠ p := fun z => by rw [z, h2] at q; cases q
    rw [hidA_ne ne]
    exact s2 a u (by rw [upd_ne ne]; exact q)
  have hlen : i < e2.length := by
    rw [R2.len, ← R.len]
    exact (List.getElem?_eq_some_iff.mp e).1
  have at_ : ∀ {j : Nat} {s : Sl}, (e2.set i (.ow b d))[j]? = some s → (j = i ∧ s = .ow b d) ∨ (j ≠ i ∧ e2[j]? = some s) := fun {j s} z => by
    by_cases h : i = j
    · subst h
      rw [List.getElem?_set_self hlen] at z
      cases z
      exact .inl ⟨rfl, rfl⟩
    · rw [List.getElem?_set_ne h] at z
      exact .inr ⟨fun q => h q.symm, z⟩
  -- an own thing of e2 is not p
  have ownNe : ∀ {j : Nat} {c : Bool} {d' : D} {q : Addr}, e2[j]? = some (.ow c d') → σ[j]? = some (some (.ref q)) → q ≠ p := fun {j c d' q} z y w => by
    subst w
    obtain ⟨q', g1, g2, _⟩ := R2.owV z
    rw [y] at g1
    cases g1
    rw [hFp] at g2; cases g2
  refine ⟨⟨by rw [List.length_set, R2.len], fun j s z => ?_, fun j k c c' d1 d2 q h1 h2 h3 h4 => ?_, fun j c d1 q h1 h3 => ?_, fun a u q => ?_, R.f0.trans sF, fun a u q => ?_, fun a u q hA => ?_, R2.as, fun j d1 h1 => ?_⟩, sF⟩
  · rcases at_ z with ⟨rfl, rfl⟩ | ⟨hj, z⟩
    · exact ⟨p, by rw [hp]; rfl, hidA_self, h3.mono sF (hHp.trans hH.symm)⟩
    · obtain ⟨s0, g1, g2⟩ := okE_at ok hj z
      cases s with
      | un => trivial
      | sh d1 =>
        cases (show s0 = .sh d1 from g2)
        obtain ⟨v, w1, w2⟩ := R.sl j _ g1
        exact ⟨v, w1, w2.mono sF⟩
      | ow c d1 =>
        obtain ⟨q, w1, w2, w3⟩ := R2.sl j _ z
        have ne := ownNe z (join_some w1)
        exact ⟨q, w1, by rw [hidA_ne ne]; exact w2, flat_own w3 g2 _⟩
  · rcases at_ h1 with ⟨ej, x1⟩ | ⟨hj, x1⟩
    · rcases at_ h2 with ⟨ek, x2⟩ | ⟨hk, x2⟩
      · rw [ej, ek]
      · rw [ej, hp] at h3
        cases h3
        exact (ownNe x2 h4 rfl).elim
    · rcases at_ h2 with ⟨ek, x2⟩ | ⟨hk, x2⟩
      · rw [ek, hp] at h4
        cases h4
        exact (ownNe x1 h3 rfl).elim
      · exact R2.dj j k c c' d1 d2 q x1 x2 h3 h4
  · rcases at_ h1 with ⟨ej, x1⟩ | ⟨hj, x1⟩
    · cases x1
      rw [ej] at h3
      exact R.mn i b d q e h3
    · have m : if c = true then q ∈ G.As else hidA G.H0 p q = none := R2.mn j c d1 q x1 h3
      rw [hidA_ne (ownNe x1 h3)] at m
      exact m
  · by_cases h : a = p
    · rw [h, hidA_self] at q; cases q
    · rw [hidA_ne h] at q; exact R2.fh _ _ q
  · by_cases h : a = p
    · rw [h, hidA_self] at q; cases q
    · rw [hidA_ne h] at q
      have m : G.F0 a = some u ∨ hidA G.H0 p a = none := R2.nw a u q
      rw [hidA_ne h] at m
      exact m
  · by_cases h : a = p
    · subst h
      have := R.bs a u q hA
      rw [hH] at this
      cases this
      exact hHp
    · exact R2.bs a u (by show hidA G.H0 p a = some u; rw [hidA_ne h]; exact q) hA
  · rcases at_ h1 with ⟨ej, x1⟩ | ⟨hj, x1⟩
    · cases x1
      rw [ej]
      exact R.ar i _ e
    · exact R2.ar j d1 x1
/-- what was lent is frozen -/
theorem Rel.keepR {d : D} {p : Addr} {e2 : En} {F2 H2 : Hp} (R : Rel K G en F H σ) (e : en[i]? = some (.ow false d)) (hp : σ[i]? = some (some (.ref p))) (R2 : Rel K (G.lendR p) e2 F2 H2 σ) : Rel K G e2 F2 H2 σ := by
  have m := R.mn i false d p e hp
  have m' : G.H0 p = none := by simpa using m
  have eG : G.lendR p = G := by
    have : hidA G.H0 p = G.H0 := by
      funext a
      by_cases h : a = p
      · rw [h, hidA_self, m']
      · exact hidA_ne h
    unfold Gd.lendR
    rw [this]
  rw [eG] at R2
  exact R2
end
theorem dx_view (i : Nat) {X : Cx} {a : Expr} {f : Ev A} (h : DX X WX0 a f) : DX X WX0 a (eView i f) := by
  obtain ⟨t, p, q⟩ := h.ex
  refine ⟨t, p, fun G en F H σ Q R k => ?_⟩
  unfold eView at k
  split at k
  · rename_i b d e
    obtain ⟨pa, h1, h2, h3⟩ := R.owV e
    obtain ⟨o, ho⟩ := h3.some
    obtain ⟨R1, s1⟩ := R.lendR e h1 ho
    refine q (G.lendR pa) _ _ H σ Q R1 ?_
    cases z : f (en.set i (.sh d)) with
    | bad => rw [z] at k; exact k
    | ex x e2 => rw [z] at k; exact (show False from k).elim
    | ok a e2 =>
      rw [z] at k
      intro v F2 H2 R2 s2 o2
      cases a with
      | bor j => exact k.elim
      | sh qd =>
        have k' : PE1 X WX0 G F σ (viewEnd i b d en (.sh qd) e2) Q := k
        unfold viewEnd at k'
        dsimp only at k'
        split at k'
        · rename_i hz
          obtain ⟨z1, z2⟩ := hz
          obtain ⟨R3, s3⟩ := Rel.backR R e h1 ho R2 s2 z2
          exact k' v _ H2 R3 s3 (flat_rep o2 z1 _)
        · split at k'
          · rename_i hb
            subst hb
            exact k' v F2 H2 (Rel.keepR R e h1 R2) (s1.trans s2) o2
          · exact k'.elim
  · exact q G en F H σ Q R k
end M
set_option Elab.async false
set_option linter.all false
set_option maxRecDepth 100000
set_option autoImplicit false
/-! M14: reckoning with meanings: an operand ahead of what follows it. -/
namespace M
open PySem PySem.Spec L2
theorem cR {α β : Type} {r r' : M.R α} {g : α → En → M.R β} (h : r = r') : r.bind g = r'.bind g := by rw [h]
theorem cSt {α : Type} {r r' : M.R α} {g : α → En → SR} (h : r = r') : r.st g = r'.st g := by rw [h]
theorem cSR {r r' : SR} {g : En → SR} (h : r = r') : r.bind g = r'.bind g := by rw [h]
theorem cOB {α β : Type} {r r' : Option α} {g : α → Option β} (h : r = r') : r.bind g = r'.bind g := by rw [h]
section
variable {α β : Type}
@[simp] theorem R_ok (a : α) (e : En) (g : α → En → M.R β) : (M.R.ok a e).bind g = g a e := rfl
@[simp] theorem R_bad (g : α → En → M.R β) : (M.R.bad).bind g = .bad := rfl
@[simp] theorem st_ok (a : α) (e : En) (g : α → En → SR) : (M.R.ok a e).st g = g a e := rfl
@[simp] theorem nox_ok (a : α) (e : En) : (M.R.ok a e).nox = .ok a e := rfl
@[simp] theorem SR_nx (e : En) (g : En → SR) : (SR.nx e).bind g = g e := rfl
@[simp] theorem SR_rt (o : Bool) (d : D) (e : En) (g : En → SR) : (SR.rt o d e).bind g = .rt o d e := rfl
@[simp] theorem SR_bk (e : En) (g : En → SR) : (SR.bk e).bind g = .bk e := rfl
@[simp] theorem SR_ct (e : En) (g : En → SR) : (SR.ct e).bind g = .ct e := rfl
@[simp] theorem fin_s (d : D) (e : En) : fin (some d) e = .ok (.sh d) e := rfl
@[simp] theorem res_sh (e : En) (d : D) : res e (.sh d) = some d := rfl
def getSl : Option Sl → Option D
  | some (.sh d) => some d
  | some (.ow _ d) => some d
  | _ => none
@[simp] theorem res_bor (e : En) (i : Nat) : res e (.bor i) = getSl e[i]? := by unfold res getSl; rfl
@[simp] theorem getSl_sh (d : D) : getSl (some (.sh d)) = some d := rfl
@[simp] theorem getSl_ow (b : Bool) (d : D) : getSl (some (.ow b d)) = some d := rfl
def varSl (i : Nat) (e : En) : Option Sl → M.R A
  | some (.sh d) => .ok (.sh d) e
  | some (.ow _ _) => .ok (.bor i) e
  | _ => .bad
@[simp] theorem eVar_r (i : Nat) (e : En) : eVar i e = varSl i e e[i]? := by unfold eVar varSl; rfl
@[simp] theorem varSl_sh (i : Nat) (e : En) (d : D) : varSl i e (some (.sh d)) = .ok (.sh d) e := rfl
@[simp] theorem varSl_ow (i : Nat) (e : En) (b : Bool) (d : D) : varSl i e (some (.ow b d)) = .ok (.bor i) e := rfl
@[simp] theorem eC_r (d : D) (e : En) : eC d e = .ok (.sh d) e := rfl
@[simp] theorem eUn_r (g : D → Option D) (fa : Ev A) (e : En) : eUn g fa e = (fa e).bind fun a e1 => fin ((res e1 a).bind g) e1 := rfl
@[simp] theorem eBin_r (g : D → D → Option D) (fa fb : Ev A) (e : En) : eBin g fa fb e = (fa e).bind fun a e1 => (fb e1).bind fun b e2 => fin ((res e2 a).bind fun x => (res e2 b).bind fun y => g x y) e2 := rfl
@[simp] theorem eAdd_r (fa fb : Ev A) (e : En) : eAdd fa fb e = eBin dAddU fa fb e := rfl
@[simp] theorem eSub_r (fa fb : Ev A) (e : En) : eSub fa fb e = eBin dSub fa fb e := rfl
@[simp] theorem eMul_r (fa fb : Ev A) (e : En) : eMul fa fb e = eBin dMulU fa fb e := rfl
@[simp] theorem eFdiv_r (fa fb : Ev A) (e : En) : eFdiv fa fb e = eBin dFdiv fa fb e := rfl
@[simp] theorem eMod_r (fa fb : Ev A) (e : En) : eMod fa fb e = eBin dMod fa fb e := rfl
@[simp] theorem ePow_r (fa fb : Ev A) (e : En) : ePow fa fb e = eBin dPow fa fb e := rfl
@[simp] theorem eLt_r (fa fb : Ev A) (e : En) : eLt fa fb e = eBin dLt fa fb e := rfl
@[simp] theorem eLe_r (fa fb : Ev A) (e : En) : eLe fa fb e = eBin dLe fa fb e := rfl
@[simp] theorem eGt_r (fa fb : Ev A) (e : En) : eGt fa fb e = eBin dGt fa fb e := rfl
@[simp] theorem eGe_r (fa fb : Ev A) (e : En) : eGe fa fb e = eBin dGe fa fb e := rfl
@[simp] theorem eEq_r (fa fb : Ev A) (e : En) : eEq fa fb e = eBin dEq fa fb e := rfl
@[simp] theorem eNe_r (fa fb : Ev A) (e : En) : eNe fa fb e = eBin dNe fa fb e := rfl
@[simp] theorem eIsN_r (fa fb : Ev A) (e : En) : eIsN fa fb e = eBin dIsN fa fb e := rfl
@[simp] theorem eNotN_r (fa fb : Ev A) (e : En) : eNotN fa fb e = eBin dNotN fa fb e := rfl
@[simp] theorem eIx_r (fa fb : Ev A) (e : En) : eIx fa fb e = eBin dIx fa fb e := rfl
@[simp] theorem eNil_r (e : En) : eNil e = .ok [] e := rfl
@[simp] theorem eCons_r (fa : Ev A) (fs : Ev (List A)) (e : En) : eCons fa fs e = (fa e).bind fun a e1 => (fs e1).bind fun as e2 => .ok (a :: as) e2 := rfl
@[simp] theorem eFn_r (g : List D → Option D) (fs : Ev (List A)) (e : En) : eFn g fs e = (fs e).bind fun as e1 => fin ((ress e1 as).bind g) e1 := rfl
@[simp] theorem eOwn_r (f : Ev D) (e : En) : eOwn f e = (f e).bind fun d e1 => .ok (.sh d) e1 := rfl
def okOr {α : Type} : Option (α × En) → M.R α
  | some (d, e) => .ok d e
  | none => .bad
@[simp] theorem okOr_s (d : α) (e : En) : okOr (some (d, e)) = .ok d e := rfl
@[simp] theorem eHold_r (f : Ev A) (e : En) : eHold f e = (f e).bind fun a e1 => okOr (hold1 e1 a) := by
  unfold eHold; refine congrArg _ ?_; funext a e1; cases hold1 e1 a <;> rfl
@[simp] theorem eHolds_r (f : Ev (List A)) (e : En) : eHolds f e = (f e).bind fun a e1 => okOr (holds a e1) := by
  unfold eHolds; refine congrArg _ ?_; funext a e1; cases holds a e1 <;> rfl
@[simp] theorem hold1_sh (e : En) (d : D) : hold1 e (.sh d) = some (d, e) := rfl
def holdSl (i : Nat) (e : En) : Option Sl → Option (D × En)
  | some (.sh d) => some (d, e)
  | some (.ow false d) => some (d, e.set i (.sh d))
  | _ => none
@[simp] theorem hold1_bor (e : En) (i : Nat) : hold1 e (.bor i) = holdSl i e e[i]? := by unfold hold1 holdSl; rfl
@[simp] theorem holdSl_sh (i : Nat) (e : En) (d : D) : holdSl i e (some (.sh d)) = some (d, e) := rfl
@[simp] theorem holdSl_ow (i : Nat) (e : En) (d : D) : holdSl i e (some (.ow false d)) = some (d, e.set i (.sh d)) := rfl
@[simp] theorem holds_nil (e : En) : holds [] e = some ([], e) := rfl
@[simp] theorem holds_cons (a : A) (as : List A) (e : En) : holds (a :: as) e = (hold1 e a).bind fun p => (holds as p.2).bind fun q => some (p.1 :: q.1, q.2) := rfl
@[simp] theorem ress_nil (e : En) : ress e [] = some [] := rfl
@[simp] theorem ress_cons (e : En) (a : A) (as : List A) : ress e (a :: as) = (res e a).bind fun d => (ress e as).bind fun ds => some (d :: ds) := rfl
@[simp] theorem eFrz_r (f : Ev A) (e : En) : eFrz f e = (eHold f e).bind fun d e1 => .ok (.sh d) e1 := rfl
@[simp] theorem eTup_r (f : Ev (List A)) (e : En) : eTup f e = (eHolds f e).bind fun ds e1 => if small ds.length then .ok (.sh (.tuple ds)) e1 else .bad := rfl
@[simp] theorem oLst_r (f : Ev (List A)) (e : En) : oLst f e = (eHolds f e).bind fun ds e1 => if small ds.length then .ok (.list ds) e1 else .bad := rfl
@[simp] theorem eIf_r (c : Ev Bool) (fa fb : Ev A) (e : En) : eIf c fa fb e = (c e).bind fun b e1 => if b = true then fa e1 else fb e1 := rfl
@[simp] theorem bOf_b (b : Bool) : bOf (.bool b) = some b := rfl
def okB : Option Bool → En → M.R Bool
  | some b, e => .ok b e
  | none, _ => .bad
@[simp] theorem okB_s (b : Bool) (e : En) : okB (some b) e = .ok b e := rfl
@[simp] theorem tOf_r (f : Ev A) (e : En) : tOf f e = (f e).bind fun a e1 => okB ((res e1 a).bind bOf) e1 := by
  unfold tOf; refine congrArg _ ?_; funext a e1; cases (res e1 a).bind bOf <;> rfl
@[simp] theorem tAnd2_r (fa fb : Ev Bool) (e : En) : tAnd2 fa fb e = (fa e).bind fun b e1 => if b = true then fb e1 else .ok false e1 := rfl
@[simp] theorem tOr2_r (fa fb : Ev Bool) (e : En) : tOr2 fa fb e = (fa e).bind fun b e1 => if b = true then .ok true e1 else fb e1 := rfl
@[simp] theorem tNo_r (fa : Ev Bool) (e : En) : tNo fa e = (fa e).bind fun b e1 => .ok (!b) e1 := rfl
@[simp] theorem tYes1_r (e : En) : tYes1 e = .ok true e := rfl
def andB (g : En → M.R A) (e : En) : Option Bool → M.R A
  | some true => g e
  | some false => .ok (.sh (.bool false)) e
  | none => .bad
def orB (g : En → M.R A) (e : En) : Option Bool → M.R A
  | some true => .ok (.sh (.bool true)) e
  | some false => g e
  | none => .bad
@[simp] theorem andB_t (g : En → M.R A) (e : En) : andB g e (some true) = g e := rfl
@[simp] theorem andB_f (g : En → M.R A) (e : En) : andB g e (some false) = .ok (.sh (.bool false)) e := rfl
@[simp] theorem orB_t (g : En → M.R A) (e : En) : orB g e (some true) = .ok (.sh (.bool true)) e := rfl
@[simp] theorem orB_f (g : En → M.R A) (e : En) : orB g e (some false) = g e := rfl
@[simp] theorem eAnd_r (fa fb : Ev A) (e : En) : eAnd fa fb e = (fa e).bind fun a e1 => andB fb e1 ((res e1 a).bind bOf) := by
  unfold eAnd; refine congrArg _ ?_; funext a e1; cases (res e1 a).bind bOf with
  | none => rfl
  | some b => cases b <;> rfl
@[simp] theorem eOr_r (fa fb : Ev A) (e : En) : eOr fa fb e = (fa e).bind fun a e1 => orB fb e1 ((res e1 a).bind bOf) := by
  unfold eOr; refine congrArg _ ?_; funext a e1; cases (res e1 a).bind bOf with
  | none => rfl
  | some b => cases b <;> rfl
def notB (e : En) : Option Bool → M.R A
  | some b => .ok (.sh (.bool (!b))) e
  | none => .bad
@[simp] theorem notB_s (e : En) (b : Bool) : notB e (some b) = .ok (.sh (.bool (!b))) e := rfl
@[simp] theorem eNot_r (fa : Ev A) (e : En) : eNot fa e = (fa e).bind fun a e1 => notB e1 ((res e1 a).bind bOf) := by
  unfold eNot; refine congrArg _ ?_; funext a e1; cases (res e1 a).bind bOf <;> rfl
/-! ### calls -/
@[simp] theorem argOf_sh (e : En) (d : D) : argOf e (.sh d) = some (.sh d) := rfl
def argSl : Option Sl → Option Sl
  | some (.sh d) => some (.sh d)
  | some (.ow _ d) => some (.ow true d)
  | _ => none
@[simp] theorem argOf_bor (e : En) (i : Nat) : argOf e (.bor i) = argSl e[i]? := by unfold argOf argSl; rfl
@[simp] theorem argSl_sh (d : D) : argSl (some (.sh d)) = some (.sh d) := rfl
@[simp] theorem argSl_ow (b : Bool) (d : D) : argSl (some (.ow b d)) = some (.ow true d) := rfl
@[simp] theorem argsOf_nil (e : En) : argsOf e [] = some [] := rfl
@[simp] theorem argsOf_cons (e : En) (a : A) (as : List A) : argsOf e (a :: as) = (argOf e a).bind fun d => (argsOf e as).bind fun ds => some (d :: ds) := rfl
@[simp] theorem bors_nil : bors [] = [] := rfl
@[simp] theorem bors_sh (d : D) (as : List A) : bors (.sh d :: as) = bors as := rfl
@[simp] theorem bors_bor (i : Nat) (as : List A) : bors (.bor i :: as) = i :: bors as := rfl
def retRt (as : List A) (e : En) : Rt → M.R (Bool × D)
  | .bad => .bad
  | .ret o d as' => .ok (o, d) (back as as' e)
  | .exc x as' => .ex x (back as as' e)
@[simp] theorem retRt_ret (as : List A) (e : En) (o : Bool) (d : D) (as' : List Sl) : retRt as e (.ret o d as') = .ok (o, d) (back as as' e) := rfl
def runSl (Fd : List Sl → Rt) (as : List A) (e : En) : Option (List Sl) → M.R (Bool × D)
  | some ss => retRt as e (Fd ss)
  | none => .bad
@[simp] theorem runSl_s (Fd : List Sl → Rt) (as : List A) (e : En) (ss : List Sl) : runSl Fd as e (some ss) = retRt as e (Fd ss) := rfl
@[simp] theorem callRt_r (Fd : List Sl → Rt) (as : List A) (e : En) : callRt Fd as e = if (bors as).Nodup then runSl Fd as e (argsOf e as) else .bad := by
  unfold callRt
  by_cases h : (bors as).Nodup
  · rw [if_pos h, if_pos h]
    cases argsOf e as with
    | none => rfl
    | some ss => show _ = retRt as e (Fd ss); cases q : Fd ss <;> simp [retRt, q]
  · rw [if_neg h, if_neg h]
@[simp] theorem eCall_r (Fd : List Sl → Rt) (fs : Ev (List A)) (e : En) : eCall Fd fs e = (fs e).bind fun as e1 => (callRt Fd as e1).bind fun p e2 => .ok (.sh p.2) e2 := rfl
@[simp] theorem oCall_r (Fd : List Sl → Rt) (fs : Ev (List A)) (e : En) : oCall Fd fs e = (fs e).bind fun as e1 => (callRt Fd as e1).bind fun p e2 => if p.1 = true then .ok p.2 e2 else .bad := rfl
@[simp] theorem back_nil (ss : List Sl) (e : En) : back [] ss e = e := by cases ss <;> rfl
@[simp] theorem back_sh (d : D) (as : List A) (s : Sl) (ss : List Sl) (e : En) : back (.sh d :: as) (s :: ss) e = back as ss e := rfl
def backSl (i : Nat) (s : Sl) (e : En) : Option Sl → En
  | some (.ow b _) => e.set i (match s with
    | .ow true d => .ow b d
    | _ => .un)
  | _ => e
@[simp] theorem back_bor (i : Nat) (as : List A) (s : Sl) (ss : List Sl) (e : En) : back (.bor i :: as) (s :: ss) e = back as ss (backSl i s e e[i]?) := by
  show back as ss _ = back as ss _
  congr 1
@[simp] theorem backSl_ow (i : Nat) (e : En) (b : Bool) (d d' : D) : backSl i (.ow true d') e (some (.ow b d)) = e.set i (.ow b d') := rfl
@[simp] theorem backSl_sh (i : Nat) (s : Sl) (e : En) (d : D) : backSl i s e (some (.sh d)) = e := rfl
@[simp] theorem outs_nil (e : En) : outs [] e = some [] := by cases e <;> rfl
@[simp] theorem outs_ow (d d' : D) (as : List Sl) (e : En) : outs (.ow true d :: as) (.ow true d' :: e) = (outs as e).bind fun r => some (.ow true d' :: r) := rfl
@[simp] theorem outs_sh (d : D) (as : List Sl) (s : Sl) (e : En) : outs (.sh d :: as) (s :: e) = (outs as e).bind fun r => some (.un :: r) := rfl
@[simp] theorem okArgs_nil : okArgs [] = true := rfl
@[simp] theorem okArgs_ow (d : D) (as : List Sl) : okArgs (.ow true d :: as) = okArgs as := rfl
@[simp] theorem okArgs_sh (d : D) (as : List Sl) : okArgs (.sh d :: as) = okArgs as := rfl
def retSR (as : List Sl) : SR → Rt
  | .nx e => match outs as e with
    | some r => .ret false .none r
    | none => .bad
  | .rt o d e => match outs as e with
    | some r => .ret o d r
    | none => .bad
  | _ => .bad
def retO (o : Bool) (d : D) : Option (List Sl) → Rt
  | some r => .ret o d r
  | none => .bad
@[simp] theorem retO_s (o : Bool) (d : D) (r : List Sl) : retO o d (some r) = .ret o d r := rfl
@[simp] theorem retSR_nx (as : List Sl) (e : En) : retSR as (.nx e) = retO false .none (outs as e) := by
  show (match outs as e with | some r => Rt.ret false .none r | none => .bad) = _
  cases outs as e <;> rfl
@[simp] theorem retSR_rt (as : List Sl) (o : Bool) (d : D) (e : En) : retSR as (.rt o d e) = retO o d (outs as e) := by
  show (match outs as e with | some r => Rt.ret o d r | none => .bad) = _
  cases outs as e <;> rfl
theorem run0_r (n : Nat) (body : En → SR) (as : List Sl) (h : okArgs as = true) : run0 n body as = retSR as (body (as ++ List.replicate (n - as.length) .un)) := by
  unfold run0 runDef
  rw [if_pos h]
  cases body (as ++ List.replicate (n - as.length) .un) with
  | bad => rfl
  | nx e => show (match (match outs as e with | some r => Rt.ret false .none r | none => .bad) with | .exc _ _ => Rt.bad | r => r) = retSR as (.nx e); rw [retSR_nx]; cases outs as e <;> rfl
  | bk e => rfl
  | ct e => rfl
  | rt o d e => show (match (match outs as e with | some r => Rt.ret o d r | none => .bad) with | .exc _ _ => Rt.bad | r => r) = retSR as (.rt o d e); rw [retSR_rt]; cases outs as e <;> rfl
  | ex x e => show (match (match outs as e with | some r => Rt.exc x r | none => .bad) with | .exc _ _ => Rt.bad | r => r) = Rt.bad; cases outs as e <;> rfl
/-! ### statements -/
@[simp] theorem sNil_r (e : En) : sNil e = .nx e := rfl
@[simp] theorem sSeq_r (f g : En → SR) (e : En) : sSeq f g e = (f e).bind g := rfl
@[simp] theorem sIf_r (c : Ev Bool) (f g : En → SR) (e : En) : sIf c f g e = (c e).st fun b e1 => if b = true then f e1 else g e1 := rfl
@[simp] theorem sExpr_r (f : Ev A) (e : En) : sExpr f e = (f e).st fun _ e1 => .nx e1 := rfl
@[simp] theorem sRet_r (f : Ev A) (e : En) : sRet f e = (eHold f e).st fun d e1 => .rt false d e1 := rfl
@[simp] theorem sRetO_r (f : Ev D) (e : En) : sRetO f e = (f e).st fun d e1 => .rt true d e1 := rfl
@[simp] theorem sRetN_r (e : En) : sRetN e = .rt false .none e := rfl
def retSl (i : Nat) (e : En) : Option Sl → SR
  | some (.sh d) => .rt false d e
  | some (.ow false d) => .rt true d (e.set i .un)
  | _ => .bad
@[simp] theorem sRetV_r (i : Nat) (e : En) : sRetV i e = retSl i e e[i]? := by unfold sRetV retSl; rfl
@[simp] theorem retSl_sh (i : Nat) (e : En) (d : D) : retSl i e (some (.sh d)) = .rt false d e := rfl
@[simp] theorem retSl_ow (i : Nat) (e : En) (d : D) : retSl i e (some (.ow false d)) = .rt true d (e.set i .un) := rfl
def nxO : Option En → SR
  | some e => .nx e
  | none => .bad
@[simp] theorem nxO_s (e : En) : nxO (some e) = .nx e := rfl
@[simp] theorem sAsg_r (g : Gt) (f : Ev A) (e : En) : sAsg g f e = (eHold f e).st fun d e1 => nxO (g d e1) := by
  unfold sAsg; refine congrArg _ ?_; funext d e1; cases g d e1 <;> rfl
@[simp] theorem gN_r (i : Nat) (d : D) (e : En) : gN i d e = some (e.set i (.sh d)) := rfl
@[simp] theorem gT_r (gs : List Gt) (ds : List D) (e : En) : gT gs (.tuple ds) e = gTs gs ds e := rfl
@[simp] theorem gTs_nil (e : En) : gTs [] [] e = some e := rfl
@[simp] theorem gTs_cons (g : Gt) (gs : List Gt) (d : D) (ds : List D) (e : En) : gTs (g :: gs) (d :: ds) e = (g d e).bind fun e1 => gTs gs ds e1 := rfl
@[simp] theorem sSetO_r (i : Nat) (f : Ev D) (e : En) : sSetO i f e = (f e).st fun d e1 => .nx (e1.set i (.ow false d)) := rfl
@[simp] theorem isLo_ow (b : Bool) (xs : List D) : isLo (.ow b (.list xs)) = true := rfl
@[simp] theorem sSetIx_r (i : Nat) (fe fi : Ev A) (e : En) : sSetIx i fe fi e = (eHold fe e).st fun d e1 => if (e1[i]?.map isLo) = some true then (fi e1).st fun a e2 => setAt i d a e2 else .bad := rfl
def setSl (i : Nat) (d : D) (e2 : En) : Option D → Option Sl → SR
  | some (.int k), some (.ow b (.list xs)) => match ixN xs.length k with
    | some j => .nx (e2.set i (.ow b (.list (xs.set j d))))
    | none => .bad
  | _, _ => .bad
@[simp] theorem setAt_r (i : Nat) (d : D) (a : A) (e2 : En) : setAt i d a e2 = setSl i d e2 (res e2 a) e2[i]? := by unfold setAt setSl; rfl
theorem setSl_l (i : Nat) (d : D) (e2 : En) (k : Int) (b : Bool) (xs : List D) (j : Nat) (h : ixN xs.length k = some j) : setSl i d e2 (some (.int k)) (some (.ow b (.list xs))) = .nx (e2.set i (.ow b (.list (xs.set j d)))) := by
  unfold setSl; simp [h]
@[simp] theorem eMeth_r (i : Nat) (g : D → List D → Option (D × D)) (fs : Ev (List A)) (e : En) : eMeth i g fs e = if (e[i]?.map isLo) = some true then (eHolds fs e).bind fun ds e1 => methAt i g ds e1 else .bad := rfl
def methO (i : Nat) (b : Bool) (e1 : En) : Option (D × D) → M.R A
  | some (d', q) => .ok (.sh q) (e1.set i (.ow b d'))
  | none => .bad
def methSl (i : Nat) (g : D → List D → Option (D × D)) (ds : List D) (e1 : En) : Option Sl → M.R A
  | some (.ow b d) => methO i b e1 (g d ds)
  | _ => .bad
@[simp] theorem methAt_r (i : Nat) (g : D → List D → Option (D × D)) (ds : List D) (e1 : En) : methAt i g ds e1 = methSl i g ds e1 e1[i]? := by
  unfold methAt methSl
  cases e1[i]? with
  | none => rfl
  | some s => cases s with
    | ow b d => simp only; cases g d ds with
      | none => rfl
      | some p => rfl
    | _ => rfl
@[simp] theorem methSl_ow (i : Nat) (g : D → List D → Option (D × D)) (ds : List D) (e1 : En) (b : Bool) (d : D) : methSl i g ds e1 (some (.ow b d)) = methO i b e1 (g d ds) := rfl
@[simp] theorem methO_s (i : Nat) (b : Bool) (e1 : En) (d q : D) : methO i b e1 (some (d, q)) = .ok (.sh q) (e1.set i (.ow b d)) := rfl
@[simp] theorem gAppend_l (xs : List D) (y : D) : gAppend (.list xs) [y] = if small xs.length then some (.list (xs ++ [y]), .none) else none := rfl
@[simp] theorem gReverse_l (xs : List D) : gReverse (.list xs) [] = some (.list xs.reverse, .none) := rfl
@[simp] theorem sFor_r (fi : Ev (List D)) (g : Gt) (body : En → SR) (e : En) : sFor fi g body e = (fi e).st fun ds e1 => forD g body ds e1 := rfl
def listOf : D → En → M.R (List D)
  | .list ds, e => .ok ds e
  | .tuple ds, e => .ok ds e
  | _, _ => .bad
@[simp] theorem iS_r (fa : Ev A) (e : En) : iS fa e = (eHold fa e).bind fun d e1 => listOf d e1 := by
  unfold iS; refine congrArg _ ?_; funext d e1; cases d <;> rfl
@[simp] theorem listOf_l (ds : List D) (e : En) : listOf (.list ds) e = .ok ds e := rfl
@[simp] theorem listOf_t (ds : List D) (e : En) : listOf (.tuple ds) e = .ok ds e := rfl
noncomputable def rngOf : Option (List D) → En → M.R (List D)
  | some [.int n], e => if okR n then .ok (rangeD 0 n.toNat) e else .bad
  | _, _ => .bad
@[simp] theorem iR1_r (fs : Ev (List A)) (e : En) : iR1 fs e = (fs e).bind fun as e1 => rngOf (ress e1 as) e1 := by
  unfold iR1; refine congrArg _ ?_; funext as e1; unfold rngOf; generalize ress e1 as = q; revert q; intro q; rcases q with _ | ds; · rfl
  rcases ds with _ | ⟨d, ds⟩; · rfl
  rcases ds with _ | ⟨d2, ds⟩
  · cases d <;> rfl
  · cases d <;> rfl
theorem rngOf_i (n : Int) (e : En) (h : okR n = true) : rngOf (some [.int n]) e = .ok (rangeD 0 n.toNat) e := by
  unfold rngOf; simp [h]
def zipOf : List D → En → M.R (List D)
  | [.list xs, .list ys], e => .ok (zipD xs ys) e
  | [.tuple xs, .tuple ys], e => .ok (zipD xs ys) e
  | _, _ => .bad
@[simp] theorem iZ_r (fs : Ev (List A)) (e : En) : iZ fs e = (eHolds fs e).bind fun ds e1 => zipOf ds e1 := by
  unfold iZ; refine congrArg _ ?_; funext ds e1; unfold zipOf
  rcases ds with _ | ⟨d, ds⟩; · rfl
  rcases ds with _ | ⟨d2, ds⟩; · cases d <;> rfl
  rcases ds with _ | ⟨d3, ds⟩
  · cases d <;> cases d2 <;> rfl
  · cases d <;> cases d2 <;> rfl
@[simp] theorem zipOf_l (xs ys : List D) (e : En) : zipOf [.list xs, .list ys] e = .ok (zipD xs ys) e := rfl
@[simp] theorem zipOf_t (xs ys : List D) (e : En) : zipOf [.tuple xs, .tuple ys] e = .ok (zipD xs ys) e := rfl
@[simp] theorem oLc_r (fi : Ev (List D)) (g : Gt) (t : Ev Bool) (f : Ev A) (own : List Nat) (e : En) : oLc fi g t f own e = (fi e).bind fun ds e1 => lcD g t f own ds [] e1 := rfl
@[simp] theorem f1_r (g : D → Option D) (d : D) : f1 g [d] = g d := rfl
@[simp] theorem f2_r (g : D → D → Option D) (d e : D) : f2 g [d, e] = g d e := rfl
/-! ### on data -/
@[simp] theorem dAddU_i (a b : Int) : dAddU (.int a) (.int b) = some (.int (a + b)) := rfl
@[simp] theorem dSub_i (a b : Int) : dSub (.int a) (.int b) = some (.int (a - b)) := rfl
theorem dMulU_i (a b : Int) (h : a.natAbs.log2 + b.natAbs.log2 < 1000000) : dMulU (.int a) (.int b) = some (.int (a * b)) := by simp [dMulU, h]
theorem dFdiv_i (a b : Int) (h : 0 < b) (h2 : b.natAbs.log2 < 9000) : dFdiv (.int a) (.int b) = some (.int (a / b)) := by simp [dFdiv, h, h2]
theorem dMod_i (a b : Int) (h : 0 < b) : dMod (.int a) (.int b) = some (.int (a % b)) := by simp [dMod, h]
theorem dPow_i (a b : Int) (h : 0 ≤ b ∧ b ≤ 100 ∧ a.natAbs.log2 < 100000) : dPow (.int a) (.int b) = some (.int (a ^ b.toNat)) := by simp [dPow, h]
@[simp] theorem dLt_i (a b : Int) : dLt (.int a) (.int b) = some (.bool (decide (a < b))) := rfl
@[simp] theorem dLe_i (a b : Int) : dLe (.int a) (.int b) = some (.bool (decide (a ≤ b))) := rfl
@[simp] theorem dGt_i (a b : Int) : dGt (.int a) (.int b) = some (.bool (decide (b < a))) := rfl
@[simp] theorem dGe_i (a b : Int) : dGe (.int a) (.int b) = some (.bool (decide (b ≤ a))) := rfl
@[simp] theorem dEq_i (a b : Int) : dEq (.int a) (.int b) = some (.bool (a == b)) := by simp [dEq, dEqN, nd, SeqAt.shaped, PyData.canLay0, PyData.depth, PyData.eqv]
@[simp] theorem dNe_i (a b : Int) : dNe (.int a) (.int b) = some (.bool (!(a == b))) := by simp [dNe, dNeN, nd, SeqAt.shaped, PyData.canLay0, PyData.depth, PyData.eqv]
@[simp] theorem dEq_b (a b : Bool) : dEq (.bool a) (.bool b) = some (.bool (a == b)) := by simp [dEq, dEqN, nd, SeqAt.shaped, PyData.canLay0, PyData.depth, PyData.eqv]
@[simp] theorem dNe_b (a b : Bool) : dNe (.bool a) (.bool b) = some (.bool (!(a == b))) := by simp [dNe, dNeN, nd, SeqAt.shaped, PyData.canLay0, PyData.depth, PyData.eqv]
@[simp] theorem dEq_s (a b : Str) : dEq (.str a) (.str b) = some (.bool (a == b)) := rfl
@[simp] theorem dNe_s (a b : Str) : dNe (.str a) (.str b) = some (.bool (!(a == b))) := rfl
@[simp] theorem dIsN_r (d : D) : dIsN d .none = some (.bool (isN d)) := rfl
@[simp] theorem dNotN_r (d : D) : dNotN d .none = some (.bool (!isN d)) := rfl
@[simp] theorem isN_int (i : Int) : isN (.int i) = false := rfl
@[simp] theorem isN_list (i : List D) : isN (.list i) = false := rfl
@[simp] theorem isN_tup (i : List D) : isN (.tuple i) = false := rfl
@[simp] theorem isN_none : isN .none = true := rfl
@[simp] theorem dIx_l (xs : List D) (i : Int) : dIx (.list xs) (.int i) = atI xs i := rfl
@[simp] theorem dIx_t (xs : List D) (i : Int) : dIx (.tuple xs) (.int i) = atI xs i := rfl
theorem ixN_nat (n j : Nat) : ixN n (j : Int) = if j < n then some j else none := by
  unfold ixN
  by_cases h : j < n
  · simp [h]
  · simp [h]
theorem atI_natE (xs : List D) (j : Nat) : atI xs (j : Int) = xs[j]? := by
  unfold atI
  rw [ixN_nat]
  by_cases h : j < xs.length
  · rw [if_pos h]; rfl
  · rw [if_neg h, List.getElem?_eq_none (by omega)]; rfl
@[simp] theorem atI_0 (x : D) (xs : List D) : atI (x :: xs) 0 = some x := atI_natE (x :: xs) 0
@[simp] theorem atI_1 (x y : D) (xs : List D) : atI (x :: y :: xs) 1 = some y := atI_natE (x :: y :: xs) 1
@[simp] theorem atI_2 (x y z : D) (xs : List D) : atI (x :: y :: z :: xs) 2 = some z := atI_natE (x :: y :: z :: xs) 2
@[simp] theorem atI_3 (x y z u : D) (xs : List D) : atI (x :: y :: z :: u :: xs) 3 = some u := atI_natE (x :: y :: z :: u :: xs) 3
@[simp] theorem atI_4 (x y z u v : D) (xs : List D) : atI (x :: y :: z :: u :: v :: xs) 4 = some v := atI_natE (x :: y :: z :: u :: v :: xs) 4
@[simp] theorem set_0 (i : Nat) (d x : D) (e2 : En) (b : Bool) (xs : List D) : setSl i d e2 (some (.int 0)) (some (.ow b (.list (x :: xs)))) = .nx (e2.set i (.ow b (.list (d :: xs)))) := setSl_l i d e2 0 b _ 0 (ixN_nat _ 0)
@[simp] theorem set_1 (i : Nat) (d x y : D) (e2 : En) (b : Bool) (xs : List D) : setSl i d e2 (some (.int 1)) (some (.ow b (.list (x :: y :: xs)))) = .nx (e2.set i (.ow b (.list (x :: d :: xs)))) := setSl_l i d e2 1 b _ 1 (by rw [show (1 : Int) = ((1 : Nat) : Int) from rfl, ixN_nat]; simp)
@[simp] theorem set_2 (i : Nat) (d x y z : D) (e2 : En) (b : Bool) (xs : List D) : setSl i d e2 (some (.int 2)) (some (.ow b (.list (x :: y :: z :: xs)))) = .nx (e2.set i (.ow b (.list (x :: y :: d :: xs)))) := setSl_l i d e2 2 b _ 2 (by rw [show (2 : Int) = ((2 : Nat) : Int) from rfl, ixN_nat]; simp)
@[simp] theorem dLen_l (xs : List D) : dLen (.list xs) = some (.int xs.length) := rfl
@[simp] theorem dLen_t (xs : List D) : dLen (.tuple xs) = some (.int xs.length) := rfl
@[simp] theorem dMax2_i (i j : Int) : dMax2 (.int i) (.int j) = some (.int (if j > i then j else i)) := rfl
@[simp] theorem dMin2_i (i j : Int) : dMin2 (.int i) (.int j) = some (.int (if j < i then j else i)) := rfl
@[simp] theorem dInt_b (b : Bool) : dInt (.bool b) = some (.int (if b then 1 else 0)) := rfl
@[simp] theorem dTuple_l (xs : List D) : dTuple (.list xs) = some (.tuple xs) := rfl
@[simp] theorem dTuple_t (xs : List D) : dTuple (.tuple xs) = some (.tuple xs) := rfl
@[simp] theorem small_lit (n : Nat) : small n = decide (n ≤ 1000000) := rfl
/-- a loop keeps its invariant -/
theorem for_inv {g : Gt} {body : En → SR} (I : Nat → En → Prop) : ∀ (ds : List D) (n : Nat) (e : En), I n e →
    (∀ j d e, ds[j]? = some d → I (n + j) e → ∃ e1 e2, g d e = some e1 ∧ (body e1 = .nx e2 ∨ body e1 = .ct e2) ∧ I (n + j + 1) e2) → ∃ e', forD g body ds e = .nx e' ∧ I (n + ds.length) e'
  | [], n, e, h0, _ => ⟨e, rfl, h0⟩
  | d :: ds, n, e, h0, h => by
    obtain ⟨e1, e2, a, b, c⟩ := h 0 d e rfl h0
    obtain ⟨e', q, r⟩ := for_inv I ds (n + 1) e2 c fun j d e hj hi => by
      have := h (j + 1) d e (by simpa using hj) (by rw [show n + (j + 1) = n + 1 + j by omega]; exact hi)
      rw [show n + (j + 1) + 1 = n + 1 + j + 1 by omega] at this
      exact this
    refine ⟨e', ?_, by rw [show n + (d :: ds).length = n + 1 + ds.length by simp; omega]; exact r⟩
    rw [← q]; unfold forD; rw [a]; rcases b with b | b <;> simp only [b] <;> (cases ds <;> rfl)
theorem range_at {lo : Int} {n j : Nat} {d : D} (h : (rangeD lo n)[j]? = some d) : d = .int (lo + j) ∧ j < n := by
  unfold rangeD at h
  rw [List.getElem?_map] at h
  by_cases q : j < n
  · rw [List.getElem?_range q] at h; simp at h; exact ⟨h.symm, q⟩
  · rw [List.getElem?_eq_none (by simp; omega)] at h; simp at h
@[simp] theorem range_len (lo : Int) (n : Nat) : (rangeD lo n).length = n := by simp [rangeD]
end
end M
set_option Elab.async false
set_option linter.all false
set_option maxRecDepth 100000
set_option autoImplicit false
/-! M15: how long a shown datum can be -/
namespace M
open PySem PySem.Spec PyProof.Rows L2
mutual
def wt : D → Nat
  | .none => 4
  | .bool _ => 5
  | .int _ => 1921
  | .str s => (PyData.str s).shown.length
  | .list xs => 2 + wts xs
  | .tuple xs => 3 + wts xs
  | .dict kvs => (PyData.dict kvs).shown.length
def wts : List D → Nat
  | [] => 0
  | x :: xs => wt x + 2 + wts xs
end
theorem textFrom_le : ∀ (ts : List Str) (k : Nat) (acc : Str), (textFrom k acc ts).length ≤ acc.length + (ts.map fun t => t.length + 2).sum
  | [], _, acc => by simp [textFrom]
  | t :: ts, k, acc => by
    unfold textFrom
    refine Nat.le_trans (textFrom_le ts _ _) ?_
    rw [strLen_append, strLen_append]
    have : (Str.ofString (if k > 0 then ", " else "")).length ≤ 2 := by rw [PySem.ofString_length]; split <;> decide
    simp only [List.map_cons, List.sum_cons]
    omega
theorem join_le : ∀ (ts : List Str), ((Str.ofString ", ").join ts).length ≤ (ts.map fun t => t.length + 2).sum
  | [] => by simp [Str.join, Str.empty, Str.length]
  | [t] => by simp [Str.join]
  | t :: u :: ts => by
    have := join_le (u :: ts)
    unfold Str.join
    rw [strLen_append, strLen_append, PySem.ofString_length]
    simp only [List.map_cons, List.sum_cons] at *
    have : (", " : String).length = 2 := by decide
    omega
mutual
theorem shown_le : ∀ d : D, d.showable = true → d.shown.length ≤ wt d
  | .none, _ => by simp [PyData.shown, wt, PySem.ofString_length]; decide
  | .bool b, _ => by cases b <;> simp [PyData.shown, wt, PySem.ofString_length] <;> decide
  | .int i, h => by
    simp only [PyData.showable, decide_eq_true_eq] at h
    simp only [PyData.shown, wt]; exact int_text_len_1921 h
  | .str s, _ => by unfold wt; exact Nat.le_refl _
  | .dict s, _ => by unfold wt; exact Nat.le_refl _
  | .list xs, h => by
    simp only [PyData.showable] at h
    simp only [PyData.shown, wt, listText]
    rw [strLen_append, PySem.ofString_length]
    have := textFrom_le (PyData.shownAll xs) 0 (Str.ofString "[")
    have := shownAll_le xs h
    have : (Str.ofString "[").length = 1 := by rw [PySem.ofString_length]; decide
    have : ("]" : String).length = 1 := by decide
    omega
  | .tuple xs, h => by
    simp only [PyData.showable] at h
    simp only [PyData.shown, wt, tupleText]
    rw [strLen_append, strLen_append, PySem.ofString_length, PySem.ofString_length]
    have := join_le (PyData.shownAll xs)
    have := shownAll_le xs h
    have : ("(" : String).length = 1 := by decide
    have : (if ((PyData.shownAll xs).length == 1) = true then ",)" else ")" : String).length ≤ 2 := by split <;> decide
    omega
theorem shownAll_le : ∀ xs : List D, PyData.showableAll xs = true → ((PyData.shownAll xs).map fun t => t.length + 2).sum ≤ wts xs
  | [], _ => by simp [PyData.shownAll, wts]
  | x :: xs, h => by
    simp only [PyData.showableAll, Bool.and_eq_true] at h
    have a := shown_le x h.1
    have b := shownAll_le xs h.2
    simp only [PyData.shownAll, wts, List.map_cons, List.sum_cons]
    omega
end
theorem dRepr_ok {d : D} (h1 : isSeqD d = true) (h2 : nd d = true) (h3 : d.showable = true) (h4 : d.depth ≤ 60) (h5 : wt d ≤ 1000000) : dRepr d = some (.str d.shown) := by
  unfold dRepr
  have := shown_le d h3
  rw [if_pos]
  simp [h1, h2, h3, h4, small]; omega
theorem wts_le {n : Nat} : ∀ {xs : List D}, (∀ x ∈ xs, wt x ≤ n) → wts xs ≤ (n + 2) * xs.length
  | [], _ => by simp [wts]
  | x :: xs, h => by
    have := wts_le (n := n) (xs := xs) fun y hy => h y (List.mem_cons_of_mem _ hy)
    have := h x (List.mem_cons_self ..)
    simp only [wts, List.length_cons, Nat.mul_succ]; omega
theorem showableAll_all : ∀ {xs : List D}, (∀ x ∈ xs, x.showable = true) → PyData.showableAll xs = true
  | [], _ => rfl
  | x :: xs, h => by
    simp only [PyData.showableAll, Bool.and_eq_true]
    exact ⟨h x (List.mem_cons_self ..), showableAll_all fun y hy => h y (List.mem_cons_of_mem _ hy)⟩
theorem nds_all : ∀ {xs : List D}, (∀ x ∈ xs, nd x = true) → nds xs = true
  | [], _ => rfl
  | x :: xs, h => by
    simp only [nds, Bool.and_eq_true]
    exact ⟨h x (List.mem_cons_self ..), nds_all fun y hy => h y (List.mem_cons_of_mem _ hy)⟩
theorem depthAll_le {n : Nat} : ∀ {xs : List D}, (∀ x ∈ xs, x.depth ≤ n) → PyData.depthAll xs ≤ n
  | [], _ => by simp [PyData.depthAll]
  | x :: xs, h => by
    have := h x (List.mem_cons_self ..)
    have := depthAll_le (n := n) (xs := xs) fun y hy => h y (List.mem_cons_of_mem _ hy)
    simp only [PyData.depthAll]; omega
theorem layAll_all : ∀ {xs : List D}, (∀ x ∈ xs, x.canLay0 = true) → PyData.canLayAll0 xs = true
  | [], _ => rfl
  | x :: xs, h => by
    simp only [PyData.canLayAll0, Bool.and_eq_true]
    exact ⟨h x (List.mem_cons_self ..), layAll_all fun y hy => h y (List.mem_cons_of_mem _ hy)⟩
theorem okR_of {n : Int} (h0 : -1000000 ≤ n) (h : n ≤ 1000000) : okR n = true := by
  rw [okR_d, decide_eq_true_eq]; constructor
  · exact Int.le_trans (by decide) h0
  · exact Int.lt_of_le_of_lt h (by decide)
/-- a comprehension that leaves its places as they were -/
theorem lc_map {g : Gt} {t : Ev Bool} {f : Ev A} {own : List Nat} {e : En} (φ : D → D) : ∀ (ds : List D) (acc : List D), acc.length + ds.length ≤ 1000000 →
    (∀ d ∈ ds, ∃ e1 e2 e3, g d (wipeE own e) = some e1 ∧ t e1 = .ok true e2 ∧ eHold f e2 = .ok (φ d) e3 ∧ restE own e e3 = e) → lcD g t f own ds acc e = .ok (.list (acc ++ ds.map φ)) e
  | [], acc, _, _ => by simp [lcD]
  | d :: ds, acc, h, k => by
    obtain ⟨e1, e2, e3, a, b, c, r⟩ := k d (List.mem_cons_self ..)
    have ih := lc_map φ ds (acc ++ [φ d]) (by simp at *; omega) fun d h => k d (List.mem_cons_of_mem _ h)
    have hs : acc.length + 1 ≤ 1000000 := by simp at h; omega
    unfold lcD
    rw [a]
    simp only [b, nox_ok, R_ok, if_true, c, small, decide_eq_true_eq, if_pos hs, r, ih]
    simp
noncomputable def viewSl (i : Nat) (f : Ev A) (e : En) : Option Sl → M.R A
  | some (.ow b d) => (f (e.set i (.sh d))).nox.bind fun a e2 => viewEnd i b d e a e2
  | _ => f e
@[simp] theorem eView_r (i : Nat) (f : Ev A) (e : En) : eView i f e = viewSl i f e e[i]? := by unfold eView viewSl; rfl
@[simp] theorem viewSl_ow (i : Nat) (f : Ev A) (e : En) (b : Bool) (d : D) : viewSl i f e (some (.ow b d)) = (f (e.set i (.sh d))).nox.bind fun a e2 => viewEnd i b d e a e2 := rfl
@[simp] theorem viewSl_sh (i : Nat) (f : Ev A) (e : En) (d : D) : viewSl i f e (some (.sh d)) = f e := rfl
theorem viewEnd_ok (i : Nat) (b : Bool) (d : D) (e : En) (q : D) (e2 : En) (hf : flatD q = true) (h : okE i e e2) : viewEnd i b d e (.sh q) e2 = .ok (.sh q) (e2.set i (.ow b d)) := if_pos ⟨hf, h⟩
theorem kb_il : kitB "int" "list" = some false := by decide +kernel
theorem kb_it : kitB "int" "tuple" = some false := by decide +kernel
theorem kb_ib : kitB "int" "bool" = some false := by decide +kernel
theorem kb_ll : kitB "list" "list" = some true := by decide +kernel
theorem kb_lt : kitB "list" "tuple" = some false := by decide +kernel
theorem kb_lb : kitB "list" "bool" = some false := by decide +kernel
theorem kb_tl : kitB "tuple" "list" = some false := by decide +kernel
theorem kb_tt : kitB "tuple" "tuple" = some true := by decide +kernel
theorem kb_tb : kitB "tuple" "bool" = some false := by decide +kernel
theorem kb_bl : kitB "bool" "list" = some false := by decide +kernel
theorem kb_bt : kitB "bool" "tuple" = some false := by decide +kernel
theorem kb_bb : kitB "bool" "bool" = some true := by decide +kernel
end M
set_option Elab.async false
set_option linter.all false
set_option maxRecDepth 100000
set_option autoImplicit false
/-! M16: a call whose one argument is a fresh own thing -/
namespace M
open PySem PySem.Spec PyProof.Rows L2
section
variable {K : PySem.W.Frag} {G : Gd} {en : En} {F H : Hp} {σ : L2.St} {d : D} {v : V}
theorem snoc_at {α : Type} {xs : List α} {x y : α} {i : Nat} (h : (xs ++ [x])[i]? = some y) : xs[i]? = some y ∨ (i = xs.length ∧ y = x) := by
  rcases Nat.lt_trichotomy i xs.length with q | q | q
  · rw [List.getElem?_append_left q] at h; exact .inl h
  · subst q; simp at h; exact .inr ⟨rfl, h.symm⟩
  · rw [List.getElem?_eq_none (by simp; omega)] at h; cases h
/-- a fresh own thing gets a place of its own beside the frame -/
theorem Rel.ext (R : Rel K G en F H σ) (n : NewAt G en K F H σ d v) : Rel K G (en ++ [.ow false d]) F H (σ ++ [some v]) := by
  obtain ⟨p, rfl, fp, ow, hp, nd⟩ := n
  have lft : ∀ {i : Nat} {s : Sl}, en[i]? = some s → (σ ++ [some (.ref p)])[i]? = σ[i]? := fun {i s} z => by
    have := (List.getElem?_eq_some_iff.1 z).1
    rw [List.getElem?_append_left (by rw [← R.len]; exact this)]
  have lst : (σ ++ [some (V.ref p)])[en.length]? = some (some (.ref p)) := by rw [R.len]; simp
  refine ⟨by simp [R.len], fun i s z => ?_, fun i j b c d1 d2 q h1 h2 h3 h4 => ?_, fun i b d1 q h1 h2 => ?_, R.fh, R.f0, R.nw, R.bs, R.as, fun i d1 z => ?_⟩
  · rcases snoc_at z with z | ⟨rfl, rfl⟩
    · rw [lft z]; exact R.sl i s z
    · rw [lst]; exact ⟨p, rfl, fp, ow⟩
  · rcases snoc_at h1 with h1 | ⟨rfl, e1⟩
    · rw [lft h1] at h3
      rcases snoc_at h2 with h2 | ⟨rfl, e2⟩
      · rw [lft h2] at h4; exact R.dj i j b c d1 d2 q h1 h2 h3 h4
      · rw [lst] at h4; cases h4; exact (nd i b d1 h1 h3).elim
    · rw [lst] at h3; cases h3
      rcases snoc_at h2 with h2 | ⟨rfl, e2⟩
      · rw [lft h2] at h4; exact (nd j c d2 h2 h4).elim
      · rfl
  · rcases snoc_at h1 with h1 | ⟨rfl, e1⟩
    · rw [lft h1] at h2; exact R.mn i b d1 q h1 h2
    · cases e1; rw [lst] at h2; cases h2; exact hp
  · rcases snoc_at z with z | ⟨_, e1⟩
    · rw [lft z]; exact R.ar i d1 z
    · cases e1
theorem Rel.cut {e2 : En} {x : Option V} (R : Rel K G e2 F H (σ ++ [x])) : Rel K G (e2.take σ.length) F H σ := by
  have l : e2.length = σ.length + 1 := by rw [R.len]; simp
  have at' : ∀ {i : Nat} {s : Sl}, (e2.take σ.length)[i]? = some s → e2[i]? = some s ∧ (σ ++ [x])[i]? = σ[i]? := fun {i s} z => by
    have hi : i < σ.length := by have := (List.getElem?_eq_some_iff.1 z).1; simp at this; omega
    rw [List.getElem?_take_of_lt hi] at z
    exact ⟨z, List.getElem?_append_left hi⟩
  refine ⟨by simp; omega, fun i s z => ?_, fun i j b c d1 d2 q h1 h2 h3 h4 => ?_, fun i b d1 q h1 h2 => ?_, R.fh, R.f0, R.nw, R.bs, R.as, fun i d1 z => ?_⟩
  · obtain ⟨a, b⟩ := at' z; rw [← b]; exact R.sl i s a
  · obtain ⟨a1, b1⟩ := at' h1; obtain ⟨a2, b2⟩ := at' h2
    exact R.dj i j b c d1 d2 q a1 a2 (b1.trans h3) (b2.trans h4)
  · obtain ⟨a1, b1⟩ := at' h1; exact R.mn i b d1 q a1 (b1.trans h2)
  · obtain ⟨a1, b1⟩ := at' z; rw [← b1]; exact R.ar i d1 a1
end
def eCallO (Fd : List Sl → Rt) (f : Ev D) : Ev A := fun e => (f e).bind fun d e1 => (callRt Fd [.bor e1.length] (e1 ++ [.ow false d])).bind fun p e2 => .ok (.sh p.2) (e2.take e1.length)
@[simp] theorem eCallO_r (Fd : List Sl → Rt) (f : Ev D) (e : En) : eCallO Fd f e = (f e).bind fun d e1 => (callRt Fd [.bor e1.length] (e1 ++ [.ow false d])).bind fun p e2 => .ok (.sh p.2) (e2.take e1.length) := rfl
section
variable {X : Cx} {W : WX} {CX : CXT} {k : Nat} {f : Addr} {fd : FuncData} {ps : List Str} {x : Str} {p pos : Pos} {a : Expr} {fa : Ev D} {Fd : List Sl → Rt}
theorem dx_callO (hF : FnG X.prog X.w X.K X.mg X.base CX0 k f fd ps (spD X.K X.mg ps.length Fd)) (kp : Keeps Fd) (nx : NoX Fd) (hr : Room k X.A) (gd : X.A.guards = some []) (hm : X.mg x = some (.ref f)) (hk : PySem.W.keepIn X.K (.ref f) = true) (hb : Binds X.K fd ps [])
    (ha : DO X W a fa) (hn : 1 = ps.length) (hg : Gl X x := by rfl) (hdb : (x == ("__debug__" : Str)) = false := by decide) (he : starEach [a] X.env = (false, eval a X.env) :: starEach [] X.env := by rfl) (hpl : (backTo pos (starEach [] X.env)).any (·.1) = false := by rfl) :
    DX X W (.Call (.Name x p) [a] [] pos) (eCallO Fd fa) := by
  obtain ⟨t, pt, q⟩ := ha.ex
  refine ⟨_, pe_callG hF hr gd hg hm hk hb (pa_cons pt pa_nil he) hdb he hpl, fun G en F H σ Q R h => q G en F H σ _ R ?_⟩
  unfold eCallO at h
  cases z : fa en with
  | bad => rw [z] at h; exact h
  | ex y e1 => rw [z] at h; exact h
  | ok d e1 =>
    rw [z] at h
    intro v F1 H1 R1 s1 n1
    have hlen : e1.length = σ.length := R1.len
    have o1 : AsOk X.K F1 (σ ++ [some v]) [.bor e1.length] [v] := ⟨v, [], rfl, by show (σ ++ [some v])[e1.length]? = _; rw [hlen]; simp, rfl⟩
    refine call_run (Post := fun _ r => PE1 X W G F σ r Q) (as := [.bor e1.length]) kp hn (R1.ext n1) o1 (fun w => w) h (fun o d' e2 v' F' H' R' s' ro w => ?_) (fun y e2 cls dd F' H' w => ?_)
    · obtain ⟨F2, R2, s2, r2⟩ := rt_frz R' ro
      have R3 := R2.cut
      rw [← hlen] at R3
      exact w v' F2 H' R3 (s1.trans (s'.trans s2)) r2
    · obtain ⟨ss, as', w⟩ := w
      exact (nx ss y as' w).elim
theorem dx_callCO (C : CallOk X.prog X.w X.K X.mg X.base k x ps Fd) (kp : Keeps Fd) (nx : NoX Fd) (hr : Room k X.A) (gd : X.A.guards = some []) (ha : DO X W a fa) (hn : 1 = ps.length) (hg : Gl X x := by rfl) (hdb : (x == ("__debug__" : Str)) = false := by decide)
    (he : starEach [a] X.env = (false, eval a X.env) :: starEach [] X.env := by rfl) (hpl : (backTo pos (starEach [] X.env)).any (·.1) = false := by rfl) : DX X W (.Call (.Name x p) [a] [] pos) (eCallO Fd fa) := by
  obtain ⟨f, fd, h1, h2, h3, h4⟩ := C.ex
  exact dx_callO h1 kp nx hr gd h2 h3 h4 ha hn hg hdb he hpl
end
end M
set_option Elab.async false
set_option linter.all false
set_option maxRecDepth 100000
set_option autoImplicit false
/-! M17: arguments by name, all parameters given in their order -/
namespace M
open PySem PySem.Spec PyProof.Rows L2
/-- j by position, the rest by name -/
def KwB (fd : FuncData) (ps : List Str) (j : Nat) : Prop := ∀ us ws : List Value, us.length = j → ws.length = ps.length - j → bindArgs fd ⟨us, (ps.drop j).zip ws⟩ = pure (ps.zip (us ++ ws))
section
variable {P : Program} {w : World} {K : PySem.W.Frag} {mg : Str → Option Value} {bs : Heap}
structure FunKw (K : PySem.W.Frag) (mg : Str → Option Value) (x qual : Str) (st : Stmt) (ps : List Str) (j : Nat) : Prop where
  ex : ∃ f fd, Fun K x qual st f fd ∧ mg x = some (.ref f) ∧ Binds K fd ps [] ∧ KwB fd ps j
structure CallKw (P : Program) (w : World) (K : PySem.W.Frag) (mg : Str → Option Value) (bs : Heap) (k : Nat) (x : Str) (ps : List Str) (j : Nat) (Fd : List Sl → Rt) : Prop where
  ex : ∃ f fd, FnG P w K mg bs CX0 k f fd ps (spD K mg ps.length Fd) ∧ mg x = some (.ref f) ∧ PySem.W.keepIn K (.ref f) = true ∧ Binds K fd ps [] ∧ KwB fd ps j
theorem CallKw.toCall {j k : Nat} {x : Str} {ps : List Str} {Fd : List Sl → Rt} (c : CallKw P w K mg bs k x ps j Fd) : CallOk P w K mg bs k x ps Fd := by
  obtain ⟨f, fd, h1, h2, h3, h4, _⟩ := c.ex
  exact ⟨f, fd, h1, h2, h3, h4⟩
theorem fun_okK {x qual : Str} {st : Stmt} {N ps : List Str} {j k : Nat} {body : En → SR} (F : FunKw K mg x qual st ps j) (S : FnScope N ps (defScope st)) (hps : ps.length ≤ N.length)
    (hbody : ∀ (f : Addr) (cdv : Value) (A : Around) (out : List PySem.Env) (s : Shared) (H : Hp) (E : XK), Room k (A.deeper (envOfC qual (defScope st) s.heap.objs.size f cdv)) → (A.deeper (envOfC qual (defScope st) s.heap.objs.size f cdv)).guards = some [] →
      DSs (cxOf CX0 P w K mg bs N qual (defScope st) f cdv A out s H E).nox WX0 (defBody st) body) : CallKw P w K mg bs (k + 1) x ps j (run0 N.length body) := by
  obtain ⟨f, fd, h1, h2, h3, h4⟩ := F.ex
  exact ⟨f, fd, def_ok h1 S hps (fun cdv A out s H E hr gd => hbody f cdv A out s H E hr gd), h2, h1.kp, h3, h4⟩
end
section
variable {X : Cx} {W : WX} {k : Nat} {f : Addr} {fd : FuncData} {ps : List Str} {x : Str} {p pos kpos : Pos} {a e : Expr} {es : List Expr} {kws : List Keyword} {fa : Ev A} {fs gs : Ev (List A)} {Fd : List Sl → Rt} {sp : Sp} {t tk : TA} {nm : Option Str} {j : Nat}
theorem runKG {pins : List (Addr × Obj)} {σ : L2.St} {H : Hp} {s : Shared} {Q : VK} {us ws : List Value} {vs zs : List V} (F : FnG X.prog X.w X.K X.mg X.base CX0 k f fd ps sp) (r : Room k X.A) (gd : X.A.guards = some []) (hb : KwB fd ps j) (hj : vs.length = j)
    (I : Inv X pins σ H s) (rv : Vals vs us) (rz : Vals zs ws) (h : sp (vs ++ zs) H Q E0) : wpAny (model X.prog X.w) X.A (call (.ref f) us ((ps.drop j).zip ws)) (EP X pins σ Q) X.xe s := by
  have r2 : Vals (vs ++ zs) (us ++ ws) := rv.append rz
  have l1 : (us ++ ws).length = ps.length := by rw [← r2.length]; exact F.len _ _ _ _ h
  have l2 : us.length = j := by rw [← rv.length]; exact hj
  have b1 : BindsTo s fd ⟨us, (ps.drop j).zip ws⟩ (ps.zip (us ++ ws)) := .of_eq (hb us ws l2 (by rw [List.length_append] at l1; omega))
  refine wpAny_call (codeAny_mono (F.run X.A X.stack s H ⟨us, (ps.drop j).zip ws⟩ (us ++ ws) (vs ++ zs) Q E0 r gd I.env0 b1 r2 h) fun res s1 q => ?_)
  cases res with
  | error e => exact False.elim q
  | ok fl =>
    cases fl with
    | ret u => exact I.after q
    | _ => exact False.elim q
theorem pe_callKG0 (F : FnG X.prog X.w X.K X.mg X.base CX0 k f fd ps sp) (r : Room k X.A) (gd : X.A.guards = some []) (hg : Gl X x) (hm : X.mg x = some (.ref f)) (hk : PySem.W.keepIn X.K (.ref f) = true) (hb : KwB fd ps 0)
    (hkw : PK X kws tk) (hall : (backToKw pos (keywordEach kws X.env)).all (·.1.isSome) = true := by rfl) (hks : (backToKw pos (keywordEach kws X.env)).filterMap (·.1) = ps := by rfl)
    (hdb : (x == ("__debug__" : Str)) = false := by decide) (hpl : ((backTo pos (starEach [] X.env)).any (·.1) || (backToKw pos (keywordEach kws X.env)).any (·.1.isNone)) = false := by rfl) :
    PE X (.Call (.Name x p) [] kws pos) (fun σ H Q => tk σ H fun zs H1 => sp zs H1 Q E0) := by
  refine ⟨fun pins s σ H Q I h => ?_⟩
  refine wpAny_Call_Name_kw (ld_glob I hg hm ?_ hdb)
  refine PySem.W.callWith_KW0 (h₀ := X.base) I.ok.mod.kin hk hall (thn (hkw.run pos pins s σ H _ I h) fun ws s2 ⟨zs, H2, I2, rz, q2⟩ => ⟨I2.kIn, ?_⟩) hpl
  rw [hks]
  exact runKG (us := []) (vs := []) F r gd hb rfl I2 .nil rz q2
/-- the keywords' values -/
structure DK (X : Cx) (W : WX) (kws : List Keyword) (f : Ev (List A)) : Prop where
  ex : ∃ t : TA, PK X kws t ∧ ∀ (G : Gd) (en : En) (F H : Hp) (σ : L2.St) (Q : List V → Hp → Prop), Rel X.K G en F H σ → PA1 X W G F σ (f en) Q → t σ H Q
theorem dk_nil : DK X W [] eNil := ⟨_, pk_nil, fun G en F H σ Q R q => q [] F H R (.refl _) rfl⟩
theorem dk_cons (ha : DX X W a fa) (hr : DK X W kws fs) : DK X W (⟨nm, a, kpos⟩ :: kws) (eCons fa fs) := by
  obtain ⟨ta, pa, qa⟩ := ha.ex
  obtain ⟨tb, pb, qb⟩ := hr.ex
  refine ⟨_, pk_cons pa pb, fun G en F H σ Q R q => qa G en F H σ _ R (q.bind fun x e1 v F1 H1 R1 s1 o1 q1 => qb G e1 F1 H1 σ _ R1 (q1.bind fun y e2 w F2 H2 R2 s2 o2 q2 => ?_))⟩
  exact q2 (v :: w) F2 H2 R2 (.refl _) ⟨v, w, rfl, o1.mono s2, o2⟩
theorem dx_callK0 (hF : FnG X.prog X.w X.K X.mg X.base CX0 k f fd ps (spD X.K X.mg ps.length Fd)) (kp : Keeps Fd) (nx : NoX Fd) (hr : Room k X.A) (gd : X.A.guards = some []) (hm : X.mg x = some (.ref f)) (hk : PySem.W.keepIn X.K (.ref f) = true) (hb : KwB fd ps 0)
    (ha : DK X W kws fs) (hn : ∀ en as e1, fs en = .ok as e1 → as.length = ps.length) (hg : Gl X x := by rfl) (hall : (backToKw pos (keywordEach kws X.env)).all (·.1.isSome) = true := by rfl) (hks : (backToKw pos (keywordEach kws X.env)).filterMap (·.1) = ps := by rfl)
    (hdb : (x == ("__debug__" : Str)) = false := by decide) (hpl : ((backTo pos (starEach [] X.env)).any (·.1) || (backToKw pos (keywordEach kws X.env)).any (·.1.isNone)) = false := by rfl) :
    DX X W (.Call (.Name x p) [] kws pos) (eCall Fd fs) := by
  obtain ⟨t, pt, q⟩ := ha.ex
  refine ⟨_, pe_callKG0 hF hr gd hg hm hk hb pt hall hks hdb hpl, fun G en F H σ Q R h => q G en F H σ _ R ?_⟩
  unfold eCall at h
  cases z : fs en with
  | bad => rw [z] at h; exact h
  | ex y e1 => rw [z] at h; exact h
  | ok as e1 =>
    rw [z] at h
    intro vs F1 H1 R1 s1 o1
    refine call_run (Post := fun _ r => PE1 X W G F σ r Q) kp (hn en as e1 z) R1 o1 (fun w => w) h (fun o d e2 v F' H' R' s' ro w => ?_) (fun y e2 cls dd F' H' w => ?_)
    · obtain ⟨F2, R2, s2, r2⟩ := rt_frz R' ro
      exact w v F2 H' R2 (s1.trans (s'.trans s2)) r2
    · obtain ⟨ss, as', w⟩ := w
      exact (nx ss y as' w).elim
theorem dx_callCK (C : CallKw X.prog X.w X.K X.mg X.base k x ps 0 Fd) (kp : Keeps Fd) (nx : NoX Fd) (hr : Room k X.A) (gd : X.A.guards = some []) (ha : DK X W kws fs) (hn : ∀ en as e1, fs en = .ok as e1 → as.length = ps.length) (hg : Gl X x := by rfl)
    (hall : (backToKw pos (keywordEach kws X.env)).all (·.1.isSome) = true := by rfl) (hks : (backToKw pos (keywordEach kws X.env)).filterMap (·.1) = ps := by rfl)
    (hdb : (x == ("__debug__" : Str)) = false := by decide) (hpl : ((backTo pos (starEach [] X.env)).any (·.1) || (backToKw pos (keywordEach kws X.env)).any (·.1.isNone)) = false := by rfl) : DX X W (.Call (.Name x p) [] kws pos) (eCall Fd fs) := by
  obtain ⟨f, fd, h1, h2, h3, h4, h5⟩ := C.ex
  exact dx_callK0 h1 kp nx hr gd h2 h3 h5 ha hn hg hall hks hdb hpl
end
end M
set_option Elab.async false
set_option linter.all false
set_option maxRecDepth 100000
set_option maxHeartbeats 4000000
set_option autoImplicit false
/-! M18: a tuple so many times; is, of truths -/
namespace M
open PySem PySem.Spec PyProof.Rows L2
theorem tuple_once (l : Addr) (items : Array Value) (n : Nat) (dd : Option Addr) (sl : Array (Option Value)) (u : Tok) :
    Meets (Builtin.«tuple.__mul__» ⟨[.ref l, .int 1 u], []⟩) (fun _ R s => s.heap.get? l = some { cls := .type "tuple", dict := dd, data := .seq items n, slots := sl } ∧ R (.ok (.ret (Value.ref l))) s) :=
  .of_wp fun prog w A R s h => by
    obtain ⟨hp, g, d, tk, os⟩ := s
    obtain ⟨hl, h⟩ := h
    have f1 := AutoSeq1.idx_int
    have c0 : (decide ((1 : Int) < -(2 ^ 63)) || decide ((1 : Int) ≥ 2 ^ 63)) = false := by decide
    have c1 : (items.isEmpty || (1 : Int) == 1) = true := by simp
    wp_walk using wpAny_loadPart' hl
    repeat (first
      | (refine wpAny_ite_false (decide_eq_false (by rw [c0]; exact Bool.false_ne_true)) ?_; wp_walk using wpAny_loadPart' hl)
      | (refine wpAny_ite_true (decide_eq_true c1) ?_; wp_walk using wpAny_loadPart' hl))
    exact ⟨_, rfl, h⟩
section
variable {X : Cx} {K : PySem.W.Frag}
theorem op_onceT : OpR X (binaryOp .Mult) (fun x y H Q => ∃ l xs, x = V.ref l ∧ y = V.int 1 ∧ SqT X.K H l xs ∧ Q (.ref l) H) := by
  intro pins s σ H x y v u Q I rx ry h
  obtain ⟨l, xs, rfl, rfl, hT, q⟩ := h
  cases rx
  obtain ⟨t, rfl⟩ := ry
  obtain ⟨its, r, ⟨⟨cls, dd, data, sl⟩, ho, hc, n, hd⟩, hs⟩ := I.tuple hT
  simp only at hc hd
  subst hc hd
  refine wpAny_binaryOp_repeat_ref (T := "tuple") (U := "int") (by decide) ⟨_, ho, rfl⟩ (fun s' => typeIs_int s' 1 t) noFill_tuple_mul F.fills_int_mul F.slot_int_rmul repeat_tuple F.slot_int_index.lookup
    (call_meets F.slot_int_rmul (typeIs_int s 1 t) F.entry_int_rmul (F.args_int_rmul_2 _ _) (int_rmul_tuple 1 t l its.toArray n dd sl)
      ⟨ho, rfl, ⟨_, ho, rfl⟩, call_meets F.slot_tuple_mul ⟨_, ho, rfl⟩ F.entry_tuple_mul (F.args_tuple_mul_2 _ _) (tuple_once l its.toArray n dd sl t) ⟨ho, ?_⟩⟩)
  exact ⟨.ref l, H, I, rfl, q⟩
theorem Reps.times {F : Hp} {vs : List V} {ds : List D} (r : Reps K F vs ds) : ∀ n : Nat, Reps K F (List.replicate n vs).flatten (List.replicate n ds).flatten
  | 0 => .nil
  | n + 1 => by rw [List.replicate_succ, List.replicate_succ, List.flatten_cons, List.flatten_cons]; exact r.append (Reps.times r n)
def dMulT : D → D → Option D
  | .tuple xs, .int k => if k = 1 then some (.tuple xs) else if xs ≠ [] ∧ 2 ≤ k ∧ k ≤ 1000 ∧ xs.length ≤ 1000 then some (.tuple (List.replicate k.toNat xs).flatten) else none
  | _, _ => none
theorem dMulT_i (xs : List D) (k : Int) (h : xs ≠ [] ∧ 1 ≤ k ∧ k ≤ 1000 ∧ xs.length ≤ 1000) : dMulT (.tuple xs) (.int k) = some (.tuple (List.replicate k.toNat xs).flatten) := by
  unfold dMulT
  by_cases h1 : k = 1
  · subst h1; simp
  · simp only; rw [if_neg h1, if_pos ⟨h.1, by omega, h.2.2.1, h.2.2.2⟩]
abbrev rMulT (K : PySem.W.Frag) : R2 := fun x y H Q => (∃ l xs, x = V.ref l ∧ y = V.int 1 ∧ SqT K H l xs ∧ Q (.ref l) H) ∨ rRepT K x y H Q
theorem op_mulT : OpR X (binaryOp .Mult) (rMulT X.K) := op_onceT.or op_repT
theorem opd_mulT : OpD K (rMulT K) dMulT := by
  intro F H x y d e q Q sF hx hy hg k
  unfold dMulT at hg
  split at hg
  · rename_i xs i
    obtain ⟨l, vs, rfl, hs, r⟩ := hx.tup sF
    rw [hy.int]
    by_cases h1 : i = 1
    · rw [if_pos h1] at hg; cases hg; subst h1
      have rp : Rep K F (.ref l) (.tuple xs) := by
        rcases hx with q | ⟨_, _, q⟩
        · exact q
        · exact q.elim
      exact .inl ⟨l, vs, rfl, rfl, hs, k _ F H (.refl sF) rp⟩
    · rw [if_neg h1] at hg
      split at hg
      · rename_i hz
        cases hg
        have len := r.length
        refine .inr ⟨l, i, vs, rfl, rfl, hs, fun z => hz.1 (List.eq_nil_of_length_eq_zero (by rw [← len, z]; rfl)), hz.2.1, hz.2.2.1, by rw [len]; exact hz.2.2.2, fun p np => ?_⟩
        have g := Grow.alloc (o := .tup (List.replicate i.toNat vs).flatten) sF np
        exact k (.ref p) _ _ g (.tup (.inl (.inl upd_same)) ((r.times i.toNat).mono g.f))
      · cases hg
  · cases hg
def dIsB : D → D → Option D
  | .bool a, .bool b => some (.bool (decide (a = b)))
  | _, _ => none
def dNotB : D → D → Option D
  | .bool a, .bool b => some (.bool (!decide (a = b)))
  | _, _ => none
@[simp] theorem dIsB_r (a b : Bool) : dIsB (.bool a) (.bool b) = some (.bool (decide (a = b))) := rfl
@[simp] theorem dNotB_r (a b : Bool) : dNotB (.bool a) (.bool b) = some (.bool (!decide (a = b))) := rfl
theorem opd_isB : OpD K (fun x y H Q => ∃ a b, x = .bl a ∧ y = .bl b ∧ Q (.bl (decide (a = b))) H) dIsB := by
  intro F H x y d e q Q sF hx hy hg k
  unfold dIsB at hg
  split at hg
  · cases hg
    rw [hx.bool, hy.bool]
    exact ⟨_, _, rfl, rfl, k _ F H (.refl sF) (.bl _)⟩
  · cases hg
theorem opd_notB : OpD K (fun x y H Q => ∃ a b, x = .bl a ∧ y = .bl b ∧ Q (.bl (!decide (a = b))) H) dNotB := by
  intro F H x y d e q Q sF hx hy hg k
  unfold dNotB at hg
  split at hg
  · cases hg
    rw [hx.bool, hy.bool]
    exact ⟨_, _, rfl, rfl, k _ F H (.refl sF) (.bl _)⟩
  · cases hg
theorem hb_isB : ∀ x y q, dIsB x y = some q → ∃ k, q = .bool k := by
  intro x y q e; unfold dIsB at e; split at e <;> cases e; exact ⟨_, rfl⟩
theorem hb_notB : ∀ x y q, dNotB x y = some q → ∃ k, q = .bool k := by
  intro x y q e; unfold dNotB at e; split at e <;> cases e; exact ⟨_, rfl⟩
end
section
variable {X : Cx} {W : WX} {a b : Expr} {pos : Pos} {fa fb : Ev A}
theorem dx_mulT (ha : DX X W a fa) (hb : DX X W b fb) : DX X W (.BinOp a .Mult b pos) (eBin dMulT fa fb) := dx_op op_mulT opd_mulT ha hb
theorem dx_isB (ha : DX X W a fa) (hb : DX X W b fb) : DX X W (.Compare a [.Is] [b] pos) (eBin dIsB fa fb) := dx_cmp op_is_bl opd_isB ha hb (nomark _)
theorem dx_notB (ha : DX X W a fa) (hb : DX X W b fb) : DX X W (.Compare a [.IsNot] [b] pos) (eBin dNotB fa fb) := dx_cmp op_isnot_bl opd_notB ha hb (nomark _)
theorem dt_isB (ha : DX X W a fa) (hb : DX X W b fb) : DT X W (.Compare a [.Is] [b] pos) (tOf (eBin dIsB fa fb)) := dt_cmp op_is_bl opd_isB ha hb (nomark _) hb_isB
theorem dt_notB (ha : DX X W a fa) (hb : DX X W b fb) : DT X W (.Compare a [.IsNot] [b] pos) (tOf (eBin dNotB fa fb)) := dt_cmp op_isnot_bl opd_notB ha hb (nomark _) hb_notB
end
/-! ### a < b < c -/
def chainB (g' : D → D → Option D) (b : A) (fc : Ev A) (e2 : En) : Option Bool → M.R A
  | none => .bad
  | some false => .ok (.sh (.bool false)) e2
  | some true => (fc e2).bind fun c e3 => fin ((res e3 b).bind fun y => (res e3 c).bind fun z => g' y z) e3
def eChain (g g' : D → D → Option D) (fa fb fc : Ev A) : Ev A := fun e => (fa e).bind fun a e1 => (fb e1).bind fun b e2 => chainB g' b fc e2 (((res e2 a).bind fun x => (res e2 b).bind fun y => g x y).bind bOf)
@[simp] theorem eChain_r (g g' : D → D → Option D) (fa fb fc : Ev A) (e : En) : eChain g g' fa fb fc e = (fa e).bind fun a e1 => (fb e1).bind fun b e2 => chainB g' b fc e2 (((res e2 a).bind fun x => (res e2 b).bind fun y => g x y).bind bOf) := rfl
@[simp] theorem chainB_f (g' : D → D → Option D) (b : A) (fc : Ev A) (e2 : En) : chainB g' b fc e2 (some false) = .ok (.sh (.bool false)) e2 := rfl
@[simp] theorem chainB_t (g' : D → D → Option D) (b : A) (fc : Ev A) (e2 : En) : chainB g' b fc e2 (some true) = (fc e2).bind fun c e3 => fin ((res e3 b).bind fun y => (res e3 c).bind fun z => g' y z) e3 := rfl
theorem chainB_if (g' : D → D → Option D) (b : A) (fc : Ev A) (e2 : En) (k : Bool) : chainB g' b fc e2 (some k) = if k = true then (fc e2).bind fun c e3 => fin ((res e3 b).bind fun y => (res e3 c).bind fun z => g' y z) e3 else .ok (.sh (.bool false)) e2 := by cases k <;> rfl
section
variable {X : Cx} {W : WX} {a b c : Expr} {pos : Pos} {fa fb fc : Ev A} {op op' : CmpOp} {r r' : R2} {g g' : D → D → Option D}
theorem PostE.weak {G : Gd} {F F' : Hp} {σ : L2.St} {α β : Type} {ok : Hp → α → β → Prop} {r : M.R α} {Q : β → Hp → Prop} (h : PostE X W G F σ ok r Q) (s : Same F F') : PostE X W G F' σ ok r Q := by
  cases r with
  | bad => exact h
  | ok a e => exact fun v F2 H2 R2 s2 o => h v F2 H2 R2 (s.trans s2) o
  | ex x e => exact fun cls dd F2 H2 R2 s2 o => h cls dd F2 H2 R2 (s.trans s2) o
theorem bOf_some {d : D} {k : Bool} (h : bOf d = some k) : d = .bool k := by
  cases d <;> first | (cases h; rfl) | cases h
theorem chain_ex (hg : OpD X.K r g) (hg' : OpD X.K r' g') (ha : DX X W a fa) (hb : DX X W b fb) (hc : DX X W c fc) :
    ∃ ta tb tc, PE X a ta ∧ PE X b tb ∧ PE X c tc ∧ ∀ (G : Gd) (en : En) (F H : Hp) (σ : L2.St) (Q : VK), Rel X.K G en F H σ → PE1 X W G F σ (eChain g g' fa fb fc en) Q → tChain r r' ta tb tc σ H Q := by
  obtain ⟨ta, pa, qa⟩ := ha.ex
  obtain ⟨tb, pb, qb⟩ := hb.ex
  obtain ⟨tc, pc, qc⟩ := hc.ex
  refine ⟨ta, tb, tc, pa, pb, pc, fun G en F H σ Q R q => qa G en F H σ _ R (q.bind fun x e1 v F1 H1 R1 s1 o1 q1 => qb G e1 F1 H1 σ _ R1 (q1.bind fun y e2 w F2 H2 R2 s2 o2 q2 => ?_))⟩
  cases ed : ((res e2 x).bind fun x => (res e2 y).bind fun y => g x y) with
  | none => rw [ed] at q2; exact q2.elim
  | some d =>
    rw [ed] at q2
    obtain ⟨d1, e1', ed'⟩ := Option.bind_eq_some_iff.mp ed
    obtain ⟨d2, e2', ed''⟩ := Option.bind_eq_some_iff.mp ed'
    cases eb : bOf d with
    | none => rw [show (some d).bind bOf = none from eb] at q2; exact q2.elim
    | some k =>
      rw [show (some d).bind bOf = some k from eb] at q2
      have := bOf_some eb
      subst this
      refine hg F2 H2 v w d1 d2 _ _ R2.fh (res_ok R2 (o1.mono s2) e1') (res_ok R2 o2 e2') ed'' fun v3 F3 H3 gr rp => ?_
      cases rp
      refine ⟨k, rfl, ?_⟩
      have R3 := R2.grow gr
      cases k with
      | false => rw [if_neg Bool.false_ne_true]; exact q2 (.bl false) F3 H3 R3 gr.f (.bl _)
      | true =>
        rw [if_pos rfl]
        have q3 : PE1 X W G F3 σ ((fc e2).bind fun c e3 => fin ((res e3 y).bind fun y => (res e3 c).bind fun z => g' y z) e3) Q := PostE.weak q2 gr.f
        refine qc G e2 F3 H3 σ _ R3 (q3.bind fun z e4 u F4 H4 R4 s4 o4 q4 => ?_)
        obtain ⟨dd, ed3⟩ := fin_some q4
        obtain ⟨y1, f1, f2⟩ := Option.bind_eq_some_iff.mp ed3
        obtain ⟨z1, f3, f4⟩ := Option.bind_eq_some_iff.mp f2
        exact hg' F4 H4 w u y1 z1 dd Q R4.fh (res_ok R4 ((o2.mono gr.f).mono s4) f1) (res_ok R4 o4 f3) f4 fun v F' H' g r => fin_ok R4 q4 ed3 g r
theorem dx_chain (ho : OpR X (compareOp op) r) (hg : OpD X.K r g) (ho' : OpR X (compareOp op') r') (hg' : OpD X.K r' g') (ha : DX X W a fa) (hb : DX X W b fb) (hc : DX X W c fc)
    (hm : lastMarks [op, op'] [b, c] = false := by with_unfolding_all rfl) : DX X W (.Compare a [op, op'] [b, c] pos) (eChain g g' fa fb fc) := by
  obtain ⟨ta, tb, tc, pa, pb, pc, q⟩ := chain_ex hg hg' ha hb hc
  exact ⟨_, pe_chain ho ho' pa pb pc hm, q⟩
theorem dt_chain (ho : OpR X (compareOp op) r) (hg : OpD X.K r g) (ho' : OpR X (compareOp op') r') (hg' : OpD X.K r' g') (ha : DX X W a fa) (hb : DX X W b fb) (hc : DX X W c fc)
    (hm : lastMarks [op, op'] [b, c] = false := by with_unfolding_all rfl) : DT X W (.Compare a [op, op'] [b, c] pos) (tOf (eChain g g' fa fb fc)) := by
  obtain ⟨ta, tb, tc, pa, pb, pc, q⟩ := chain_ex hg hg' ha hb hc
  refine ⟨_, pt_chain ho ho' pa pb pc hm, fun G en F H σ Q R k => q G en F H σ _ R (k.bind fun o e1 v F1 H1 R1 s1 o1 q1 => ?_)⟩
  cases z : (res e1 o).bind bOf with
  | none => rw [z] at q1; exact q1.elim
  | some b => rw [z] at q1; exact ⟨b, res_bool R1 o1 z, q1 b F1 H1 R1 (.refl _) rfl⟩
end
/-! ### a, b = x, y -/
def parTo (i j : Nat) (e : En) : Option (List D × En) → SR
  | some ([d1, d2], e2) => .nx ((e2.set i (.sh d1)).set j (.sh d2))
  | _ => .bad
def sPar (i j : Nat) (fs : Ev (List A)) : En → SR := fun e => (fs e).st fun as e1 => parTo i j e1 (holds as e1)
@[simp] theorem sPar_r (i j : Nat) (fs : Ev (List A)) (e : En) : sPar i j fs e = (fs e).st fun as e1 => parTo i j e1 (holds as e1) := rfl
@[simp] theorem parTo_2 (i j : Nat) (e e2 : En) (d1 d2 : D) : parTo i j e (some ([d1, d2], e2)) = .nx ((e2.set i (.sh d1)).set j (.sh d2)) := rfl
section
variable {X : Cx} {W : WX} {a b : Expr} {pos px py pt pt2 : Pos} {x y : Str} {kt k2 : Nat} {fs : Ev (List A)}
theorem ds_par (i j : Nat) (ha : DA X W [a, b] fs) (hc : X.calm = true) (hN : X.N.Nodup) (hij : i ≠ j := by decide) (hi : X.N[i]? = some x := by rfl) (hj : X.N[j]? = some y := by rfl)
    (hx : X.env.scope.names.lookup x = some .local := by rfl) (hy : X.env.scope.names.lookup y = some .local := by rfl)
    (hw : swappedStores [.Tuple [.Name x px, .Name y py] kt pt] (.Tuple [a, b] k2 pt2) X.env = pure (some [x, y]) := by rfl)
    (hs : swapsWithSole [.Tuple [.Name x px, .Name y py] kt pt] (.Tuple [a, b] k2 pt2) pos.line X.env = pure false := by rfl) :
    DS X W (.Assign [.Tuple [.Name x px, .Name y py] kt pt] (.Tuple [a, b] k2 pt2) pos) (sPar i j fs) := by
  obtain ⟨t, p, q⟩ := ha.ex
  refine ⟨_, ps_par hc hN hi hj hij hx hy p hw hs, fun G en F H σ D R h => q G en F H σ _ R ?_⟩
  refine PostS.of h fun as e1 vs F1 H1 R1 s1 o1 h1 => ?_
  cases z : holds as e1 with
  | none => rw [z] at h1; exact h1.elim
  | some pr =>
    obtain ⟨ds, e2⟩ := pr
    rw [z] at h1
    obtain ⟨F2, R2, s2, r2⟩ := holds_ok R1 o1 z
    match ds, r2, h1 with
    | [d1, d2], .cons q1 (.cons q2 .nil), h1 =>
      refine ⟨_, _, rfl, ?_⟩
      have R3 := (R2.putSh (i := i) q1).putSh (i := j) q2
      exact (PostS.mono h1 s2) F2 H1 _ R3 (.refl _)
end
/-- a comprehension that keeps an invariant -/
theorem lc_inv {g : Gt} {t : Ev Bool} {f : Ev A} {own : List Nat} (I : Nat → List D → En → Prop) : ∀ (ds : List D) (n : Nat) (acc : List D) (e : En), I n acc e → acc.length + ds.length ≤ 1000000 →
    (∀ j d acc e, ds[j]? = some d → I (n + j) acc e → ∃ e1 e2 e3 x, g d (wipeE own e) = some e1 ∧ t e1 = .ok true e2 ∧ eHold f e2 = .ok x e3 ∧ I (n + j + 1) (acc ++ [x]) (restE own e e3)) →
    ∃ acc' e', lcD g t f own ds acc e = .ok (.list acc') e' ∧ acc'.length = acc.length + ds.length ∧ I (n + ds.length) acc' e'
  | [], n, acc, e, h0, _, _ => ⟨acc, e, rfl, rfl, h0⟩
  | d :: ds, n, acc, e, h0, hs, k => by
    obtain ⟨e1, e2, e3, x, a, b, c, h1⟩ := k 0 d acc e rfl h0
    obtain ⟨acc', e', q, l, z⟩ := lc_inv I ds (n + 1) (acc ++ [x]) (restE own e e3) h1 (by simp at *; omega) fun j d acc e hj hi => by
      have := k (j + 1) d acc e (by simpa using hj) (by rw [show n + (j + 1) = n + 1 + j by omega]; exact hi)
      rw [show n + (j + 1) + 1 = n + 1 + j + 1 by omega] at this
      exact this
    have hs2 : acc.length + 1 ≤ 1000000 := by simp at hs; omega
    refine ⟨acc', e', ?_, by rw [l]; simp; omega, by rw [show n + (d :: ds).length = n + 1 + ds.length by simp; omega]; exact z⟩
    unfold lcD
    rw [a]
    simp only [b, nox_ok, R_ok, if_true, c, small, decide_eq_true_eq, if_pos hs2, q]
def enumOf : List D → En → M.R (List D)
  | [.list xs], e => .ok (enumD 0 xs) e
  | _, _ => .bad
@[simp] theorem iE_r (fs : Ev (List A)) (e : En) : iE fs e = (eHolds fs e).bind fun ds e1 => enumOf ds e1 := by
  unfold iE; refine congrArg _ ?_; funext ds e1; unfold enumOf
  rcases ds with _ | ⟨d, ds⟩; · rfl
  rcases ds with _ | ⟨d2, ds⟩
  · cases d <;> rfl
  · cases d <;> rfl
@[simp] theorem enumOf_l (xs : List D) (e : En) : enumOf [.list xs] e = .ok (enumD 0 xs) e := rfl
theorem enum_at : ∀ (xs : List D) (n j : Nat) (d : D), (enumD n xs)[j]? = some d → ∃ x, xs[j]? = some x ∧ d = .tuple [.int ((n + j : Nat) : Int), x]
  | [], n, j, d, h => by simp [enumD] at h
  | x :: xs, n, 0, d, h => by simp [enumD] at h; exact ⟨x, by simp, by rw [← h]; simp⟩
  | x :: xs, n, j + 1, d, h => by
    simp only [enumD, List.getElem?_cons_succ] at h
    obtain ⟨y, a, b⟩ := enum_at xs (n + 1) j d h
    exact ⟨y, by simpa using a, by rw [b, show n + 1 + j = n + (j + 1) by omega]⟩
@[simp] theorem gAdd_i (x y : Int) : gAdd (.int x) (.int y) = some (.int (x + y)) := rfl
end M
set_option Elab.async false
set_option linter.all false
set_option maxRecDepth 100000
set_option maxHeartbeats 4000000
set_option autoImplicit false
namespace Lk09
open PySem PySem.Spec PyProof.Rows L2 M
noncomputable section
/-- is_whole(thing, low, high) -/
abbrev b_is_whole : En → SR := (sRet (eAnd (eUn (dIsi "int") (eVar 0)) (eAnd (eNot (eUn (dIsi "bool") (eVar 0))) (eChain dLe dLe (eVar 1) (eVar 0) (eVar 2)))))
def F_is_whole : List Sl → Rt := run0 3 b_is_whole
/-- is_row_of(many, thing) -/
abbrev b_is_row_of : En → SR := (sRet (eAnd (eUn (dIsi "tuple") (eVar 1)) (eEq (eFn (f1 dLen) (eCons (eVar 1) eNil)) (eVar 0))))
def F_is_row_of : List Sl → Rt := run0 2 b_is_row_of
abbrev b_is_state_C1 : Ev A := (eCall F_is_whole (eCons (eVar 4) (eCons (eC (.int 0)) (eCons (eIx (eVar 5) (eC (.int 4))) eNil))))
/-- is_state(ground, thing, places, ties, left, tie) -/
abbrev b_is_state : En → SR := (sSeq (sAsg (gT [(gN 2), (gN 3)]) (eVar 0))
  (sRet (eAnd (eCall F_is_row_of (eCons (eFn (f1 dLen) (eCons (eVar 3) eNil)) (eCons (eVar 1) eNil))) (eFn (f1 dAll) (eCons (eOwn (oLc (iZ (eCons (eVar 1) (eCons (eVar 3) eNil))) (gT [(gN 4), (gN 5)]) tYes1 b_is_state_C1 [4, 5])) eNil)))))
def F_is_state : List Sl → Rt := run0 6 b_is_state
/-- all_rough(ground) -/
abbrev b_all_rough : En → SR := (sRet (eBin dMulT (eTup (eCons (eC (.int 0)) eNil)) (eFn (f1 dLen) (eCons (eIx (eVar 0) (eC (.int 1))) eNil))))
def F_all_rough : List Sl → Rt := run0 1 b_all_rough
abbrev b_all_worn_C1 : Ev A := (eVar 5)
/-- all_worn(ground, one, other, rough, worn, heal) -/
abbrev b_all_worn : En → SR := (sRet (eFn (f1 dTuple) (eCons (eOwn (oLc (iS (eIx (eVar 0) (eC (.int 1)))) (gT [(gN 1), (gN 2), (gN 3), (gN 4), (gN 5)]) tYes1 b_all_worn_C1 [1, 2, 3, 4, 5])) eNil)))
def F_all_worn : List Sl → Rt := run0 6 b_all_worn
/-- _law_pail(cell, k) -/
abbrev b__law_pail : En → SR := (sRetO (oLst (eCons (eFn (f2 dMax2) (eCons (eC (.int 0)) (eCons (eSub (eVar 0) (ePow (eC (.int 10)) (eC (.int 18)))) eNil))) (eCons (eAdd (eMod (eVar 0) (eAdd (ePow (eC (.int 10)) (eC (.int 43))) (eC (.int 49)))) (eMul (eC (.int 7001)) (eVar 1))) (eCons (eC (.int 0)) eNil)))))
def F__law_pail : List Sl → Rt := run0 2 b__law_pail
/-- _law_dip(pail, many, trod, found) -/
abbrev b__law_dip : En → SR := (sSeq (sIf (tOf (eGt (eIx (eVar 0) (eC (.int 0))) (eC (.int 0)))) (sSeq (sAsg (gN 3) (eMod (eIx (eVar 0) (eC (.int 0))) (eVar 1)))
  (sSeq (sSetIx 0 (eFdiv (eIx (eVar 0) (eC (.int 0))) (eVar 1)) (eC (.int 0)))
  (sRetV 3))) sNil)
  (sSeq (sAugIx 0 gAdd (eC (.int 2)) (eC (.int 1)))
  (sSeq (sAsg (gN 2) (eMod (ePow (eAdd (eIx (eVar 0) (eC (.int 1))) (eMul (eC (.int 479001599)) (eIx (eVar 0) (eC (.int 2))))) (eC (.int 3))) (eAdd (ePow (eC (.int 10)) (eC (.int 39))) (eC (.int 3)))))
  (sSeq (sAsg (gN 2) (eMod (ePow (eAdd (eVar 2) (eMul (eMul (eC (.int 86028121)) (eIx (eVar 0) (eC (.int 2)))) (eIx (eVar 0) (eC (.int 2))))) (eC (.int 5))) (eAdd (ePow (eC (.int 10)) (eC (.int 37))) (eC (.int 43)))))
  (sRet (eMod (eFdiv (eVar 2) (eC (.int 8192))) (eVar 1)))))))
def F__law_dip : List Sl → Rt := run0 4 b__law_dip
/-- _law_tie(pail, places, one, other, rough, worn) -/
abbrev b__law_tie : En → SR := (sSeq (sAsg (gN 2) (eCall F__law_dip (eCons (eVar 0) (eCons (eVar 1) eNil))))
  (sSeq (sAsg (gN 3) (eMod (eAdd (eAdd (eVar 2) (eC (.int 1))) (eCall F__law_dip (eCons (eVar 0) (eCons (eSub (eVar 1) (eC (.int 1))) eNil)))) (eVar 1)))
  (sSeq (sAsg (gN 4) (eIx (eOwn (oLst (eCons (eC (.int 2)) (eCons (eC (.int 99)) (eCons (eAdd (eC (.int 2)) (eCall F__law_dip (eCons (eVar 0) (eCons (eC (.int 98)) eNil)))) (eCons (eAdd (eC (.int 2)) (eCall F__law_dip (eCons (eVar 0) (eCons (eC (.int 5)) eNil)))) eNil)))))) (eCall F__law_dip (eCons (eVar 0) (eCons (eC (.int 4)) eNil)))))
  (sSeq (sAsg (gN 5) (eIx (eOwn (oLst (eCons (eAdd (eC (.int 1)) (eCall F__law_dip (eCons (eVar 0) (eCons (eSub (eVar 4) (eC (.int 1))) eNil)))) (eCons (eSub (eVar 4) (eC (.int 1))) (eCons (eC (.int 1)) eNil))))) (eCall F__law_dip (eCons (eVar 0) (eCons (eC (.int 3)) eNil)))))
  (sRet (eTup (eCons (eFn (f2 dMin2) (eCons (eVar 2) (eCons (eVar 3) eNil))) (eCons (eFn (f2 dMax2) (eCons (eVar 2) (eCons (eVar 3) eNil))) (eCons (eVar 4) (eCons (eVar 5) (eCons (eIx (eOwn (oLst (eCons (eC (.int 1)) (eCons (eC (.int 6)) (eCons (eAdd (eC (.int 1)) (eCall F__law_dip (eCons (eVar 0) (eCons (eC (.int 6)) eNil)))) eNil))))) (eCall F__law_dip (eCons (eVar 0) (eCons (eC (.int 3)) eNil)))) eNil)))))))))))
def F__law_tie : List Sl → Rt := run0 6 b__law_tie
abbrev b__law_yard_C1 : Ev A := (eCall F__law_tie (eCons (eVar 0) (eCons (eVar 1) eNil)))
/-- _law_yard(pail, places, many, k) -/
abbrev b__law_yard : En → SR := (sSeq (sAsg (gN 1) (eIx (eOwn (oLst (eCons (eAdd (eC (.int 2)) (eCall F__law_dip (eCons (eVar 0) (eCons (eC (.int 7)) eNil)))) (eCons (eC (.int 2)) (eCons (eC (.int 8)) eNil))))) (eCall F__law_dip (eCons (eVar 0) (eCons (eC (.int 3)) eNil)))))
  (sSeq (sAsg (gN 2) (eIx (eOwn (oLst (eCons (eAdd (eC (.int 1)) (eCall F__law_dip (eCons (eVar 0) (eCons (eC (.int 5)) eNil)))) (eCons (eAdd (eC (.int 1)) (eCall F__law_dip (eCons (eVar 0) (eCons (eC (.int 14)) eNil)))) (eCons (eC (.int 14)) eNil))))) (eCall F__law_dip (eCons (eVar 0) (eCons (eC (.int 3)) eNil)))))
  (sRet (eTup (eCons (eVar 1) (eCons (eFn (f1 dTuple) (eCons (eOwn (oLc (iR1 (eCons (eVar 2) eNil)) (gN 3) tYes1 b__law_yard_C1 [3])) eNil)) eNil))))))
def F__law_yard : List Sl → Rt := run0 4 b__law_yard
abbrev b__law_beyond_L1 : En → SR := (sAsg (gN 2) (eAdd (eVar 2) (eOwn (oLst (eCons (eAdd (eAdd (eSl (eVar 0) .no (.of (eVar 3))) (eTup (eCons (eUn dNeg (eC (.int 1))) eNil))) (eSl (eVar 0) (.of (eAdd (eVar 3) (eC (.int 1)))) .no)) (eCons (eAdd (eAdd (eSl (eVar 1) .no (.of (eVar 3))) (eTup (eCons (eAdd (eIx (eVar 1) (eVar 3)) (eC (.int 1))) eNil))) (eSl (eVar 1) (.of (eAdd (eVar 3) (eC (.int 1)))) .no)) eNil))))))
/-- _law_beyond(low, high, found, k) -/
abbrev b__law_beyond : En → SR := (sSeq (sSetO 2 (oLst eNil))
  (sSeq (sFor (iR1 (eCons (eFn (f1 dLen) (eCons (eVar 0) eNil)) eNil)) (gN 3) b__law_beyond_L1)
  (sRetV 2)))
def F__law_beyond : List Sl → Rt := run0 4 b__law_beyond
abbrev b__law_right_C1 : Ev A := (eIx (eVar 8) (eC (.int 4)))
abbrev b__law_right_C2 : Ev A := (eCall F__law_dip (eCons (eVar 0) (eCons (eAdd (eVar 7) (eC (.int 1))) eNil)))
abbrev b__law_right_L3 : En → SR := (sSeq (sAsg (gN 6) (eFn (f1 dTuple) (eCons (eOwn (oLc (iS (eVar 4)) (gN 7) tYes1 b__law_right_C2 [7])) eNil)))
  (sIf (tOf (eBin dNotB (eCall F_is_state (eCons (eVar 1) (eCons (eVar 6) eNil))) (eC (.bool true)))) (sRet (eC (.bool false))) sNil))
abbrev b__law_right_C4 : Ev A := (eCall F_is_state (eCons (eVar 1) (eCons (eVar 6) eNil)))
/-- _law_right(pail, yard, kept, low, high, turn, one, heal, tie) -/
abbrev b__law_right : En → SR := (sSeq (sAsg (gN 1) (eCall F__law_yard (eCons (eVar 0) eNil)))
  (sSeq (sAsg (gN 2) (eFn (f1 dRepr) (eCons (eVar 1) eNil)))
  (sSeq (sPar 3 4 (eCons (eCall F_all_rough (eCons (eVar 1) eNil)) (eCons (eCall F_all_worn (eCons (eVar 1) eNil)) eNil)))
  (sSeq (sIf (tOr2 (tOf (eNe (eVar 3) (eBin dMulT (eTup (eCons (eC (.int 0)) eNil)) (eFn (f1 dLen) (eCons (eIx (eVar 1) (eC (.int 1))) eNil))))) (tOf (eNe (eVar 4) (eFn (f1 dTuple) (eCons (eOwn (oLc (iS (eIx (eVar 1) (eC (.int 1)))) (gN 8) tYes1 b__law_right_C1 [8])) eNil))))) (sRet (eC (.bool false))) sNil)
  (sSeq (sIf (tOr2 (tNo (tOf (eUn (dIsi "tuple") (eVar 3)))) (tOr2 (tNo (tOf (eUn (dIsi "tuple") (eVar 4)))) (tOf (eNe (eOwn (oLst (eCons (eCall F_all_rough (eCons (eVar 1) eNil)) eNil))) (eOwn (oLst (eCons (eVar 3) eNil))))))) (sRet (eC (.bool false))) sNil)
  (sSeq (sIf (tOr2 (tOf (eNe (eCall F_all_worn (eCons (eVar 1) eNil)) (eVar 4))) (tOr2 (tNo (tOf (eCall F_is_state (eCons (eVar 1) (eCons (eVar 3) eNil))))) (tNo (tOf (eCall F_is_state (eCons (eVar 1) (eCons (eVar 4) eNil))))))) (sRet (eC (.bool false))) sNil)
  (sSeq (sFor (iR1 (eCons (eC (.int 6)) eNil)) (gN 5) b__law_right_L3)
  (sRet (eAnd (eNot (eFn (f1 dAny) (eCons (eOwn (oLc (iS (eCall F__law_beyond (eCons (eVar 3) (eCons (eVar 4) eNil)))) (gN 6) tYes1 b__law_right_C4 [6])) eNil))) (eEq (eFn (f1 dRepr) (eCons (eVar 1) eNil)) (eVar 2)))))))))))
def F__law_right : List Sl → Rt := run0 9 b__law_right
abbrev b_law_L1 : En → SR := (sIf (tNo (tOf (eCallO F__law_right (oCall F__law_pail (eCons (eVar 2) (eCons (eVar 1) eNil)))))) (sRet (eC (.bool false))) sNil)
/-- law(script, k, cell) -/
abbrev b_law : En → SR := (sSeq (sFor (iE (eCons (eSl (eAdd (eVar 0) (eOwn (oLst (eCons (eC (.int 0)) eNil)))) .no (.of (eFn (f2 dMax2) (eCons (eC (.int 1)) (eCons (eFn (f2 dMin2) (eCons (eFn (f1 dLen) (eCons (eVar 0) eNil)) (eCons (eC (.int 16)) eNil))) eNil))))) eNil)) (gT [(gN 1), (gN 2)]) b_law_L1)
  (sRet (eC (.bool true))))
def F_law : List Sl → Rt := run0 3 b_law
end
end Lk09
set_option Elab.async false
set_option linter.all false
set_option maxRecDepth 100000
set_option maxHeartbeats 4000000
set_option autoImplicit false
namespace Lk09
open PySem PySem.Spec PyProof.Rows L2 M
def topS (i : Nat) : Stmt := PySem.Challenge.pw_wornways_k09_rough_and_worn.main.body.getD i (.Pass ⟨0, 0, 0, 0⟩)
structure Blt (mg : Str → Option Value) : Prop where
  z_all : mg "all" = none
  z_any : mg "any" = none
  z_bool : mg "bool" = none
  z_enumerate : mg "enumerate" = none
  z_int : mg "int" = none
  z_isinstance : mg "isinstance" = none
  z_len : mg "len" = none
  z_max : mg "max" = none
  z_min : mg "min" = none
  z_range : mg "range" = none
  z_repr : mg "repr" = none
  z_tuple : mg "tuple" = none
  z_zip : mg "zip" = none
abbrev s_is_whole : Stmt := topS 1
abbrev N_is_whole : List Str := ["thing", "low", "high"]
theorem sc_is_whole : FnScope N_is_whole ["thing", "low", "high"] (defScope s_is_whole) := ⟨rfl, rfl, rfl, by decide +kernel, rfl, by decide +kernel, by decide +kernel⟩
abbrev s_is_row_of : Stmt := topS 2
abbrev N_is_row_of : List Str := ["many", "thing"]
theorem sc_is_row_of : FnScope N_is_row_of ["many", "thing"] (defScope s_is_row_of) := ⟨rfl, rfl, rfl, by decide +kernel, rfl, by decide +kernel, by decide +kernel⟩
abbrev s_is_state : Stmt := topS 3
abbrev N_is_state : List Str := ["ground", "thing", "places", "ties", "left", "tie"]
theorem sc_is_state : FnScope N_is_state ["ground", "thing"] (defScope s_is_state) := ⟨rfl, rfl, rfl, by decide +kernel, rfl, by decide +kernel, by decide +kernel⟩
abbrev s_all_rough : Stmt := topS 4
abbrev N_all_rough : List Str := ["ground"]
theorem sc_all_rough : FnScope N_all_rough ["ground"] (defScope s_all_rough) := ⟨rfl, rfl, rfl, by decide +kernel, rfl, by decide +kernel, by decide +kernel⟩
abbrev s_all_worn : Stmt := topS 5
abbrev N_all_worn : List Str := ["ground", "one", "other", "rough", "worn", "heal"]
theorem sc_all_worn : FnScope N_all_worn ["ground"] (defScope s_all_worn) := ⟨rfl, rfl, rfl, by decide +kernel, rfl, by decide +kernel, by decide +kernel⟩
abbrev s__law_pail : Stmt := topS 7
abbrev N__law_pail : List Str := ["cell", "k"]
theorem sc__law_pail : FnScope N__law_pail ["cell", "k"] (defScope s__law_pail) := ⟨rfl, rfl, rfl, by decide +kernel, rfl, by decide +kernel, by decide +kernel⟩
abbrev s__law_dip : Stmt := topS 8
abbrev N__law_dip : List Str := ["pail", "many", "trod", "found"]
theorem sc__law_dip : FnScope N__law_dip ["pail", "many"] (defScope s__law_dip) := ⟨rfl, rfl, rfl, by decide +kernel, rfl, by decide +kernel, by decide +kernel⟩
abbrev s__law_tie : Stmt := topS 9
abbrev N__law_tie : List Str := ["pail", "places", "one", "other", "rough", "worn"]
theorem sc__law_tie : FnScope N__law_tie ["pail", "places"] (defScope s__law_tie) := ⟨rfl, rfl, rfl, by decide +kernel, rfl, by decide +kernel, by decide +kernel⟩
abbrev s__law_yard : Stmt := topS 10
abbrev N__law_yard : List Str := ["pail", "places", "many", "k"]
theorem sc__law_yard : FnScope N__law_yard ["pail"] (defScope s__law_yard) := ⟨rfl, rfl, rfl, by decide +kernel, rfl, by decide +kernel, by decide +kernel⟩
abbrev s__law_beyond : Stmt := topS 11
abbrev N__law_beyond : List Str := ["low", "high", "found", "k"]
theorem sc__law_beyond : FnScope N__law_beyond ["low", "high"] (defScope s__law_beyond) := ⟨rfl, rfl, rfl, by decide +kernel, rfl, by decide +kernel, by decide +kernel⟩
abbrev s__law_right : Stmt := topS 12
abbrev N__law_right : List Str := ["pail", "yard", "kept", "low", "high", "turn", "one", "heal", "tie"]
theorem sc__law_right : FnScope N__law_right ["pail"] (defScope s__law_right) := ⟨rfl, rfl, rfl, by decide +kernel, rfl, by decide +kernel, by decide +kernel⟩
abbrev s_law : Stmt := topS 13
abbrev N_law : List Str := ["script", "k", "cell"]
theorem sc_law : FnScope N_law ["script"] (defScope s_law) := ⟨rfl, rfl, rfl, by decide +kernel, rfl, by decide +kernel, by decide +kernel⟩
section
variable {P : Program} {w : World} {K : PySem.W.Frag} {mg : Str → Option Value} {bs : Heap}
theorem ok_is_whole (B : Blt mg) (F : FunAt K mg "is_whole" "is_whole" s_is_whole ["thing", "low", "high"]) : CallOk P w K mg bs 1 "is_whole" ["thing", "low", "high"] F_is_whole := by
  refine fun_ok (N := N_is_whole) (k := 0) (body := b_is_whole) F sc_is_whole (by decide) fun f cdv A out s H E hr gd => ?_
  exact (dss_one (ds_ret (dx_and (dx_isi (dx_var 0) B.z_isinstance B.z_int) (dx_and (dx_not (dx_isi (dx_var 0) B.z_isinstance B.z_bool)) (dx_one (dx_chain op_le opd_le op_le opd_le (dx_var 1) (dx_var 0) (dx_var 2)))))))
theorem ok_is_row_of (B : Blt mg) (F : FunAt K mg "is_row_of" "is_row_of" s_is_row_of ["many", "thing"]) : CallOk P w K mg bs 1 "is_row_of" ["many", "thing"] F_is_row_of := by
  refine fun_ok (N := N_is_row_of) (k := 0) (body := b_is_row_of) F sc_is_row_of (by decide) fun f cdv A out s H E hr gd => ?_
  exact (dss_one (ds_ret (dx_and (dx_isi (dx_var 1) B.z_isinstance B.z_tuple) (dx_one (dx_eq hr.units (dx_len (dx_var 1) B.z_len) (dx_var 0))))))
theorem ok_is_state (B : Blt mg) (F : FunAt K mg "is_state" "is_state" s_is_state ["ground", "thing"]) (C_is_whole : CallOk P w K mg bs 1 "is_whole" ["thing", "low", "high"] F_is_whole) (C_is_row_of : CallOk P w K mg bs 1 "is_row_of" ["many", "thing"] F_is_row_of) : CallOk P w K mg bs 2 "is_state" ["ground", "thing"] F_is_state := by
  refine fun_ok (N := N_is_state) (k := 1) (body := b_is_state) F sc_is_state (by decide) fun f cdv A out s H E hr gd => ?_
  exact (dss_cons (ds_asg (dx_var 0) (dg_tup rfl (dgs_cons (dg_name 2 sc_is_state.nd) (dgs_cons (dg_name 3 sc_is_state.nd) dgs_nil))))
  (dss_one (ds_ret (dx_and (dx_callC C_is_row_of run0_keeps run0_nox (hr.mono (by omega)) gd (da_cons (dx_len (dx_var 3) B.z_len) (da_cons (dx_var 1) da_nil)) (alen_cons (alen_cons alen0))) (dx_one (dx_all rfl (DO.dx (do_lc (own := [("left", 4), ("tie", 5)]) rfl sc_is_state.nd (di_zip (da_cons (dx_var 1) (da_cons (dx_var 3) da_nil)) B.z_zip) (blkOk_by (N := N_is_state) (sc := defScope s_is_state) (own := [("left", 4), ("tie", 5)]) (by decide +kernel)) (by decide) (fun _ _ _ _ _ => (dg_tup rfl (dgs_cons (dg_name 4 sc_is_state.nd) (dgs_cons (dg_name 5 sc_is_state.nd) dgs_nil)))) (fun _ _ _ _ _ => dts_nil) (fun _ _ _ _ _ => (dx_callC C_is_whole run0_keeps run0_nox (hr.mono (by omega)) gd (da_cons (dx_var 4) (da_cons dx_int (da_cons (dx_item (dx_var 5) dx_int) da_nil))) (alen_cons (alen_cons (alen_cons alen0))))))) B.z_all))))))
theorem ok_all_rough (B : Blt mg) (F : FunKw K mg "all_rough" "all_rough" s_all_rough ["ground"] 0) : CallKw P w K mg bs 1 "all_rough" ["ground"] 0 F_all_rough := by
  refine fun_okK (N := N_all_rough) (k := 0) (body := b_all_rough) F sc_all_rough (by decide) fun f cdv A out s H E hr gd => ?_
  exact (dss_one (ds_ret (dx_mulT (dx_tup (da_cons dx_int da_nil)) (dx_len (dx_item (dx_var 0) dx_int) B.z_len))))
theorem ok_all_worn (B : Blt mg) (F : FunKw K mg "all_worn" "all_worn" s_all_worn ["ground"] 0) : CallKw P w K mg bs 1 "all_worn" ["ground"] 0 F_all_worn := by
  refine fun_okK (N := N_all_worn) (k := 0) (body := b_all_worn) F sc_all_worn (by decide) fun f cdv A out s H E hr gd => ?_
  exact (dss_one (ds_ret (dx_tuple (DO.dx (do_lc (own := [("one", 1), ("other", 2), ("rough", 3), ("worn", 4), ("heal", 5)]) rfl sc_all_worn.nd (di_seq (dx_item (dx_var 0) dx_int)) (blkOk_by (N := N_all_worn) (sc := defScope s_all_worn) (own := [("one", 1), ("other", 2), ("rough", 3), ("worn", 4), ("heal", 5)]) (by decide +kernel)) (by decide) (fun _ _ _ _ _ => (dg_tup rfl (dgs_cons (dg_name 1 sc_all_worn.nd) (dgs_cons (dg_name 2 sc_all_worn.nd) (dgs_cons (dg_name 3 sc_all_worn.nd) (dgs_cons (dg_name 4 sc_all_worn.nd) (dgs_cons (dg_name 5 sc_all_worn.nd) dgs_nil))))))) (fun _ _ _ _ _ => dts_nil) (fun _ _ _ _ _ => (dx_var 5)))) B.z_tuple)))
theorem ok__law_pail (B : Blt mg) (F : FunAt K mg "_law_pail" "_law_pail" s__law_pail ["cell", "k"]) : CallOk P w K mg bs 1 "_law_pail" ["cell", "k"] F__law_pail := by
  refine fun_ok (N := N__law_pail) (k := 0) (body := b__law_pail) F sc__law_pail (by decide) fun f cdv A out s H E hr gd => ?_
  exact (dss_one (ds_retO (do_lst (da_cons (dx_max2 rfl dx_int (dx_sub (dx_var 0) (dx_pow dx_int dx_int)) B.z_max) (da_cons (dx_add (dx_mod (dx_var 0) (dx_add (dx_pow dx_int dx_int) dx_int)) (dx_mul dx_int (dx_var 1))) (da_cons dx_int da_nil))))))
theorem ok__law_dip (B : Blt mg) (F : FunAt K mg "_law_dip" "_law_dip" s__law_dip ["pail", "many"]) : CallOk P w K mg bs 1 "_law_dip" ["pail", "many"] F__law_dip := by
  refine fun_ok (N := N__law_dip) (k := 0) (body := b__law_dip) F sc__law_dip (by decide) fun f cdv A out s H E hr gd => ?_
  exact (dss_cons (ds_if (dt_gt (dx_item (dx_var 0) dx_int) dx_int) (dss_cons (ds_asg (dx_mod (dx_item (dx_var 0) dx_int) (dx_var 1)) (dg_name 3 sc__law_dip.nd))
  (dss_cons (ds_setIx 0 (dx_fdiv (dx_item (dx_var 0) dx_int) (dx_var 1)) dx_int)
  (dss_one (ds_retV 3)))) dss_nil)
  (dss_cons (ds_augIx 0 ip_add ipd_addG dx_int dx_int)
  (dss_cons (ds_asg (dx_mod (dx_pow (dx_add (dx_item (dx_var 0) dx_int) (dx_mul dx_int (dx_item (dx_var 0) dx_int))) dx_int) (dx_add (dx_pow dx_int dx_int) dx_int)) (dg_name 2 sc__law_dip.nd))
  (dss_cons (ds_asg (dx_mod (dx_pow (dx_add (dx_var 2) (dx_mul (dx_mul dx_int (dx_item (dx_var 0) dx_int)) (dx_item (dx_var 0) dx_int))) dx_int) (dx_add (dx_pow dx_int dx_int) dx_int)) (dg_name 2 sc__law_dip.nd))
  (dss_one (ds_ret (dx_mod (dx_fdiv (dx_var 2) dx_int) (dx_var 1))))))))
theorem ok__law_tie (B : Blt mg) (F : FunAt K mg "_law_tie" "_law_tie" s__law_tie ["pail", "places"]) (C__law_dip : CallOk P w K mg bs 1 "_law_dip" ["pail", "many"] F__law_dip) : CallOk P w K mg bs 2 "_law_tie" ["pail", "places"] F__law_tie := by
  refine fun_ok (N := N__law_tie) (k := 1) (body := b__law_tie) F sc__law_tie (by decide) fun f cdv A out s H E hr gd => ?_
  exact (dss_cons (ds_asg (dx_callC C__law_dip run0_keeps run0_nox (hr.mono (by omega)) gd (da_cons (dx_var 0) (da_cons (dx_var 1) da_nil)) (alen_cons (alen_cons alen0))) (dg_name 2 sc__law_tie.nd))
  (dss_cons (ds_asg (dx_mod (dx_add (dx_add (dx_var 2) dx_int) (dx_callC C__law_dip run0_keeps run0_nox (hr.mono (by omega)) gd (da_cons (dx_var 0) (da_cons (dx_sub (dx_var 1) dx_int) da_nil)) (alen_cons (alen_cons alen0)))) (dx_var 1)) (dg_name 3 sc__law_tie.nd))
  (dss_cons (ds_asg (dx_item (DO.dx (do_lst (da_cons dx_int (da_cons dx_int (da_cons (dx_add dx_int (dx_callC C__law_dip run0_keeps run0_nox (hr.mono (by omega)) gd (da_cons (dx_var 0) (da_cons dx_int da_nil)) (alen_cons (alen_cons alen0)))) (da_cons (dx_add dx_int (dx_callC C__law_dip run0_keeps run0_nox (hr.mono (by omega)) gd (da_cons (dx_var 0) (da_cons dx_int da_nil)) (alen_cons (alen_cons alen0)))) da_nil)))))) (dx_callC C__law_dip run0_keeps run0_nox (hr.mono (by omega)) gd (da_cons (dx_var 0) (da_cons dx_int da_nil)) (alen_cons (alen_cons alen0)))) (dg_name 4 sc__law_tie.nd))
  (dss_cons (ds_asg (dx_item (DO.dx (do_lst (da_cons (dx_add dx_int (dx_callC C__law_dip run0_keeps run0_nox (hr.mono (by omega)) gd (da_cons (dx_var 0) (da_cons (dx_sub (dx_var 4) dx_int) da_nil)) (alen_cons (alen_cons alen0)))) (da_cons (dx_sub (dx_var 4) dx_int) (da_cons dx_int da_nil))))) (dx_callC C__law_dip run0_keeps run0_nox (hr.mono (by omega)) gd (da_cons (dx_var 0) (da_cons dx_int da_nil)) (alen_cons (alen_cons alen0)))) (dg_name 5 sc__law_tie.nd))
  (dss_one (ds_ret (dx_tup (da_cons (dx_min2 rfl (dx_var 2) (dx_var 3) B.z_min) (da_cons (dx_max2 rfl (dx_var 2) (dx_var 3) B.z_max) (da_cons (dx_var 4) (da_cons (dx_var 5) (da_cons (dx_item (DO.dx (do_lst (da_cons dx_int (da_cons dx_int (da_cons (dx_add dx_int (dx_callC C__law_dip run0_keeps run0_nox (hr.mono (by omega)) gd (da_cons (dx_var 0) (da_cons dx_int da_nil)) (alen_cons (alen_cons alen0)))) da_nil))))) (dx_callC C__law_dip run0_keeps run0_nox (hr.mono (by omega)) gd (da_cons (dx_var 0) (da_cons dx_int da_nil)) (alen_cons (alen_cons alen0)))) da_nil))))))))))))
theorem ok__law_yard (B : Blt mg) (F : FunAt K mg "_law_yard" "_law_yard" s__law_yard ["pail"]) (C__law_dip : CallOk P w K mg bs 1 "_law_dip" ["pail", "many"] F__law_dip) (C__law_tie : CallOk P w K mg bs 2 "_law_tie" ["pail", "places"] F__law_tie) : CallOk P w K mg bs 3 "_law_yard" ["pail"] F__law_yard := by
  refine fun_ok (N := N__law_yard) (k := 2) (body := b__law_yard) F sc__law_yard (by decide) fun f cdv A out s H E hr gd => ?_
  exact (dss_cons (ds_asg (dx_item (DO.dx (do_lst (da_cons (dx_add dx_int (dx_callC C__law_dip run0_keeps run0_nox (hr.mono (by omega)) gd (da_cons (dx_var 0) (da_cons dx_int da_nil)) (alen_cons (alen_cons alen0)))) (da_cons dx_int (da_cons dx_int da_nil))))) (dx_callC C__law_dip run0_keeps run0_nox (hr.mono (by omega)) gd (da_cons (dx_var 0) (da_cons dx_int da_nil)) (alen_cons (alen_cons alen0)))) (dg_name 1 sc__law_yard.nd))
  (dss_cons (ds_asg (dx_item (DO.dx (do_lst (da_cons (dx_add dx_int (dx_callC C__law_dip run0_keeps run0_nox (hr.mono (by omega)) gd (da_cons (dx_var 0) (da_cons dx_int da_nil)) (alen_cons (alen_cons alen0)))) (da_cons (dx_add dx_int (dx_callC C__law_dip run0_keeps run0_nox (hr.mono (by omega)) gd (da_cons (dx_var 0) (da_cons dx_int da_nil)) (alen_cons (alen_cons alen0)))) (da_cons dx_int da_nil))))) (dx_callC C__law_dip run0_keeps run0_nox (hr.mono (by omega)) gd (da_cons (dx_var 0) (da_cons dx_int da_nil)) (alen_cons (alen_cons alen0)))) (dg_name 2 sc__law_yard.nd))
  (dss_one (ds_ret (dx_tup (da_cons (dx_var 1) (da_cons (dx_tuple (DO.dx (do_lc (own := [("k", 3)]) rfl sc__law_yard.nd (di_r1 (da_cons (dx_var 2) da_nil) B.z_range) (blkOk_by (N := N__law_yard) (sc := defScope s__law_yard) (own := [("k", 3)]) (by decide +kernel)) (by decide) (fun _ _ _ _ _ => (dg_name 3 sc__law_yard.nd)) (fun _ _ _ _ _ => dts_nil) (fun _ _ _ _ _ => (dx_callC C__law_tie run0_keeps run0_nox (hr.mono (by omega)) gd (da_cons (dx_var 0) (da_cons (dx_var 1) da_nil)) (alen_cons (alen_cons alen0)))))) B.z_tuple) da_nil)))))))
theorem ok__law_beyond (B : Blt mg) (F : FunAt K mg "_law_beyond" "_law_beyond" s__law_beyond ["low", "high"]) : CallOk P w K mg bs 1 "_law_beyond" ["low", "high"] F__law_beyond := by
  refine fun_ok (N := N__law_beyond) (k := 0) (body := b__law_beyond) F sc__law_beyond (by decide) fun f cdv A out s H E hr gd => ?_
  exact (dss_cons (ds_setO 2 (do_lst da_nil) sc__law_beyond.nd)
  (dss_cons (ds_for PassesOwn.never rfl (di_r1 (da_cons (dx_len (dx_var 0) B.z_len) da_nil) B.z_range) (dg_name 3 sc__law_beyond.nd) (dss_one (ds_asg (dx_add (dx_var 2) (DO.dx (do_lst (da_cons (dx_add (dx_add (dx_sl (dx_var 0) dp_no (dp_of (dx_var 3))) (dx_tup (da_cons (dx_neg dx_int) da_nil))) (dx_sl (dx_var 0) (dp_of (dx_add (dx_var 3) dx_int)) dp_no)) (da_cons (dx_add (dx_add (dx_sl (dx_var 1) dp_no (dp_of (dx_var 3))) (dx_tup (da_cons (dx_add (dx_item (dx_var 1) (dx_var 3)) dx_int) da_nil))) (dx_sl (dx_var 1) (dp_of (dx_add (dx_var 3) dx_int)) dp_no)) da_nil))))) (dg_name 2 sc__law_beyond.nd))))
  (dss_one (ds_retV 2))))
theorem ok__law_right (B : Blt mg) (F : FunAt K mg "_law_right" "_law_right" s__law_right ["pail"]) (C_is_state : CallOk P w K mg bs 2 "is_state" ["ground", "thing"] F_is_state) (C_all_rough : CallKw P w K mg bs 1 "all_rough" ["ground"] 0 F_all_rough) (C_all_worn : CallKw P w K mg bs 1 "all_worn" ["ground"] 0 F_all_worn) (C__law_dip : CallOk P w K mg bs 1 "_law_dip" ["pail", "many"] F__law_dip) (C__law_yard : CallOk P w K mg bs 3 "_law_yard" ["pail"] F__law_yard) (C__law_beyond : CallOk P w K mg bs 1 "_law_beyond" ["low", "high"] F__law_beyond) : CallOk P w K mg bs 4 "_law_right" ["pail"] F__law_right := by
  refine fun_ok (N := N__law_right) (k := 3) (body := b__law_right) F sc__law_right (by decide) fun f cdv A out s H E hr gd => ?_
  exact (dss_cons (ds_asg (dx_callC C__law_yard run0_keeps run0_nox (hr.mono (by omega)) gd (da_cons (dx_var 0) da_nil) (alen_cons alen0)) (dg_name 1 sc__law_right.nd))
  (dss_cons (ds_asg (dx_repr gd hr.units (dx_var 1) B.z_repr) (dg_name 2 sc__law_right.nd))
  (dss_cons (ds_par 3 4 (da_cons (dx_callC (C_all_rough.toCall) run0_keeps run0_nox (hr.mono (by omega)) gd (da_cons (dx_var 1) da_nil) (alen_cons alen0)) (da_cons (dx_callC (C_all_worn.toCall) run0_keeps run0_nox (hr.mono (by omega)) gd (da_cons (dx_var 1) da_nil) (alen_cons alen0)) da_nil)) rfl sc__law_right.nd)
  (dss_cons (ds_if (DW.dt (dw_or (dt_ne hr.units (dx_var 3) (dx_mulT (dx_tup (da_cons dx_int da_nil)) (dx_len (dx_item (dx_var 1) dx_int) B.z_len))) (dw_or1 (dt_ne hr.units (dx_var 4) (dx_tuple (DO.dx (do_lc (own := [("tie", 8)]) rfl sc__law_right.nd (di_seq (dx_item (dx_var 1) dx_int)) (blkOk_by (N := N__law_right) (sc := defScope s__law_right) (own := [("tie", 8)]) (by decide +kernel)) (by decide) (fun _ _ _ _ _ => (dg_name 8 sc__law_right.nd)) (fun _ _ _ _ _ => dts_nil) (fun _ _ _ _ _ => (dx_item (dx_var 8) dx_int)))) B.z_tuple))))) (dss_one (ds_ret dx_bl)) dss_nil)
  (dss_cons (ds_if (DW.dt (dw_or (dt_not (dt_val (dx_isi (dx_var 3) B.z_isinstance B.z_tuple))) (dw_or (dt_not (dt_val (dx_isi (dx_var 4) B.z_isinstance B.z_tuple))) (dw_or1 (dt_ne hr.units (DO.dx (do_lst (da_cons (dx_callCK C_all_rough run0_keeps run0_nox (hr.mono (by omega)) gd (dk_cons (dx_var 1) dk_nil) (alen_cons alen0)) da_nil))) (DO.dx (do_lst (da_cons (dx_var 3) da_nil)))))))) (dss_one (ds_ret dx_bl)) dss_nil)
  (dss_cons (ds_if (DW.dt (dw_or (dt_ne hr.units (dx_callCK C_all_worn run0_keeps run0_nox (hr.mono (by omega)) gd (dk_cons (dx_var 1) dk_nil) (alen_cons alen0)) (dx_var 4)) (dw_or (dt_not (dt_val (dx_callC C_is_state run0_keeps run0_nox (hr.mono (by omega)) gd (da_cons (dx_var 1) (da_cons (dx_var 3) da_nil)) (alen_cons (alen_cons alen0))))) (dw_or1 (dt_not (dt_val (dx_callC C_is_state run0_keeps run0_nox (hr.mono (by omega)) gd (da_cons (dx_var 1) (da_cons (dx_var 4) da_nil)) (alen_cons (alen_cons alen0))))))))) (dss_one (ds_ret dx_bl)) dss_nil)
  (dss_cons (ds_for PassesOwn.never rfl (di_r1 (da_cons dx_int da_nil) B.z_range) (dg_name 5 sc__law_right.nd) (dss_cons (ds_asg (dx_tuple (DO.dx (do_lc (own := [("heal", 7)]) rfl sc__law_right.nd (di_seq (dx_var 4)) (blkOk_by (N := N__law_right) (sc := defScope s__law_right) (own := [("heal", 7)]) (by decide +kernel)) (by decide) (fun _ _ _ _ _ => (dg_name 7 sc__law_right.nd)) (fun _ _ _ _ _ => dts_nil) (fun _ _ _ _ _ => (dx_callC C__law_dip run0_keeps run0_nox (hr.mono (by omega)) gd (da_cons (dx_var 0) (da_cons (dx_add (dx_var 7) dx_int) da_nil)) (alen_cons (alen_cons alen0)))))) B.z_tuple) (dg_name 6 sc__law_right.nd))
  (dss_one (ds_if (dt_notB (dx_callC C_is_state run0_keeps run0_nox (hr.mono (by omega)) gd (da_cons (dx_var 1) (da_cons (dx_var 6) da_nil)) (alen_cons (alen_cons alen0))) dx_bl) (dss_one (ds_ret dx_bl)) dss_nil))))
  (dss_one (ds_ret (dx_and (dx_not (dx_any rfl (DO.dx (do_lc (own := [("one", 6)]) rfl sc__law_right.nd (di_seq (dx_callC C__law_beyond run0_keeps run0_nox (hr.mono (by omega)) gd (da_cons (dx_var 3) (da_cons (dx_var 4) da_nil)) (alen_cons (alen_cons alen0)))) (blkOk_by (N := N__law_right) (sc := defScope s__law_right) (own := [("one", 6)]) (by decide +kernel)) (by decide) (fun _ _ _ _ _ => (dg_name 6 sc__law_right.nd)) (fun _ _ _ _ _ => dts_nil) (fun _ _ _ _ _ => (dx_callC C_is_state run0_keeps run0_nox (hr.mono (by omega)) gd (da_cons (dx_var 1) (da_cons (dx_var 6) da_nil)) (alen_cons (alen_cons alen0)))))) B.z_any)) (dx_one (dx_eq hr.units (dx_repr gd hr.units (dx_var 1) B.z_repr) (dx_var 2)))))))))))))
theorem ok_law (B : Blt mg) {f : Addr} {fd : FuncData} (F : Fun K "law" "law" s_law f fd) (C__law_pail : CallOk P w K mg bs 1 "_law_pail" ["cell", "k"] F__law_pail) (C__law_right : CallOk P w K mg bs 4 "_law_right" ["pail"] F__law_right) : FnG P w K mg bs CX0 5 f fd ["script"] (spD K mg 1 F_law) := by
  refine def_ok (N := N_law) (k := 4) (body := b_law) F sc_law (by decide) fun cdv A out s H E hr gd => ?_
  exact (dss_cons (ds_for PassesOwn.never rfl (di_enum (da_cons (dx_sl (dx_add (dx_var 0) (DO.dx (do_lst (da_cons dx_int da_nil)))) dp_no (dp_of (dx_max2 rfl dx_int (dx_min2 rfl (dx_len (dx_var 0) B.z_len) dx_int B.z_min) B.z_max))) da_nil) B.z_enumerate) (dg_tup rfl (dgs_cons (dg_name 1 sc_law.nd) (dgs_cons (dg_name 2 sc_law.nd) dgs_nil))) (dss_one (ds_if (dt_not (dt_val (dx_callCO C__law_right run0_keeps run0_nox (hr.mono (by omega)) gd (do_callC C__law_pail run0_keeps run0_nox (hr.mono (by omega)) gd (da_cons (dx_var 2) (da_cons (dx_var 1) da_nil)) (alen_cons (alen_cons alen0))) rfl))) (dss_one (ds_ret dx_bl)) dss_nil)))
  (dss_one (ds_ret dx_bl)))
end
theorem all_mk {P : Program} {w : World} {K : PySem.W.Frag} {h : Heap} {mg : Str → Option Value} {fa : Addr} (X : K.In h) (G : h.Ns mainGlobals mg) (hfa : mg "law" = some (.ref fa))
  {f0 : Addr} {od0 an0 : Option Addr} {sl0 : Array (Option Value)} {oc0 kV0 dc0 pm0 cd0 ct0 : Value} (a0 : PySem.W.nsIn K mainGlobals "is_whole" = some (some (.ref f0))) (l0 : K.lookup f0 = some ⟨oc0, od0, .func (PySem.W.fnOf "is_whole" "is_whole" (defArgs s_is_whole) (defBody s_is_whole) (defScope s_is_whole) .none kV0 dc0 pm0 an0 cd0 ct0), sl0⟩) (c0 : PySem.W.codeIn K cd0 "is_whole" = true) (k0 : PySem.W.keepIn K (.ref f0) = true)
  {f1 : Addr} {od1 an1 : Option Addr} {sl1 : Array (Option Value)} {oc1 kV1 dc1 pm1 cd1 ct1 : Value} (a1 : PySem.W.nsIn K mainGlobals "is_row_of" = some (some (.ref f1))) (l1 : K.lookup f1 = some ⟨oc1, od1, .func (PySem.W.fnOf "is_row_of" "is_row_of" (defArgs s_is_row_of) (defBody s_is_row_of) (defScope s_is_row_of) .none kV1 dc1 pm1 an1 cd1 ct1), sl1⟩) (c1 : PySem.W.codeIn K cd1 "is_row_of" = true) (k1 : PySem.W.keepIn K (.ref f1) = true)
  {f2 : Addr} {od2 an2 : Option Addr} {sl2 : Array (Option Value)} {oc2 kV2 dc2 pm2 cd2 ct2 : Value} (a2 : PySem.W.nsIn K mainGlobals "is_state" = some (some (.ref f2))) (l2 : K.lookup f2 = some ⟨oc2, od2, .func (PySem.W.fnOf "is_state" "is_state" (defArgs s_is_state) (defBody s_is_state) (defScope s_is_state) .none kV2 dc2 pm2 an2 cd2 ct2), sl2⟩) (c2 : PySem.W.codeIn K cd2 "is_state" = true) (k2 : PySem.W.keepIn K (.ref f2) = true)
  {f3 : Addr} {od3 an3 : Option Addr} {sl3 : Array (Option Value)} {oc3 kV3 dc3 pm3 cd3 ct3 : Value} (a3 : PySem.W.nsIn K mainGlobals "all_rough" = some (some (.ref f3))) (l3 : K.lookup f3 = some ⟨oc3, od3, .func (PySem.W.fnOf "all_rough" "all_rough" (defArgs s_all_rough) (defBody s_all_rough) (defScope s_all_rough) .none kV3 dc3 pm3 an3 cd3 ct3), sl3⟩) (c3 : PySem.W.codeIn K cd3 "all_rough" = true) (k3 : PySem.W.keepIn K (.ref f3) = true)
  {f4 : Addr} {od4 an4 : Option Addr} {sl4 : Array (Option Value)} {oc4 kV4 dc4 pm4 cd4 ct4 : Value} (a4 : PySem.W.nsIn K mainGlobals "all_worn" = some (some (.ref f4))) (l4 : K.lookup f4 = some ⟨oc4, od4, .func (PySem.W.fnOf "all_worn" "all_worn" (defArgs s_all_worn) (defBody s_all_worn) (defScope s_all_worn) .none kV4 dc4 pm4 an4 cd4 ct4), sl4⟩) (c4 : PySem.W.codeIn K cd4 "all_worn" = true) (k4 : PySem.W.keepIn K (.ref f4) = true)
  {f5 : Addr} {od5 an5 : Option Addr} {sl5 : Array (Option Value)} {oc5 kV5 dc5 pm5 cd5 ct5 : Value} (a5 : PySem.W.nsIn K mainGlobals "_law_pail" = some (some (.ref f5))) (l5 : K.lookup f5 = some ⟨oc5, od5, .func (PySem.W.fnOf "_law_pail" "_law_pail" (defArgs s__law_pail) (defBody s__law_pail) (defScope s__law_pail) .none kV5 dc5 pm5 an5 cd5 ct5), sl5⟩) (c5 : PySem.W.codeIn K cd5 "_law_pail" = true) (k5 : PySem.W.keepIn K (.ref f5) = true)
  {f6 : Addr} {od6 an6 : Option Addr} {sl6 : Array (Option Value)} {oc6 kV6 dc6 pm6 cd6 ct6 : Value} (a6 : PySem.W.nsIn K mainGlobals "_law_dip" = some (some (.ref f6))) (l6 : K.lookup f6 = some ⟨oc6, od6, .func (PySem.W.fnOf "_law_dip" "_law_dip" (defArgs s__law_dip) (defBody s__law_dip) (defScope s__law_dip) .none kV6 dc6 pm6 an6 cd6 ct6), sl6⟩) (c6 : PySem.W.codeIn K cd6 "_law_dip" = true) (k6 : PySem.W.keepIn K (.ref f6) = true)
  {f7 : Addr} {od7 an7 : Option Addr} {sl7 : Array (Option Value)} {oc7 kV7 dc7 pm7 cd7 ct7 : Value} (a7 : PySem.W.nsIn K mainGlobals "_law_tie" = some (some (.ref f7))) (l7 : K.lookup f7 = some ⟨oc7, od7, .func (PySem.W.fnOf "_law_tie" "_law_tie" (defArgs s__law_tie) (defBody s__law_tie) (defScope s__law_tie) .none kV7 dc7 pm7 an7 cd7 ct7), sl7⟩) (c7 : PySem.W.codeIn K cd7 "_law_tie" = true) (k7 : PySem.W.keepIn K (.ref f7) = true)
  {f8 : Addr} {od8 an8 : Option Addr} {sl8 : Array (Option Value)} {oc8 kV8 dc8 pm8 cd8 ct8 : Value} (a8 : PySem.W.nsIn K mainGlobals "_law_yard" = some (some (.ref f8))) (l8 : K.lookup f8 = some ⟨oc8, od8, .func (PySem.W.fnOf "_law_yard" "_law_yard" (defArgs s__law_yard) (defBody s__law_yard) (defScope s__law_yard) .none kV8 dc8 pm8 an8 cd8 ct8), sl8⟩) (c8 : PySem.W.codeIn K cd8 "_law_yard" = true) (k8 : PySem.W.keepIn K (.ref f8) = true)
  {f9 : Addr} {od9 an9 : Option Addr} {sl9 : Array (Option Value)} {oc9 kV9 dc9 pm9 cd9 ct9 : Value} (a9 : PySem.W.nsIn K mainGlobals "_law_beyond" = some (some (.ref f9))) (l9 : K.lookup f9 = some ⟨oc9, od9, .func (PySem.W.fnOf "_law_beyond" "_law_beyond" (defArgs s__law_beyond) (defBody s__law_beyond) (defScope s__law_beyond) .none kV9 dc9 pm9 an9 cd9 ct9), sl9⟩) (c9 : PySem.W.codeIn K cd9 "_law_beyond" = true) (k9 : PySem.W.keepIn K (.ref f9) = true)
  {f10 : Addr} {od10 an10 : Option Addr} {sl10 : Array (Option Value)} {oc10 kV10 dc10 pm10 cd10 ct10 : Value} (a10 : PySem.W.nsIn K mainGlobals "_law_right" = some (some (.ref f10))) (l10 : K.lookup f10 = some ⟨oc10, od10, .func (PySem.W.fnOf "_law_right" "_law_right" (defArgs s__law_right) (defBody s__law_right) (defScope s__law_right) .none kV10 dc10 pm10 an10 cd10 ct10), sl10⟩) (c10 : PySem.W.codeIn K cd10 "_law_right" = true) (k10 : PySem.W.keepIn K (.ref f10) = true)
  {f11 : Addr} {od11 an11 : Option Addr} {sl11 : Array (Option Value)} {oc11 kV11 dc11 pm11 cd11 ct11 : Value} (a11 : PySem.W.nsIn K mainGlobals "law" = some (some (.ref f11))) (l11 : K.lookup f11 = some ⟨oc11, od11, .func (PySem.W.fnOf "law" "law" (defArgs s_law) (defBody s_law) (defScope s_law) .none kV11 dc11 pm11 an11 cd11 ct11), sl11⟩) (c11 : PySem.W.codeIn K cd11 "law" = true) (k11 : PySem.W.keepIn K (.ref f11) = true)
  (z_all : PySem.W.nsIn K mainGlobals "all" = some none)
  (z_any : PySem.W.nsIn K mainGlobals "any" = some none)
  (z_bool : PySem.W.nsIn K mainGlobals "bool" = some none)
  (z_enumerate : PySem.W.nsIn K mainGlobals "enumerate" = some none)
  (z_int : PySem.W.nsIn K mainGlobals "int" = some none)
  (z_isinstance : PySem.W.nsIn K mainGlobals "isinstance" = some none)
  (z_len : PySem.W.nsIn K mainGlobals "len" = some none)
  (z_max : PySem.W.nsIn K mainGlobals "max" = some none)
  (z_min : PySem.W.nsIn K mainGlobals "min" = some none)
  (z_range : PySem.W.nsIn K mainGlobals "range" = some none)
  (z_repr : PySem.W.nsIn K mainGlobals "repr" = some none)
  (z_tuple : PySem.W.nsIn K mainGlobals "tuple" = some none)
  (z_zip : PySem.W.nsIn K mainGlobals "zip" = some none)
  : ∃ fd : FuncData, (∀ (s : Shared) (v : Value), BindsTo s fd ⟨[v], []⟩ [("script", v)]) ∧ ∀ bs : Heap, K.In bs → bs.Ns mainGlobals mg → FnG P w K mg bs CX0 5 fa fd ["script"] (spD K mg 1 F_law) := by
  have e := hfa.symm.trans (PySem.W.mg_of X G a11)
  cases e
  have B : Blt mg := ⟨PySem.W.mg_none_of X G z_all, PySem.W.mg_none_of X G z_any, PySem.W.mg_none_of X G z_bool, PySem.W.mg_none_of X G z_enumerate, PySem.W.mg_none_of X G z_int, PySem.W.mg_none_of X G z_isinstance, PySem.W.mg_none_of X G z_len, PySem.W.mg_none_of X G z_max, PySem.W.mg_none_of X G z_min, PySem.W.mg_none_of X G z_range, PySem.W.mg_none_of X G z_repr, PySem.W.mg_none_of X G z_tuple, PySem.W.mg_none_of X G z_zip⟩
  have F0 : FunAt K mg "is_whole" "is_whole" s_is_whole ["thing", "low", "high"] := ⟨_, _, fun_mk (st := s_is_whole) l0 c0 k0, PySem.W.mg_of X G a0, (fun_mk (st := s_is_whole) l0 c0 k0).binds (ps := ["thing", "low", "high"]) fun _ _ _ _ _ _ us hl => match us, hl with | [_, _, _], _ => rfl⟩
  have F1 : FunAt K mg "is_row_of" "is_row_of" s_is_row_of ["many", "thing"] := ⟨_, _, fun_mk (st := s_is_row_of) l1 c1 k1, PySem.W.mg_of X G a1, (fun_mk (st := s_is_row_of) l1 c1 k1).binds (ps := ["many", "thing"]) fun _ _ _ _ _ _ us hl => match us, hl with | [_, _], _ => rfl⟩
  have F2 : FunAt K mg "is_state" "is_state" s_is_state ["ground", "thing"] := ⟨_, _, fun_mk (st := s_is_state) l2 c2 k2, PySem.W.mg_of X G a2, (fun_mk (st := s_is_state) l2 c2 k2).binds (ps := ["ground", "thing"]) fun _ _ _ _ _ _ us hl => match us, hl with | [_, _], _ => rfl⟩
  have F3 : FunKw K mg "all_rough" "all_rough" s_all_rough ["ground"] 0 := ⟨_, _, fun_mk (st := s_all_rough) l3 c3 k3, PySem.W.mg_of X G a3, (fun_mk (st := s_all_rough) l3 c3 k3).binds (ps := ["ground"]) (fun _ _ _ _ _ _ us hl => match us, hl with | [_], _ => rfl), fun us ws h1 h2 => match us, ws, h1, h2 with | [], [_], _, _ => rfl⟩
  have F4 : FunKw K mg "all_worn" "all_worn" s_all_worn ["ground"] 0 := ⟨_, _, fun_mk (st := s_all_worn) l4 c4 k4, PySem.W.mg_of X G a4, (fun_mk (st := s_all_worn) l4 c4 k4).binds (ps := ["ground"]) (fun _ _ _ _ _ _ us hl => match us, hl with | [_], _ => rfl), fun us ws h1 h2 => match us, ws, h1, h2 with | [], [_], _, _ => rfl⟩
  have F5 : FunAt K mg "_law_pail" "_law_pail" s__law_pail ["cell", "k"] := ⟨_, _, fun_mk (st := s__law_pail) l5 c5 k5, PySem.W.mg_of X G a5, (fun_mk (st := s__law_pail) l5 c5 k5).binds (ps := ["cell", "k"]) fun _ _ _ _ _ _ us hl => match us, hl with | [_, _], _ => rfl⟩
  have F6 : FunAt K mg "_law_dip" "_law_dip" s__law_dip ["pail", "many"] := ⟨_, _, fun_mk (st := s__law_dip) l6 c6 k6, PySem.W.mg_of X G a6, (fun_mk (st := s__law_dip) l6 c6 k6).binds (ps := ["pail", "many"]) fun _ _ _ _ _ _ us hl => match us, hl with | [_, _], _ => rfl⟩
  have F7 : FunAt K mg "_law_tie" "_law_tie" s__law_tie ["pail", "places"] := ⟨_, _, fun_mk (st := s__law_tie) l7 c7 k7, PySem.W.mg_of X G a7, (fun_mk (st := s__law_tie) l7 c7 k7).binds (ps := ["pail", "places"]) fun _ _ _ _ _ _ us hl => match us, hl with | [_, _], _ => rfl⟩
  have F8 : FunAt K mg "_law_yard" "_law_yard" s__law_yard ["pail"] := ⟨_, _, fun_mk (st := s__law_yard) l8 c8 k8, PySem.W.mg_of X G a8, (fun_mk (st := s__law_yard) l8 c8 k8).binds (ps := ["pail"]) fun _ _ _ _ _ _ us hl => match us, hl with | [_], _ => rfl⟩
  have F9 : FunAt K mg "_law_beyond" "_law_beyond" s__law_beyond ["low", "high"] := ⟨_, _, fun_mk (st := s__law_beyond) l9 c9 k9, PySem.W.mg_of X G a9, (fun_mk (st := s__law_beyond) l9 c9 k9).binds (ps := ["low", "high"]) fun _ _ _ _ _ _ us hl => match us, hl with | [_, _], _ => rfl⟩
  have F10 : FunAt K mg "_law_right" "_law_right" s__law_right ["pail"] := ⟨_, _, fun_mk (st := s__law_right) l10 c10 k10, PySem.W.mg_of X G a10, (fun_mk (st := s__law_right) l10 c10 k10).binds (ps := ["pail"]) fun _ _ _ _ _ _ us hl => match us, hl with | [_], _ => rfl⟩
  have F11 : FunAt K mg "law" "law" s_law ["script"] := ⟨_, _, fun_mk (st := s_law) l11 c11 k11, PySem.W.mg_of X G a11, (fun_mk (st := s_law) l11 c11 k11).binds (ps := ["script"]) fun _ _ _ _ _ _ us hl => match us, hl with | [_], _ => rfl⟩
  refine ⟨PySem.W.fnOf "law" "law" (defArgs s_law) (defBody s_law) (defScope s_law) .none kV11 dc11 pm11 an11 cd11 ct11, fun s v => .of_eq rfl, fun bs _ _ => ?_⟩
  have C_is_whole := ok_is_whole (P := P) (w := w) (bs := bs) B F0
  have C_is_row_of := ok_is_row_of (P := P) (w := w) (bs := bs) B F1
  have C_is_state := ok_is_state (P := P) (w := w) (bs := bs) B F2 C_is_whole C_is_row_of
  have C_all_rough := ok_all_rough (P := P) (w := w) (bs := bs) B F3
  have C_all_worn := ok_all_worn (P := P) (w := w) (bs := bs) B F4
  have C__law_pail := ok__law_pail (P := P) (w := w) (bs := bs) B F5
  have C__law_dip := ok__law_dip (P := P) (w := w) (bs := bs) B F6
  have C__law_tie := ok__law_tie (P := P) (w := w) (bs := bs) B F7 C__law_dip
  have C__law_yard := ok__law_yard (P := P) (w := w) (bs := bs) B F8 C__law_dip C__law_tie
  have C__law_beyond := ok__law_beyond (P := P) (w := w) (bs := bs) B F9
  have C__law_right := ok__law_right (P := P) (w := w) (bs := bs) B F10 C_is_state C_all_rough C_all_worn C__law_dip C__law_yard C__law_beyond
  exact ok_law B (fun_mk (st := s_law) l11 c11 k11) C__law_pail C__law_right
end Lk09
set_option Elab.async false
set_option linter.all false
set_option maxRecDepth 100000
set_option exponentiation.threshold 2000
namespace Lk09
open PySem PySem.Spec L2 M
def J (k : Nat) (d : D) : Prop := ∃ a b c : Int, d = .list [.int a, .int b, .int c] ∧ 0 ≤ a ∧ 0 ≤ b ∧ b < 10 ^ 50 ∧ 0 ≤ c ∧ c ≤ k
theorem J.mono {k k' : Nat} {d : D} (h : J k d) (hk : k ≤ k') : J k' d := by
  obtain ⟨a, b, c, q, h1, h2, h3, h4, h5⟩ := h
  exact ⟨a, b, c, q, h1, h2, h3, h4, by omega⟩
theorem log2_lt {i : Int} {n : Nat} (h0 : 0 ≤ i) (h : i < 2 ^ (n + 1)) : i.natAbs.log2 < n + 1 := by
  by_cases hz : i.natAbs = 0
  · rw [hz]; simp
  · rw [Nat.log2_lt hz]
    have : ((i.natAbs : Nat) : Int) < ((2 ^ (n + 1) : Nat) : Int) := by rw [Int.natAbs_of_nonneg h0]; push_cast; exact h
    exact_mod_cast this
theorem p10 (n : Nat) (h : n ≤ 100) : dPow (.int 10) (.int n) = some (.int (10 ^ n)) := by
  rw [dPow_i 10 n ⟨by omega, by omega, by decide⟩]; simp
theorem cube (a : Int) (h : a.natAbs.log2 < 100000) : dPow (.int a) (.int 3) = some (.int (a ^ 3)) := dPow_i a 3 ⟨by omega, by omega, h⟩
theorem fifth (a : Int) (h : a.natAbs.log2 < 100000) : dPow (.int a) (.int 5) = some (.int (a ^ 5)) := dPow_i a 5 ⟨by omega, by omega, h⟩
theorem lg {i : Int} (h0 : 0 ≤ i) (h : i < 10 ^ 60) : i.natAbs.log2 < 400 := log2_lt (n := 399) h0 (Int.lt_trans h (by decide))
theorem dip_ok {k : Nat} {jar : D} {m : Int} (hJ : J k jar) (hk : k < 1000000) (hm : 0 < m) (hm2 : m < 2 ^ 62) :
    ∃ (r : Int) (jar' : D), F__law_dip [.ow true jar, .sh (.int m)] = .ret false (.int r) [.ow true jar', .un] ∧ 0 ≤ r ∧ r < m ∧ J (k + 1) jar' := by
  obtain ⟨a, b, c, rfl, ha, hb, hb2, hc, hc2⟩ := hJ
  have lm : m.natAbs.log2 < 9000 := Nat.lt_of_lt_of_le (log2_lt (n := 61) (by omega) hm2) (by decide)
  unfold F__law_dip
  rw [run0_r _ _ _ (by simp)]
  by_cases h : 0 < a
  · refine ⟨a % m, .list [.int (a / m), .int b, .int c], ?_, Int.emod_nonneg _ (by omega), Int.emod_lt_of_pos _ hm, ⟨_, _, _, rfl, Int.ediv_nonneg ha (by omega), hb, hb2, hc, by omega⟩⟩
    simp [b__law_dip, h, dMod_i _ _ hm, dFdiv_i _ _ hm lm]
  · have P1 : (0 : Int) < 10 ^ 39 + 3 := by decide
    have P2 : (0 : Int) < 10 ^ 37 + 43 := by decide
    have z1 : (10 : Int) ^ 50 + 1000000000000000000 < 10 ^ 60 := by decide
    have lc := lg (i := c + 1) (by omega) (by omega)
    have e1 : dMulU (.int 479001599) (.int (c + 1)) = some (.int (479001599 * (c + 1))) := dMulU_i _ _ (by
      have : (479001599 : Int).natAbs.log2 = 28 := by decide
      omega)
    have e2 : dMulU (.int 86028121) (.int (c + 1)) = some (.int (86028121 * (c + 1))) := dMulU_i _ _ (by
      have : (86028121 : Int).natAbs.log2 = 26 := by decide
      omega)
    have l3 := lg (i := 86028121 * (c + 1)) (by omega) (by omega)
    have e3 : dMulU (.int (86028121 * (c + 1))) (.int (c + 1)) = some (.int (86028121 * (c + 1) * (c + 1))) := dMulU_i _ _ (by omega)
    have e4 : dPow (.int 10) (.int 39) = some (.int (10 ^ 39)) := p10 39 (by omega)
    have e5 : dPow (.int 10) (.int 37) = some (.int (10 ^ 37)) := p10 37 (by omega)
    have l4 := lg (i := b + 479001599 * (c + 1)) (by omega) (by omega)
    have e6 := cube (b + 479001599 * (c + 1)) (by omega)
    obtain ⟨t, ht⟩ : ∃ t, t = (b + 479001599 * (c + 1)) ^ 3 % (10 ^ 39 + 3) := ⟨_, rfl⟩
    have t0 : 0 ≤ t := by rw [ht]; exact Int.emod_nonneg _ (by omega)
    have t1 : t < 10 ^ 39 + 3 := by rw [ht]; exact Int.emod_lt_of_pos _ P1
    have c2 : 86028121 * (c + 1) * (c + 1) ≤ 86028121 * 1000000 * 1000000 := Int.mul_le_mul (by omega) (by omega) (by omega) (by omega)
    have c3 : 0 ≤ 86028121 * (c + 1) * (c + 1) := Int.mul_nonneg (by omega) (by omega)
    have z2 : (10 : Int) ^ 39 + 3 + 86028121 * 1000000 * 1000000 < 10 ^ 60 := by decide
    have e7 := fifth (t + 86028121 * (c + 1) * (c + 1)) (by have := lg (i := t + 86028121 * (c + 1) * (c + 1)) (by omega) (by omega); omega)
    refine ⟨(t + 86028121 * (c + 1) * (c + 1)) ^ 5 % (10 ^ 37 + 43) / 8192 % m, .list [.int a, .int b, .int (c + 1)], ?_, Int.emod_nonneg _ (by omega), Int.emod_lt_of_pos _ hm, ⟨_, _, _, rfl, ha, hb, hb2, by omega, by omega⟩⟩
    generalize hq : (10 : Int) ^ 39 = q39 at *
    generalize hq8 : (10 : Int) ^ 37 = q37 at *
    have l8 : (8192 : Int).natAbs.log2 < 9000 := by decide
    simp [b__law_dip, sAugIx, getAt, augAt, h, e1, e2, e3, e4, e5, e6, dMod_i _ _ hm, dMod_i _ _ P1, dMod_i _ _ P2, dFdiv_i _ _ (by decide : (0:Int) < 8192) l8, ← ht, e7]
theorem pail_ok (cell : Int) (k : Nat) (hk : k < 1000) : ∃ jar, F__law_pail [.sh (.int cell), .sh (.int k)] = .ret true jar [.un, .un] ∧ J 0 jar := by
  have e2 : dPow (.int 10) (.int 18) = some (.int (10 ^ 18)) := p10 18 (by omega)
  have e3 : dPow (.int 10) (.int 43) = some (.int (10 ^ 43)) := p10 43 (by omega)
  have P : (0 : Int) < 10 ^ 43 + 49 := by decide
  have x0 := Int.emod_nonneg cell (b := 10 ^ 43 + 49) (by omega)
  have x1 := Int.emod_lt_of_pos cell P
  have z1 : (10 : Int) ^ 43 + 49 + 1000000000 < 10 ^ 50 := by decide
  have z2 : (10 : Int) ^ 18 < 10 ^ 60 := by decide
  have lc := lg (i := (k : Int)) (by omega) (by omega)
  have e1 : dMulU (.int 7001) (.int k) = some (.int (7001 * k)) := dMulU_i _ _ (by
      have : (7001 : Int).natAbs.log2 = 12 := by decide
      omega)
  refine ⟨.list [.int (if 0 < cell - 10 ^ 18 then cell - 10 ^ 18 else 0), .int (cell % (10 ^ 43 + 49) + 7001 * k), .int 0], ?_, ⟨_, _, _, rfl, by split <;> omega, by omega, by omega, by omega, by omega⟩⟩
  unfold F__law_pail
  rw [run0_r _ _ _ (by simp)]
  generalize hq : (10 : Int) ^ 18 = q18 at *
  generalize hq8 : (10 : Int) ^ 43 = q38 at *
  simp [b__law_pail, e1, e2, e3, dMod_i _ _ P]
def Bd (n : Nat) (i : Int) : Prop := -(n : Int) ≤ i ∧ i ≤ n
def Tie (d : D) (h : Int) : Prop := ∃ a b r w : Int, d = .tuple [.int a, .int b, .int r, .int w, .int h] ∧ Bd 100 a ∧ Bd 100 b ∧ Bd 100 r ∧ Bd 100 w ∧ 1 ≤ h ∧ h ≤ 6
theorem tie_ok {k : Nat} {jar : D} {p : Int} (hJ : J k jar) (hk : k < 900000) (hp : 2 ≤ p) (hp8 : p ≤ 8) :
    ∃ (t : D) (h : Int) (jar' : D), F__law_tie [.ow true jar, .sh (.int p)] = .ret false t [.ow true jar', .un] ∧ Tie t h ∧ J (k + 10) jar' := by
  obtain ⟨r1, j1, e1, a1, b1, J1⟩ := dip_ok (m := p) hJ (by omega) (by omega) (by omega)
  obtain ⟨r2, j2, e2, a2, b2, J2⟩ := dip_ok (m := p - 1) J1 (by omega) (by omega) (by omega)
  have q := Int.emod_nonneg (r1 + 1 + r2) (b := p) (by omega)
  have q2 := Int.emod_lt_of_pos (r1 + 1 + r2) (b := p) (by omega)
  have em := dMod_i (r1 + 1 + r2) p (by omega)
  obtain ⟨r3, j3, e3, a3, b3, J3⟩ := dip_ok (m := 98) J2 (by omega) (by omega) (by omega)
  obtain ⟨r4, j4, e4, a4, b4, J4⟩ := dip_ok (m := 5) J3 (by omega) (by omega) (by omega)
  obtain ⟨r5, j5, e5, a5, b5, J5⟩ := dip_ok (m := 4) J4 (by omega) (by omega) (by omega)
  obtain ⟨ro, hro, n1, n2⟩ : ∃ n : Int, atI ([.int 2, .int 99, .int (2 + r3), .int (2 + r4)] : List D) r5 = some (.int n) ∧ 2 ≤ n ∧ n ≤ 99 := by
    rcases (by omega : r5 = 0 ∨ r5 = 1 ∨ r5 = 2 ∨ r5 = 3) with rfl | rfl | rfl | rfl
    · exact ⟨2, by simp, by omega, by omega⟩
    · exact ⟨99, by simp, by omega, by omega⟩
    · exact ⟨2 + r3, by simp, by omega, by omega⟩
    · exact ⟨2 + r4, by simp, by omega, by omega⟩
  obtain ⟨r6, j6, e6, a6, b6, J6⟩ := dip_ok (m := ro - 1) J5 (by omega) (by omega) (by omega)
  obtain ⟨r7, j7, e7, a7, b7, J7⟩ := dip_ok (m := 3) J6 (by omega) (by omega) (by omega)
  obtain ⟨wo, hwo, w1, w2⟩ : ∃ n : Int, atI ([.int (1 + r6), .int (ro - 1), .int 1] : List D) r7 = some (.int n) ∧ 1 ≤ n ∧ n ≤ 99 := by
    rcases (by omega : r7 = 0 ∨ r7 = 1 ∨ r7 = 2) with rfl | rfl | rfl
    · exact ⟨1 + r6, by simp, by omega, by omega⟩
    · exact ⟨ro - 1, by simp, by omega, by omega⟩
    · exact ⟨1, by simp, by omega, by omega⟩
  obtain ⟨r8, j8, e8, a8, b8, J8⟩ := dip_ok (m := 6) J7 (by omega) (by omega) (by omega)
  obtain ⟨r9, j9, e9, a9, b9, J9⟩ := dip_ok (m := 3) J8 (by omega) (by omega) (by omega)
  obtain ⟨he, hhe, h1, h2⟩ : ∃ n : Int, atI ([.int 1, .int 6, .int (1 + r8)] : List D) r9 = some (.int n) ∧ 1 ≤ n ∧ n ≤ 6 := by
    rcases (by omega : r9 = 0 ∨ r9 = 1 ∨ r9 = 2) with rfl | rfl | rfl
    · exact ⟨1, by simp, by omega, by omega⟩
    · exact ⟨6, by simp, by omega, by omega⟩
    · exact ⟨1 + r8, by simp, by omega, by omega⟩
  refine ⟨_, he, j9, ?_, ⟨if (r1 + 1 + r2) % p < r1 then (r1 + 1 + r2) % p else r1, if r1 < (r1 + 1 + r2) % p then (r1 + 1 + r2) % p else r1, ro, wo, rfl, ?_, ?_, ?_, ?_, h1, h2⟩, J9.mono (by omega)⟩
  · unfold F__law_tie
    rw [run0_r _ _ _ (by simp)]
    simp [b__law_tie, e1, e2, em, e3, e4, e5, hro, e6, e7, hwo, e8, e9, hhe]
  all_goals (unfold Bd at *; (try split) <;> omega)
end Lk09
set_option Elab.async false
set_option linter.all false
set_option maxRecDepth 100000
namespace Lk09
open PySem PySem.Spec L2 M
def hl : D → Int
  | .tuple [_, _, _, _, .int h] => h
  | _ => 0
def T (t : D) : Prop := Tie t (hl t)
theorem Tie.t {t : D} {h : Int} (z : Tie t h) : T t := by
  obtain ⟨a, b, r, w, rfl, z⟩ := z
  exact ⟨a, b, r, w, rfl, z⟩
theorem yard_ok {k : Nat} {jar : D} (hJ : J k jar) (hk : k < 700000) :
    ∃ (p : Int) (ts : List D) (jar' : D), F__law_yard [.ow true jar] = .ret false (.tuple [.int p, .tuple ts]) [.ow true jar'] ∧ Bd 100 p ∧ 1 ≤ ts.length ∧ ts.length ≤ 14 ∧ (∀ t ∈ ts, T t) ∧ J (k + 200) jar' := by
  obtain ⟨r1, j1, e1, a1, b1, J1⟩ := dip_ok (m := 7) hJ (by omega) (by omega) (by omega)
  obtain ⟨r2, j2, e2, a2, b2, J2⟩ := dip_ok (m := 3) J1 (by omega) (by omega) (by omega)
  obtain ⟨p, hp, p1, p2⟩ : ∃ n : Int, atI ([.int (2 + r1), .int 2, .int 8] : List D) r2 = some (.int n) ∧ 2 ≤ n ∧ n ≤ 8 := by
    rcases (by omega : r2 = 0 ∨ r2 = 1 ∨ r2 = 2) with rfl | rfl | rfl
    · exact ⟨2 + r1, by simp, by omega, by omega⟩
    · exact ⟨2, by simp, by omega, by omega⟩
    · exact ⟨8, by simp, by omega, by omega⟩
  obtain ⟨r3, j3, e3, a3, b3, J3⟩ := dip_ok (m := 5) J2 (by omega) (by omega) (by omega)
  obtain ⟨r4, j4, e4, a4, b4, J4⟩ := dip_ok (m := 14) J3 (by omega) (by omega) (by omega)
  obtain ⟨r5, j5, e5, a5, b5, J5⟩ := dip_ok (m := 3) J4 (by omega) (by omega) (by omega)
  obtain ⟨n, hn, n1, n2⟩ : ∃ n : Int, atI ([.int (1 + r3), .int (1 + r4), .int 14] : List D) r5 = some (.int n) ∧ 1 ≤ n ∧ n ≤ 14 := by
    rcases (by omega : r5 = 0 ∨ r5 = 1 ∨ r5 = 2) with rfl | rfl | rfl
    · exact ⟨1 + r3, by simp, by omega, by omega⟩
    · exact ⟨1 + r4, by simp, by omega, by omega⟩
    · exact ⟨14, by simp, by omega, by omega⟩
  let I : Nat → List D → En → Prop := fun m acc e => ∃ jar, e = [.ow true jar, .sh (.int p), .sh (.int n), .un] ∧ J (k + 10 + 10 * m) jar ∧ ∀ t ∈ acc, T t
  obtain ⟨ts, e', q, ql, jar', rfl, qJ, qT⟩ := lc_inv (g := gN 3) (t := tYes1) (f := b__law_yard_C1) (own := [3]) I (rangeD 0 n.toNat) 0 [] [.ow true j5, .sh (.int p), .sh (.int n), .un] ⟨j5, rfl, J5.mono (by omega), by simp⟩ (by simp; omega) (by
    rintro j d acc e hj ⟨jar, rfl, hJ, hT⟩
    obtain ⟨rfl, hj2⟩ := range_at hj
    obtain ⟨t, h, jar', et, hTt, J'⟩ := tie_ok (p := p) hJ (by omega) p1 p2
    refine ⟨_, _, [.ow true jar', .sh (.int p), .sh (.int n), .sh (.int (0 + (j : Int)))], t, gN_r _ _ _, rfl, by simp [b__law_yard_C1, wipeE, et], jar', by simp [restE], J'.mono (by omega), ?_⟩
    intro u hu
    rcases List.mem_append.1 hu with h | h
    · exact hT u h
    · rw [List.mem_singleton.1 h]; exact hTt.t)
  rw [range_len] at ql qJ
  refine ⟨p, ts, jar', ?_, by unfold Bd; omega, by simp at ql; omega, by simp at ql; omega, qT, qJ.mono (by omega)⟩
  unfold F__law_yard
  rw [run0_r _ _ _ (by simp)]
  have on : okR n = true := okR_of (by omega) (by omega)
  simp [b__law_yard, e1, e2, hp, e3, e4, e5, hn, rngOf_i _ _ on, q]
theorem flat_one (n : Nat) (d : D) : (List.replicate n [d]).flatten = List.replicate n d := by
  induction n with
  | zero => rfl
  | succ n ih => rw [List.replicate_succ, List.flatten_cons, ih]; rfl
theorem rough_ok {p : D} {ts : List D} (h1 : 1 ≤ ts.length) (h2 : ts.length ≤ 14) : F_all_rough [.sh (.tuple [p, .tuple ts])] = .ret false (.tuple ((List.replicate ts.length (0 : Int)).map .int)) [.un] := by
  have e := dMulT_i [.int 0] (ts.length : Int) ⟨by simp, by omega, by omega, by simp⟩
  rw [Int.toNat_natCast, flat_one] at e
  unfold F_all_rough
  rw [run0_r _ _ _ (by simp)]
  simp [b_all_rough, e]
def hc : D → D := fun t => .int (hl t)
theorem worn_ok {p : D} {ts : List D} (hT : ∀ t ∈ ts, T t) (h2 : ts.length ≤ 14) : F_all_worn [.sh (.tuple [p, .tuple ts])] = .ret false (.tuple ((ts.map hl).map .int)) [.un] := by
  have q := lc_map (g := gT [(gN 1), (gN 2), (gN 3), (gN 4), (gN 5)]) (t := tYes1) (f := b_all_worn_C1) (own := [1, 2, 3, 4, 5])
    (e := [.sh (.tuple [p, .tuple ts]), .un, .un, .un, .un, .un]) hc ts [] (by simp; omega) (by
      intro d hd
      obtain ⟨a, b, r, w, e, _⟩ := hT d hd
      generalize hq : hl d = h at e
      subst e
      refine ⟨_, _, [.sh (.tuple [p, .tuple ts]), .sh (.int a), .sh (.int b), .sh (.int r), .sh (.int w), .sh (.int h)], by simp [wipeE]; rfl, rfl, ?_, ?_⟩
      · simp [b_all_worn_C1, hc, hq]
      · simp [restE])
  unfold F_all_worn
  rw [run0_r _ _ _ (by simp)]
  simp at q
  simp [b_all_worn, q, hc]
theorem kb_ii : kitB "int" "int" = some true := by decide +kernel
theorem whole_ok (x h : Int) : F_is_whole [.sh (.int x), .sh (.int 0), .sh (.int h)] = .ret false (.bool (decide (0 ≤ x ∧ x ≤ h))) [.un, .un, .un] := by
  have i1 : dIsi "int" (.int x) = some (.bool true) := by simp [dIsi, noFT, tyD, kb_ii]
  have i2 : dIsi "bool" (.int x) = some (.bool false) := by simp [dIsi, noFT, tyD, kb_ib]
  unfold F_is_whole
  rw [run0_r _ _ _ (by simp)]
  by_cases h0 : 0 ≤ x
  · simp [b_is_whole, i1, i2, h0]
  · simp [b_is_whole, i1, i2, h0]
def okS : List Int → List D → List Bool
  | x :: xs, t :: ts => decide (0 ≤ x ∧ x ≤ hl t) :: okS xs ts
  | _, _ => []
def sc : D → D
  | .tuple [.int x, t] => .bool (decide (0 ≤ x ∧ x ≤ hl t))
  | _ => .none
theorem zip_ok : ∀ (xs : List Int) (ts : List D), (zipD (xs.map .int) ts).map sc = (okS xs ts).map .bool
  | [], ts => by simp [zipD, okS]
  | _ :: _, [] => by simp [zipD, okS]
  | x :: xs, t :: ts => by simp [zipD, okS, sc]; exact zip_ok xs ts
theorem zip_mem : ∀ (xs : List Int) (ts : List D) (d : D), d ∈ zipD (xs.map .int) ts → ∃ x t, d = .tuple [.int x, t] ∧ t ∈ ts
  | [], _, d, h => by simp [zipD] at h
  | _ :: _, [], d, h => by simp [zipD] at h
  | x :: xs, t :: ts, d, h => by
    simp only [List.map_cons, zipD] at h
    rcases List.mem_cons.1 h with rfl | h
    · exact ⟨x, t, rfl, List.mem_cons_self ..⟩
    · obtain ⟨u, y, r, a⟩ := zip_mem xs ts d h
      exact ⟨u, y, r, List.mem_cons_of_mem _ a⟩
theorem zip_len : ∀ (ts us : List D), (zipD ts us).length ≤ us.length
  | [], _ => by simp [zipD]
  | _ :: _, [] => by simp [zipD]
  | t :: ts, x :: xs => by simp [zipD]; exact zip_len ts xs
theorem bsD_map : ∀ bs : List Bool, bsD (bs.map .bool) = some bs
  | [] => rfl
  | b :: bs => by simp [bsD, bsD_map bs]
theorem state_is {p : D} {ts : List D} {xs : List Int} (hT : ∀ t ∈ ts, T t) (h2 : ts.length ≤ 14) (hx : xs.length = ts.length) :
    F_is_state [.sh (.tuple [p, .tuple ts]), .sh (.tuple (xs.map .int))] = .ret false (.bool ((okS xs ts).all id)) [.un, .un] := by
  have q := lc_map (g := gT [(gN 4), (gN 5)]) (t := tYes1) (f := b_is_state_C1) (own := [4, 5])
    (e := [.sh (.tuple [p, .tuple ts]), .sh (.tuple (xs.map .int)), .sh p, .sh (.tuple ts), .un, .un]) sc (zipD (xs.map .int) ts) [] (by have := zip_len (xs.map .int) ts; simp; omega) (by
      intro d hd
      obtain ⟨x, t, rfl, ht⟩ := zip_mem _ _ _ hd
      obtain ⟨a, b, r, w, e, _⟩ := hT t ht
      generalize hq : hl t = h at e
      subst e
      refine ⟨_, _, [.sh (.tuple [p, .tuple ts]), .sh (.tuple (xs.map .int)), .sh p, .sh (.tuple ts), .sh (.int x), .sh (.tuple [.int a, .int b, .int r, .int w, .int h])], by simp [wipeE]; rfl, rfl, ?_, ?_⟩
      · simp [b_is_state_C1, whole_ok, sc, hq]
      · simp [restE])
  rw [zip_ok] at q
  have i1 : dIsi "tuple" (.tuple (xs.map .int)) = some (.bool true) := by simp [dIsi, noFT, tyD, kb_tt]
  have r1 : F_is_row_of [.sh (.int ts.length), .sh (.tuple (xs.map .int))] = .ret false (.bool true) [.un, .un] := by
    unfold F_is_row_of
    rw [run0_r _ _ _ (by simp)]
    simp [b_is_row_of, i1, hx]
  unfold F_is_state
  rw [run0_r _ _ _ (by simp)]
  simp at q
  simp [b_is_state, r1, q, dAll, bsD_map]
end Lk09
set_option Elab.async false
set_option linter.all false
set_option maxRecDepth 100000
namespace Lk09
open PySem PySem.Spec L2 M
theorem cut_to (xs : List D) (k : Nat) (h : k ≤ xs.length) : cutD xs none (some (k : Int)) = xs.take k := by
  have e : HT.sIx xs.length xs.length (some (k : Int)) = k := by rw [HT.sIx_nat]; omega
  have e0 : HT.sIx xs.length 0 none = 0 := by unfold HT.sIx; rfl
  unfold cutD; rw [e, e0]; simp
theorem cut_from (xs : List D) (k : Nat) (h : k ≤ xs.length) : cutD xs (some (k : Int)) none = xs.drop k := by
  have e : HT.sIx xs.length 0 (some (k : Int)) = k := by rw [HT.sIx_nat]; omega
  have e0 : HT.sIx xs.length xs.length none = xs.length := by unfold HT.sIx; rfl
  unfold cutD; rw [e, e0, List.take_of_length_le (by simp)]
def Bad (ts : List D) (d : D) : Prop := ∃ ys : List Int, d = .tuple (ys.map .int) ∧ ys.length = ts.length ∧ (okS ys ts).all id = false
theorem set_form (xs : List Int) (k : Nat) (v : Int) (h : k < xs.length) : xs.take k ++ [v] ++ xs.drop (k + 1) = xs.set k v := by
  rw [List.set_eq_take_append_cons_drop, if_pos h]; simp
theorem okS_set : ∀ (xs : List Int) (ts : List D) (k : Nat) (v : Int) (t : D), xs.length = ts.length → ts[k]? = some t → ¬ (0 ≤ v ∧ v ≤ hl t) → (okS (xs.set k v) ts).all id = false
  | [], [], k, v, t, _, h, _ => by simp at h
  | x :: xs, u :: ts, 0, v, t, _, h, hv => by
    simp at h; subst h
    simp only [List.set_cons_zero, okS, List.all_cons, decide_eq_false hv, id, Bool.false_and]
  | x :: xs, u :: ts, k + 1, v, t, hl', h, hv => by
    have ih := okS_set xs ts k v t (by simpa using hl') (by simpa using h) hv
    simp only [List.set_cons_succ, okS, List.all_cons, ih, Bool.and_false]
theorem beyond_step {ts : List D} {lo hi : List Int} {L : List D} {s2 : Sl} {j : Nat} (h1 : lo.length = ts.length) (h2 : hi.length = ts.length) (hj : j < ts.length) (ht : ts.length ≤ 14) (hL : L.length ≤ 100) (hs : s2 = .ow false (.list L) ∨ s2 = .sh (.list L)) {v : Int} (hv : hi[j]? = some v) :
    b__law_beyond_L1 [.sh (.tuple (lo.map .int)), .sh (.tuple (hi.map .int)), s2, .sh (.int (j : Int))] =
      .nx [.sh (.tuple (lo.map .int)), .sh (.tuple (hi.map .int)), .sh (.list (L ++ [.tuple ((lo.set j (-1)).map .int), .tuple ((hi.set j (v + 1)).map .int)])), .sh (.int (j : Int))] := by
  have c1 := cut_to (lo.map .int) j (by simp; omega)
  have c2 := cut_from (lo.map .int) (j + 1) (by simp; omega)
  have c3 := cut_to (hi.map .int) j (by simp; omega)
  have c4 := cut_from (hi.map .int) (j + 1) (by simp; omega)
  rw [show ((j + 1 : Nat) : Int) = (j : Int) + 1 by omega] at c2 c4
  have m1 : (lo.take j).length ≤ 14 := by simp; omega
  have m2 : (lo.drop (j + 1)).length ≤ 14 := by simp; omega
  have m3 : (hi.take j).length ≤ 14 := by simp; omega
  have m4 : (hi.drop (j + 1)).length ≤ 14 := by simp; omega
  have q1 : (List.take j (lo.map PyData.int) ++ [.int (-1)] ++ List.drop (j + 1) (lo.map .int)) = (lo.set j (-1)).map .int := by
    rw [← set_form lo j (-1) (by omega)]; simp [List.map_take, List.map_drop]
  have q2 : (List.take j (hi.map PyData.int) ++ [.int (v + 1)] ++ List.drop (j + 1) (hi.map .int)) = (hi.set j (v + 1)).map .int := by
    rw [← set_form hi j (v + 1) (by omega)]; simp [List.map_take, List.map_drop]
  have a1 : dAddU (.tuple (List.take j (lo.map PyData.int))) (.tuple [.int (-1)]) = some (.tuple (List.take j (lo.map PyData.int) ++ [.int (-1)])) := by
    simp [dAddU, small]; omega
  have a2 : dAddU (.tuple (List.take j (lo.map PyData.int) ++ [.int (-1)])) (.tuple (List.drop (j + 1) (lo.map PyData.int))) = some (.tuple ((lo.set j (-1)).map .int)) := by
    rw [← q1]; simp [dAddU, small]; omega
  have a3 : dAddU (.tuple (List.take j (hi.map PyData.int))) (.tuple [.int (v + 1)]) = some (.tuple (List.take j (hi.map PyData.int) ++ [.int (v + 1)])) := by
    simp [dAddU, small]; omega
  have a4 : dAddU (.tuple (List.take j (hi.map PyData.int) ++ [.int (v + 1)])) (.tuple (List.drop (j + 1) (hi.map PyData.int))) = some (.tuple ((hi.set j (v + 1)).map .int)) := by
    rw [← q2]; simp [dAddU, small]; omega
  have a5 : dAddU (.list L) (.list [.tuple ((lo.set j (-1)).map .int), .tuple ((hi.set j (v + 1)).map .int)]) = some (.list (L ++ [.tuple ((lo.set j (-1)).map .int), .tuple ((hi.set j (v + 1)).map .int)])) := by
    simp [dAddU, small]; omega
  have n1 : dNeg (.int 1) = some (.int (-1)) := rfl
  simp only [List.map_set, List.map_take, List.map_drop] at *
  rcases hs with rfl | rfl <;> simp [b__law_beyond_L1, eSl, ePart, c1, c2, c3, c4, n1, a1, a2, a3, a4, a5, atI_natE, hv]
theorem beyond_ok {ts : List D} {lo hi : List Int} (h1 : lo.length = ts.length) (h2 : hi.length = ts.length) (ht0 : 1 ≤ ts.length) (ht : ts.length ≤ 14) (hi' : ∀ (j : Nat) (t : D), ts[j]? = some t → hi[j]? = some (hl t)) :
    ∃ (o : Bool) (L : List D), F__law_beyond [.sh (.tuple (lo.map .int)), .sh (.tuple (hi.map .int))] = .ret o (.list L) [.un, .un] ∧ L.length ≤ 28 ∧ ∀ d ∈ L, Bad ts d := by
  let I : Nat → En → Prop := fun m e => ∃ (L : List D) (s2 s3 : Sl), e = [.sh (.tuple (lo.map .int)), .sh (.tuple (hi.map .int)), s2, s3] ∧ (s2 = .ow false (.list L) ∨ s2 = .sh (.list L)) ∧ L.length = 2 * m ∧ ∀ d ∈ L, Bad ts d
  obtain ⟨e', q, L, s2, s3, rfl, hs, hL, hB⟩ := for_inv (g := gN 3) (body := b__law_beyond_L1) I (rangeD 0 lo.length) 0 [.sh (.tuple (lo.map .int)), .sh (.tuple (hi.map .int)), .ow false (.list []), .un] ⟨[], _, _, rfl, .inl rfl, rfl, by simp⟩ (by
    rintro j d e hj ⟨L, s2, s3, rfl, hs, hL, hB⟩
    obtain ⟨rfl, hj2⟩ := range_at hj
    obtain ⟨t, ht2⟩ : ∃ t, ts[j]? = some t := ⟨_, List.getElem?_eq_getElem (by omega)⟩
    have b := beyond_step (lo := lo) (hi := hi) (L := L) (s2 := s2) (j := j) h1 h2 (by omega) ht (by omega) hs (hi' j t ht2)
    refine ⟨_, _, gN_r _ _ _, .inl (by rw [Int.zero_add]; exact b), _, _, _, rfl, .inr rfl, by simp; omega, ?_⟩
    intro u hu
    rcases List.mem_append.1 hu with h | h
    · exact hB u h
    · simp at h
      rcases h with rfl | rfl
      · exact ⟨lo.set j (-1), by simp [List.map_set], by simp [h1], okS_set _ _ _ _ t h1 ht2 (by omega)⟩
      · exact ⟨hi.set j (hl t + 1), by simp [List.map_set], by simp [h2], okS_set _ _ _ _ t h2 ht2 (by omega)⟩)
  rw [range_len] at hL
  have on : okR (lo.length : Int) = true := okR_of (by omega) (by omega)
  have main : F__law_beyond [.sh (.tuple (lo.map .int)), .sh (.tuple (hi.map .int))] = retSR [.sh (.tuple (lo.map .int)), .sh (.tuple (hi.map .int))] (retSl 2 [.sh (.tuple (lo.map .int)), .sh (.tuple (hi.map .int)), s2, s3] (some s2)) := by
    unfold F__law_beyond
    rw [run0_r _ _ _ (by simp)]
    simp [b__law_beyond, rngOf_i _ _ on, q]
  rcases hs with rfl | rfl
  · exact ⟨true, L, by rw [main]; simp, by omega, hB⟩
  · exact ⟨false, L, by rw [main]; simp, by omega, hB⟩
end Lk09
set_option Elab.async false
set_option linter.all false
set_option maxRecDepth 100000
namespace Lk09
open PySem PySem.Spec L2 M
theorem shp_parts {d : D} (h : SeqAt.shaped d = true) : d.canLay0 = true := by
  unfold SeqAt.shaped at h
  simp only [Bool.and_eq_true] at h
  exact h.1
theorem dNe_same {d : D} (h1 : nd d = true) (h2 : SeqAt.shaped d = true) : dNe d d = some (.bool false) := by
  have e : dNeN d d = some (.bool false) := by
    unfold dNeN
    rw [if_pos (by simp [h1, h2]), PySem.SeqAt.eqv_refl d (shp_parts h2)]; rfl
  cases d <;> first | exact e | simp
theorem ints_fine (xs : List Int) : nd (.tuple (xs.map .int)) = true ∧ SeqAt.shaped (.tuple (xs.map .int)) = true ∧ nd (.list [.tuple (xs.map .int)]) = true ∧ SeqAt.shaped (.list [.tuple (xs.map .int)]) = true := by
  have n1 := nds_all (xs := xs.map .int) fun t h => by obtain ⟨i, _, rfl⟩ := List.mem_map.1 h; rfl
  have l1 := layAll_all (xs := xs.map .int) fun t h => by obtain ⟨i, _, rfl⟩ := List.mem_map.1 h; simp [PyData.canLay0]
  have d1 := depthAll_le (n := 1) (xs := xs.map .int) fun t h => by obtain ⟨i, _, rfl⟩ := List.mem_map.1 h; simp [PyData.depth]
  refine ⟨by simp [nd, n1], ?_, by simp [nd, nds, n1], ?_⟩
  · simp [SeqAt.shaped, PyData.canLay0, PyData.depth, l1]; omega
  · simp [SeqAt.shaped, PyData.canLay0, PyData.canLayAll0, PyData.depth, PyData.depthAll, l1]; omega
theorem okS_true : ∀ (xs : List Int) (ts : List D), (∀ (i : Nat) (x : Int) (t : D), xs[i]? = some x → ts[i]? = some t → 0 ≤ x ∧ x ≤ hl t) → (okS xs ts).all id = true
  | [], _, _ => by simp [okS]
  | _ :: _, [], _ => by simp [okS]
  | x :: xs, t :: ts, h => by
    have ih := okS_true xs ts fun i x t a b => h (i + 1) x t (by simpa using a) (by simpa using b)
    have h0 := h 0 x t rfl rfl
    simp only [okS, List.all_cons, ih, Bool.and_true, id, decide_eq_true_eq]
    exact h0
theorem turn_step {k : Nat} {jar p : D} {ts : List D} {K L : D} {s5 s6 : Sl} (hJ : J k jar) (hk : k < 900000) (hT : ∀ t ∈ ts, T t) (h2 : ts.length ≤ 14) :
    ∃ (jar' : D) (one : D), b__law_right_L3 [.ow true jar, .sh (.tuple [p, .tuple ts]), .sh K, .sh L, .sh (.tuple ((ts.map hl).map .int)), s5, s6, .un, .un] =
      .nx [.ow true jar', .sh (.tuple [p, .tuple ts]), .sh K, .sh L, .sh (.tuple ((ts.map hl).map .int)), s5, .sh one, .un, .un] ∧ J (k + 20) jar' := by
  let I : Nat → List D → En → Prop := fun n acc e => ∃ (jar : D) (xs : List Int), e = [.ow true jar, .sh (.tuple [p, .tuple ts]), .sh K, .sh L, .sh (.tuple ((ts.map hl).map .int)), s5, s6, .un, .un] ∧ J (k + n) jar ∧ acc = xs.map .int ∧ xs.length = n ∧ ∀ (i : Nat) (x : Int) (t : D), xs[i]? = some x → ts[i]? = some t → 0 ≤ x ∧ x ≤ hl t
  obtain ⟨acc', e', q, ql, jar', xs, rfl, qJ, rfl, qx, qO⟩ := lc_inv (g := gN 7) (t := tYes1) (f := b__law_right_C2) (own := [7]) I ((ts.map hl).map .int) 0 [] [.ow true jar, .sh (.tuple [p, .tuple ts]), .sh K, .sh L, .sh (.tuple ((ts.map hl).map .int)), s5, s6, .un, .un] ⟨jar, [], rfl, hJ, rfl, rfl, by simp⟩ (by simp; omega) (by
    rintro j d acc e hj ⟨jar, xs, rfl, hJ, rfl, hx, hO⟩
    obtain ⟨t, ht, rfl⟩ : ∃ t, ts[j]? = some t ∧ d = .int (hl t) := by
      simp at hj
      obtain ⟨t, a, b⟩ := hj
      exact ⟨t, a, b.symm⟩
    have hjl : j < ts.length := (List.getElem?_eq_some_iff.1 ht).1
    obtain ⟨_, _, _, _, _, _, _, _, _, h1, h6⟩ := hT t (List.mem_of_getElem? ht)
    obtain ⟨r, j1, e1, r0, r1, J1⟩ := dip_ok (m := hl t + 1) hJ (by omega) (by omega) (by omega)
    refine ⟨_, _, [.ow true j1, .sh (.tuple [p, .tuple ts]), .sh K, .sh L, .sh (.tuple ((ts.map hl).map .int)), s5, s6, .sh (.int (hl t)), .un], .int r, gN_r _ _ _, rfl, by simp [b__law_right_C2, wipeE, e1], j1, xs ++ [r], by simp [restE], J1.mono (by omega), by simp, by simp; omega, ?_⟩
    intro i x u hi hu
    by_cases z : i < xs.length
    · rw [List.getElem?_append_left z] at hi; exact hO i x u hi hu
    · have hi2 := (List.getElem?_eq_some_iff.1 hi).1
      simp at hi2
      have : i = j := by omega
      subst this
      rw [hu] at ht; cases ht
      rw [List.getElem?_append_right (by omega)] at hi
      have e0 : i - xs.length = 0 := by omega
      rw [e0] at hi; simp at hi; subst hi
      omega)
  have st := state_is (p := p) (xs := xs) hT h2 (by simp at ql; simpa using ql)
  rw [okS_true xs ts qO] at st
  refine ⟨jar', .tuple (xs.map .int), ?_, qJ.mono (by simp; omega)⟩
  simp at q st
  simp [b__law_right_L3, q, st]
theorem bd_show {i : Int} (h : Bd 100 i) : (PyData.int i).showable = true := by
  unfold Bd at h
  simp only [PyData.showable, decide_eq_true_eq]
  have : i.natAbs.log2 ≤ i.natAbs := Nat.log2_le_self _
  omega
theorem tie_fine {t : D} (h : T t) : t.showable = true ∧ nd t = true ∧ t.depth ≤ 2 ∧ wt t ≤ 9700 := by
  obtain ⟨a, b, r, w, e, h1, h2, h3, h4, h5, h6⟩ := h
  generalize hl t = g at e h5 h6
  subst e
  refine ⟨?_, rfl, by simp [PyData.depth, PyData.depthAll], by simp [wt, wts]⟩
  simp [PyData.showable, PyData.showableAll] at *
  have := bd_show h1; have := bd_show h2; have := bd_show h3; have := bd_show h4; have := bd_show (i := g) (by unfold Bd; omega)
  simp [PyData.showable] at *
  omega
theorem repr_ok {p : Int} {ts : List D} (hp : Bd 100 p) (hT : ∀ t ∈ ts, T t) (h2 : ts.length ≤ 14) : dRepr (.tuple [.int p, .tuple ts]) = some (.str (PyData.tuple [.int p, .tuple ts]).shown) := by
  have w1 := wts_le (n := 9700) (xs := ts) fun t h => (tie_fine (hT t h)).2.2.2
  have s1 := showableAll_all (xs := ts) fun t h => (tie_fine (hT t h)).1
  have n1 := nds_all (xs := ts) fun t h => (tie_fine (hT t h)).2.1
  have d1 := depthAll_le (n := 2) (xs := ts) fun t h => (tie_fine (hT t h)).2.2.1
  have sp := bd_show hp
  refine dRepr_ok rfl ?_ ?_ ?_ ?_
  · simp [nd, nds, n1]
  · simp [PyData.showable, PyData.showableAll, s1] at *; exact sp
  · simp only [PyData.depth, PyData.depthAll]; omega
  · simp only [wt, wts]; omega
end Lk09
set_option Elab.async false
set_option linter.all false
set_option maxRecDepth 100000
namespace Lk09
open PySem PySem.Spec L2 M
theorem isi_tup (xs : List D) : dIsi "tuple" (.tuple xs) = some (.bool true) := by simp [dIsi, noFT, tyD, kb_tt]
theorem dAny_rep (n : Nat) : dAny (.list (List.replicate n (.bool false))) = some (.bool false) := by
  have : List.replicate n (PyData.bool false) = (List.replicate n false).map .bool := by simp
  rw [this]
  unfold dAny
  simp only [bsD_map]
  simp
theorem right_ok {jar : D} (hJ : J 0 jar) : ∃ jar', F__law_right [.ow true jar] = .ret false (.bool true) [.ow true jar'] := by
  obtain ⟨p, ts, j1, e1, hp, t1, t2, hT, J1⟩ := yard_ok hJ (by omega)
  have e2 := repr_ok hp hT t2
  have e3 := rough_ok (p := .int p) t1 t2
  have e4 := worn_ok (p := .int p) hT t2
  have m1 := dMulT_i [.int 0] (ts.length : Int) ⟨by simp, by omega, by omega, by simp⟩
  rw [Int.toNat_natCast, flat_one] at m1
  obtain ⟨lo, hlo⟩ : ∃ lo : List Int, lo = List.replicate ts.length (0 : Int) := ⟨_, rfl⟩
  obtain ⟨hi, hhi⟩ : ∃ hi : List Int, hi = ts.map hl := ⟨_, rfl⟩
  have l1 : lo.length = ts.length := by rw [hlo]; simp
  have l2 : hi.length = ts.length := by rw [hhi]; simp
  have m2 : List.replicate ts.length (PyData.int 0) = lo.map .int := by rw [hlo]; simp
  rw [← hlo] at e3
  rw [← hhi] at e4
  rw [m2] at m1
  obtain ⟨f1, f2, f3, f4⟩ := ints_fine lo
  obtain ⟨g1, g2, _, _⟩ := ints_fine hi
  have n1 := dNe_same f1 f2
  have n2 := dNe_same g1 g2
  have n3 := dNe_same f3 f4
  let Y : D := .tuple [.int p, .tuple ts]
  let S : D := .str (PyData.tuple [.int p, .tuple ts]).shown
  have q1 := lc_map (g := gN 8) (t := tYes1) (f := b__law_right_C1) (own := [8])
    (e := [.ow true j1, .sh Y, .sh S, .sh (.tuple (lo.map .int)), .sh (.tuple (hi.map .int)), .un, .un, .un, .un]) hc ts [] (by simp; omega) (by
      intro d hd
      obtain ⟨a, b, r, w, e, _⟩ := hT d hd
      generalize hq : hl d = h at e
      subst e
      refine ⟨_, _, [.ow true j1, .sh Y, .sh S, .sh (.tuple (lo.map .int)), .sh (.tuple (hi.map .int)), .un, .un, .un, .sh (.tuple [.int a, .int b, .int r, .int w, .int h])], by simp [wipeE]; rfl, rfl, ?_, ?_⟩
      · simp [b__law_right_C1, hc, hq]
      · simp [restE])
  have m3 : ts.map hc = hi.map .int := by rw [hhi]; simp [hc]
  rw [m3] at q1
  have s1 := state_is (p := .int p) (xs := lo) hT t2 l1
  rw [okS_true lo ts (fun i x t a b => by
    rw [hlo] at a
    have := List.mem_of_getElem? a
    simp at this
    obtain ⟨_, _, _, _, _, _, _, _, _, h1, h6⟩ := hT t (List.mem_of_getElem? b)
    omega)] at s1
  have s2 := state_is (p := .int p) (xs := hi) hT t2 l2
  rw [okS_true hi ts (fun i x t a b => by
    rw [hhi, List.getElem?_map, b] at a
    simp at a
    obtain ⟨_, _, _, _, _, _, _, _, _, h1, h6⟩ := hT t (List.mem_of_getElem? b)
    omega)] at s2
  let I : Nat → En → Prop := fun m e => ∃ (jar : D) (s5 s6 : Sl), e = [.ow true jar, .sh Y, .sh S, .sh (.tuple (lo.map .int)), .sh (.tuple (hi.map .int)), s5, s6, .un, .un] ∧ J (1000 + 20 * m) jar ∧ (s6 = .un ∨ ∃ d, s6 = .sh d)
  obtain ⟨e', q, j2, s5, s6, rfl, J2, h6⟩ := for_inv (g := gN 5) (body := b__law_right_L3) I (rangeD 0 6) 0 [.ow true j1, .sh Y, .sh S, .sh (.tuple (lo.map .int)), .sh (.tuple (hi.map .int)), .un, .un, .un, .un] ⟨_, _, _, rfl, J1.mono (by omega), .inl rfl⟩ (by
    rintro j d e hj ⟨jar, s5, s6, rfl, hJ, h6⟩
    obtain ⟨rfl, hj2⟩ := range_at hj
    obtain ⟨jar', one, eq, J'⟩ := turn_step (p := .int p) (ts := ts) (K := S) (L := .tuple (lo.map .int)) (s5 := .sh (.int (0 + (j : Int)))) (s6 := s6) hJ (by omega) hT t2
    rw [← hhi] at eq
    exact ⟨_, _, gN_r _ _ _, .inl eq, jar', _, _, rfl, J'.mono (by omega), .inr ⟨_, rfl⟩⟩)
  obtain ⟨o, L, b1, b2, b3⟩ := beyond_ok (lo := lo) (hi := hi) l1 l2 t1 t2 (fun j t h => by rw [hhi, List.getElem?_map, h]; rfl)
  have q2 := lc_map (g := gN 6) (t := tYes1) (f := b__law_right_C4) (own := [6])
    (e := [.ow true j2, .sh Y, .sh S, .sh (.tuple (lo.map .int)), .sh (.tuple (hi.map .int)), s5, s6, .un, .un]) (fun _ => .bool false) L [] (by simp; omega) (by
      intro d hd
      obtain ⟨ys, rfl, y1, y2⟩ := b3 d hd
      have s3 := state_is (p := .int p) (xs := ys) hT t2 y1
      rw [y2] at s3
      refine ⟨_, _, [.ow true j2, .sh Y, .sh S, .sh (.tuple (lo.map .int)), .sh (.tuple (hi.map .int)), s5, .sh (.tuple (ys.map .int)), .un, .un], by simp [wipeE]; rfl, rfl, ?_, ?_⟩
      · simp [b__law_right_C4, Y, s3]
      · rcases h6 with rfl | ⟨d, rfl⟩ <;> simp [restE])
  rw [List.map_const'] at q2
  refine ⟨j2, ?_⟩
  unfold F__law_right
  rw [run0_r _ _ _ (by simp)]
  have on : okR 6 = true := okR_of (by omega) (by omega)
  simp only [List.nil_append, Y, S] at q1 q q2
  simp [b__law_right, e1, e2, e3, e4, m1, n1, n2, n3, isi_tup, s1, s2, rngOf_i _ _ on, parTo, q1, q, b1, q2, dAny_rep]
theorem law_true : ∀ ns : List Int, ns.length ≤ 63 → ∃ as', F_law [.sh (scriptD ns)] = .ret false (.bool true) as' := by
  intro ns h
  obtain ⟨m, hm, hm1⟩ : ∃ m : Nat, (if (1 : Int) < (if (16 : Int) < (ns.length : Int) then (16 : Int) else (ns.length : Int)) then (if (16 : Int) < (ns.length : Int) then (16 : Int) else (ns.length : Int)) else (1 : Int)) = (m : Int) ∧ m ≤ ns.length + 1 := by
    by_cases a : (16 : Int) < (ns.length : Int)
    · exact ⟨16, by rw [if_pos a]; rfl, by omega⟩
    · by_cases b : (1 : Int) < (ns.length : Int)
      · exact ⟨ns.length, by rw [if_neg a, if_pos b], by omega⟩
      · exact ⟨1, by rw [if_neg a, if_neg b]; rfl, by omega⟩
  obtain ⟨cs, hc⟩ : ∃ cs : List Int, cs = (ns ++ [0]).take m := ⟨_, rfl⟩
  have lc : cs.length ≤ 64 := by rw [hc]; simp; omega
  have ct := cut_to ((ns ++ [0]).map .int) m (by simp; omega)
  rw [← List.map_take, ← hc] at ct
  let I : Nat → En → Prop := fun m e => ∃ s1 s2, e = [.sh (scriptD ns), s1, s2]
  obtain ⟨e', q, s1, s2, rfl⟩ := for_inv (g := gT [(gN 1), (gN 2)]) (body := b_law_L1) I (enumD 0 (cs.map .int)) 0 [.sh (scriptD ns), .un, .un] ⟨_, _, rfl⟩ (by
    rintro j d e hj ⟨s1, s2, rfl⟩
    obtain ⟨x, hx, rfl⟩ := enum_at _ _ _ _ hj
    rw [List.getElem?_map] at hx
    obtain ⟨c, hcj, rfl⟩ := Option.map_eq_some_iff.1 hx
    have hjl : j < cs.length := (List.getElem?_eq_some_iff.1 hcj).1
    obtain ⟨jar, e2, J0⟩ := pail_ok c (0 + j) (by omega)
    obtain ⟨jar', e3⟩ := right_ok J0
    refine ⟨_, [.sh (scriptD ns), .sh (.int ((0 + j : Nat) : Int)), .sh (.int c)], by simp; rfl, .inl ?_, _, _, rfl⟩
    simp only [Nat.zero_add] at *
    simp [b_law_L1, e2, e3])
  refine ⟨[.un], ?_⟩
  unfold F_law
  rw [run0_r _ _ _ (by simp)]
  have ad : dAddU (.list (ns.map .int)) (.list [.int 0]) = some (.list ((ns ++ [0]).map .int)) := by
    simp [dAddU, small]; omega
  simp only [scriptD, List.map_append, List.map_cons, List.map_nil] at *
  simp [b_law, eSl, ePart, ad, hm, ct, q]
end Lk09
set_option Elab.async false
open PySem PySem.W PyProof.Rows in
set_option maxRecDepth 100000 in
set_option maxHeartbeats 0 in
theorem PySem.Challenge.cw_wornways_k09_rough_and_worn_holds : PySem.Challenge.rw_wornways_k09_rough_and_worn.Holds := by
  w_on; o_law; k_head; (case hw => w_witness2)
  k_fill
  refine M.law_end (l := PySem.Challenge.rw_wornways_k09_rough_and_worn) (n := 63) (k := 5) (x := "script") (Fd := Lk09.F_law) rfl (by decide) rfl ⟨rfl, by decide, by decide⟩ (fun w h Y => PySem.W.kIn_of Y) ?F ?S
  case F =>
    intro w mg fa h KX G hmg
    refine' Lk09.all_mk KX G hmg ?a0 ?l0 ?c0 ?k0 ?a1 ?l1 ?c1 ?k1 ?a2 ?l2 ?c2 ?k2 ?a3 ?l3 ?c3 ?k3 ?a4 ?l4 ?c4 ?k4 ?a5 ?l5 ?c5 ?k5 ?a6 ?l6 ?c6 ?k6 ?a7 ?l7 ?c7 ?k7 ?a8 ?l8 ?c8 ?k8 ?a9 ?l9 ?c9 ?k9 ?a10 ?l10 ?c10 ?k10 ?a11 ?l11 ?c11 ?k11 ?z_all ?z_any ?z_bool ?z_enumerate ?z_int ?z_isinstance ?z_len ?z_max ?z_min ?z_range ?z_repr ?z_tuple ?z_zip
    (case a0 => k_is); (case l0 => k_is); (case c0 => k_is); (case k0 => k_is)
    (case a1 => k_is); (case l1 => k_is); (case c1 => k_is); (case k1 => k_is)
    (case a2 => k_is); (case l2 => k_is); (case c2 => k_is); (case k2 => k_is)
    (case a3 => k_is); (case l3 => k_is); (case c3 => k_is); (case k3 => k_is)
    (case a4 => k_is); (case l4 => k_is); (case c4 => k_is); (case k4 => k_is)
    (case a5 => k_is); (case l5 => k_is); (case c5 => k_is); (case k5 => k_is)
    (case a6 => k_is); (case l6 => k_is); (case c6 => k_is); (case k6 => k_is)
    (case a7 => k_is); (case l7 => k_is); (case c7 => k_is); (case k7 => k_is)
    (case a8 => k_is); (case l8 => k_is); (case c8 => k_is); (case k8 => k_is)
    (case a9 => k_is); (case l9 => k_is); (case c9 => k_is); (case k9 => k_is)
    (case a10 => k_is); (case l10 => k_is); (case c10 => k_is); (case k10 => k_is)
    (case a11 => k_is); (case l11 => k_is); (case c11 => k_is); (case k11 => k_is)
    (case z_all => k_is)
    (case z_any => k_is)
    (case z_bool => k_is)
    (case z_enumerate => k_is)
    (case z_int => k_is)
    (case z_isinstance => k_is)
    (case z_len => k_is)
    (case z_max => k_is)
    (case z_min => k_is)
    (case z_range => k_is)
    (case z_repr => k_is)
    (case z_tuple => k_is)
    (case z_zip => k_is)
  case S => exact Lk09.law_true
