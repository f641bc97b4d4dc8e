import PyProof.Rows.All
import Wide.All
import OpenK.AllK
import Wide.FinOn
import HandS.ForMost
import HandS.Walk
import HandS.Flow
import HandS.IsInst
import HandS.Gcd
import HandS.Wide
import HandS.Style
import HandS.SortInts
import HandS.StrMore
import HandS.TupAny
import HandS.Conv
import HandS.SetFor
import HandS.Strs
import KE.DataEq
import HandS.Deep
import PyProof.ReprRoads
import HandS.Words
import HandS.Ends
import PyProof.StrLawsRepr
import PySem.Challenge.RW_wordsweighed_k66_judge_of_wear
set_option Elab.async false
set_option linter.all false
set_option maxRecDepth 100000
namespace PL
open PySem PySem.Spec L2

/-! ### plain data -/
inductive D where
  | non | bl (b : Bool) | int (i : Int) | str (cs : List Nat)
  | lst (xs : List D) | tup (xs : List D)
  | scr (ns : List Int)
  | dct (ks : List D) (vs : List D)

inductive Lv where
  | fz | top | dc
  deriving DecidableEq

mutual
inductive Rep (K : PySem.W.Frag) (G : Hp) : D → V → Prop
  | non : Rep K G .non .non
  | bl (b : Bool) : Rep K G (.bl b) (.bl b)
  | int (i : Int) : Rep K G (.int i) (.int i)
  | str (cs : List Nat) : cs.length ≤ sizeLine → Rep K G (.str cs) (.str ⟨cs.toArray⟩)
  | lst {p : Addr} {xs : List D} {vs : List V} : G p = some (.lst vs) → xs.length ≤ sizeLine → Reps K G xs vs → Rep K G (.lst xs) (.ref p)
  | tup {p : Addr} {xs : List D} {vs : List V} : SqT K G p vs → xs.length ≤ sizeLine → Reps K G xs vs → Rep K G (.tup xs) (.ref p)
  | scr {p : Addr} {ns : List Int} : SqL K G p (ns.map V.int) → Rep K G (.scr ns) (.ref p)
inductive Reps (K : PySem.W.Frag) (G : Hp) : List D → List V → Prop
  | nil : Reps K G [] []
  | cons {x : D} {v : V} {xs : List D} {vs : List V} : Rep K G x v → Reps K G xs vs → Reps K G (x :: xs) (v :: vs)
end

section
variable {K : PySem.W.Frag} {G G' H H' H1 G1 G2 H2 : Hp}

theorem Same.seqT {a : Addr} {xs : List V} (e : Same H H') (h : SqT K H a xs) : SqT K H' a xs := by
  rcases h with (h | ⟨o, h⟩) | h
  · exact .inl (.inl (e _ _ h))
  · exact .inl (.inr ⟨o, e _ _ h⟩)
  · exact .inr h

mutual
theorem Rep.mono (s : Same G G') : ∀ {d : D} {v : V}, Rep K G d v → Rep K G' d v
  | _, _, .non => .non
  | _, _, .bl b => .bl b
  | _, _, .int i => .int i
  | _, _, .str cs h => .str cs h
  | _, _, .lst h z r => .lst (s _ _ h) z (Reps.mono s r)
  | _, _, .tup h z r => .tup (PL.Same.seqT s h) z (Reps.mono s r)
  | _, _, .scr h => .scr (s.seq h)
theorem Reps.mono (s : Same G G') : ∀ {d : List D} {v : List V}, Reps K G d v → Reps K G' d v
  | _, _, .nil => .nil
  | _, _, .cons a b => .cons (Rep.mono s a) (Reps.mono s b)
end

theorem Reps.length : ∀ {ds : List D} {vs : List V}, Reps K G ds vs → ds.length = vs.length
  | _, _, .nil => rfl
  | _, _, .cons _ b => by simp [Reps.length b]
theorem Reps.get : ∀ {ds : List D} {vs : List V} {i : Nat} {d : D}, Reps K G ds vs → ds[i]? = some d → ∃ v, vs[i]? = some v ∧ Rep K G d v
  | _, _, _, _, .nil, h => by simp at h
  | _, _, 0, d, .cons a b, h => by
    simp at h
    subst h
    exact ⟨_, rfl, a⟩
  | _, _, i + 1, d, .cons a b, h => by
    obtain ⟨v, h1, h2⟩ := Reps.get (i := i) (d := d) b (by simpa using h)
    exact ⟨v, by simpa using h1, h2⟩
theorem Reps.get' : ∀ {ds : List D} {vs : List V} {i : Nat} {v : V}, Reps K G ds vs → vs[i]? = some v → ∃ d, ds[i]? = some d ∧ Rep K G d v
  | _, _, _, _, .nil, h => by simp at h
  | _, _, 0, d, .cons a b, h => by
    simp at h
    subst h
    exact ⟨_, rfl, a⟩
  | _, _, i + 1, d, .cons a b, h => by
    obtain ⟨v, h1, h2⟩ := Reps.get' (i := i) (v := d) b (by simpa using h)
    exact ⟨v, by simpa using h1, h2⟩
theorem Reps.append : ∀ {ds es : List D} {vs us : List V}, Reps K G ds vs → Reps K G es us → Reps K G (ds ++ es) (vs ++ us)
  | _, _, _, _, .nil, s => s
  | _, _, _, _, .cons a b, s => .cons a (Reps.append b s)
theorem Reps.take : ∀ {ds : List D} {vs : List V} (n : Nat), Reps K G ds vs → Reps K G (ds.take n) (vs.take n)
  | _, _, 0, _ => .nil
  | _, _, _ + 1, .nil => .nil
  | _, _, n + 1, .cons a b => .cons a (Reps.take n b)
theorem Reps.drop : ∀ {ds : List D} {vs : List V} (n : Nat), Reps K G ds vs → Reps K G (ds.drop n) (vs.drop n)
  | _, _, 0, r => r
  | _, _, _ + 1, .nil => .nil
  | _, _, n + 1, .cons _ b => Reps.drop n b
theorem Reps.set {d : D} {v : V} (r : Rep K G d v) : ∀ {ds : List D} {vs : List V} (i : Nat), Reps K G ds vs → Reps K G (ds.set i d) (vs.set i v)
  | _, _, _, .nil => .nil
  | _, _, 0, .cons _ b => .cons r b
  | _, _, i + 1, .cons a b => .cons a (Reps.set r i b)
theorem Reps.reverse : ∀ {ds : List D} {vs : List V}, Reps K G ds vs → Reps K G ds.reverse vs.reverse
  | _, _, .nil => .nil
  | _, _, .cons a b => by
    rw [List.reverse_cons, List.reverse_cons]
    exact (Reps.reverse b).append (.cons a .nil)
theorem Reps.ints : ∀ (ns : List Int), Reps K G (ns.map D.int) (ns.map V.int)
  | [] => .nil
  | n :: ns => .cons (.int n) (Reps.ints ns)
theorem Reps.of_ints : ∀ {ns : List Int} {vs : List V}, Reps K G (ns.map D.int) vs → vs = ns.map V.int
  | [], _, .nil => rfl
  | n :: ns, _, .cons a b => by
    cases a
    rw [Reps.of_ints b]
    rfl
theorem Reps.bls : ∀ (ns : List Bool), Reps K G (ns.map D.bl) (ns.map V.bl)
  | [] => .nil
  | n :: ns => .cons (.bl n) (Reps.bls ns)
theorem Reps.of_bls : ∀ {ns : List Bool} {vs : List V}, Reps K G (ns.map D.bl) vs → vs = ns.map V.bl
  | [], _, .nil => rfl
  | n :: ns, _, .cons a b => by
    cases a
    rw [Reps.of_bls b]
    rfl
theorem Reps.of_strs : ∀ {ns : List (List Nat)} {vs : List V}, Reps K G (ns.map D.str) vs → vs = (ns.map fun cs => (⟨cs.toArray⟩ : Str)).map V.str
  | [], _, .nil => rfl
  | n :: ns, _, .cons a b => by
    cases a
    rw [Reps.of_strs b]
    rfl


theorem Reps.map_rep {α : Type} {f : α → D} {g : α → V} (h : ∀ a, Rep K G (f a) (g a)) : ∀ l : List α, Reps K G (l.map f) (l.map g)
  | [] => .nil
  | a :: l => .cons (h a) (Reps.map_rep h l)

/-! ### growing heaps -/
structure Grow (G H G' H' : Hp) : Prop where
  s : Same G H
  g : Same G G'
  h : Same H H'
  sub : Same G' H'
  new : ∀ p, G' p ≠ none → H p ≠ none → G p ≠ none
theorem Grow.refl (s : Same G H) : Grow G H G H := ⟨s, Same.refl _, Same.refl _, s, fun _ h _ => h⟩
theorem Same.ne {p : Addr} (s : Same H H') (h : H p ≠ none) : H' p ≠ none := by
  cases q : H p with
  | none => exact absurd q h
  | some o => rw [s p o q]; simp
theorem Grow.trans (a : Grow G H G1 H1) (b : Grow G1 H1 G2 H2) : Grow G H G2 H2 :=
  ⟨a.s, a.g.trans b.g, a.h.trans b.h, b.sub, fun p h1 h2 => a.new p (b.new p h1 (PL.Same.ne a.h h2)) h2⟩
/-- the same, of a state that is told by where it began -/
structure Bs (G H G' H' : Hp) : Prop where
  g : Same G G'
  h : Same H H'
  sub : Same G' H'
  new : ∀ p, G' p ≠ none → H p ≠ none → G p ≠ none
theorem Bs.refl (s : Same G H) : Bs G H G H := ⟨Same.refl _, Same.refl _, s, fun _ h _ => h⟩
theorem Bs.trans (a : Bs G H G1 H1) (b : Grow G1 H1 G2 H2) : Bs G H G2 H2 :=
  ⟨a.g.trans b.g, a.h.trans b.h, b.sub, fun p h1 h2 => a.new p (b.new p h1 (PL.Same.ne a.h h2)) h2⟩
theorem Bs.grow (a : Bs G H G1 H1) (s : Same G H) : Grow G H G1 H1 := ⟨s, a.g, a.h, a.sub, a.new⟩
theorem same_upd {H : Hp} {p : Addr} {o : HO} (h : H p = none) : Same H (upd H p o) := fun b x e => by
  rw [upd_ne (ne_of_none e h)]
  exact e
theorem same_none {p : Addr} (s : Same G H) (h : H p = none) : G p = none := by
  cases q : G p with
  | none => rfl
  | some o => rw [s p o q] at h; cases h
/-- a new object, known to both -/
theorem Grow.add {p : Addr} {o : HO} (s : Same G H) (h : H p = none) : Grow G H (upd G p o) (upd H p o) :=
  ⟨s, same_upd (same_none s h), same_upd h, fun b x e => by
    by_cases hb : b = p
    · subst hb
      rw [upd_same] at e ⊢
      exact e
    · rw [upd_ne hb] at e ⊢
      exact s _ _ e, fun b h1 h2 => by
    by_cases hb : b = p
    · subst hb
      exact absurd h h2
    · rw [upd_ne hb] at h1
      exact h1⟩
/-- a new object, known to the heap alone -/
theorem Grow.own {p : Addr} {o : HO} (s : Same G H) (h : H p = none) : Grow G H G (upd H p o) :=
  ⟨s, Same.refl _, same_upd h, s.trans (same_upd h), fun _ h1 _ => h1⟩
/-- what stands new in the heap is made known -/
theorem Grow.know {p : Addr} {o : HO} (w : Grow G H G' H') (h0 : H p = none) (h : H' p = some o) : Grow G H (upd G' p o) H' := by
  refine ⟨w.s, fun b x e => ?_, w.h, fun b x e => ?_, fun b h1 h2 => ?_⟩
  · have hb : b ≠ p := fun z => by
      subst z
      rw [w.s _ _ e] at h0
      cases h0
    rw [upd_ne hb]
    exact w.g _ _ e
  · by_cases hb : b = p
    · subst hb
      rw [upd_same] at e
      cases e
      exact h
    · rw [upd_ne hb] at e
      exact w.sub _ _ e
  · by_cases hb : b = p
    · subst hb
      exact absurd h0 h2
    · rw [upd_ne hb] at h1
      exact w.new _ h1 h2

/-! ### results, environments -/
abbrev R := D × Lv
abbrev Env := List (Option R)

def Own (K : PySem.W.Frag) (G H : Hp) : Lv → D → V → List Addr → Prop
  | .fz, d, v, as => as = [] ∧ Rep K G d v
  | .top, d, v, as => ∃ p xs vs, d = .lst xs ∧ v = .ref p ∧ as = [p] ∧ H p = some (.lst vs) ∧ xs.length ≤ sizeLine ∧ Reps K G xs vs
  | .dc, d, v, as => ∃ p ks xs kvs, d = .dct ks xs ∧ v = .ref p ∧ as = [p] ∧ H p = some (.dK kvs) ∧ kvs.length ≤ sizeLine ∧ Reps K G ks (kvs.map fun kv => kV kv.1) ∧ Reps K G xs (kvs.map (·.2))
theorem Own.mono {lv : Lv} {d : D} {v : V} {as : List Addr} (s : Same G G') (h : ∀ a ∈ as, H' a = H a) (o : Own K G H lv d v as) : Own K G' H' lv d v as := by
  cases lv with
  | fz => exact ⟨o.1, o.2.mono s⟩
  | top =>
    obtain ⟨p, xs, vs, e1, e2, e3, e4, e5, e6⟩ := o
    refine ⟨p, xs, vs, e1, e2, e3, ?_, e5, e6.mono s⟩
    rw [h p (by rw [e3]; exact List.mem_cons_self)]
    exact e4
  | dc =>
    obtain ⟨p, ks, xs, kvs, e1, e2, e3, e4, e5, e6, e7⟩ := o
    refine ⟨p, ks, xs, kvs, e1, e2, e3, ?_, e5, e6.mono s, e7.mono s⟩
    rw [h p (by rw [e3]; exact List.mem_cons_self)]
    exact e4
theorem Own.nodup {lv : Lv} {d : D} {v : V} {as : List Addr} (o : Own K G H lv d v as) : as.Nodup := by
  cases lv with
  | fz => rw [o.1]; exact List.nodup_nil
  | top =>
    obtain ⟨p, xs, vs, e1, e2, e3, _⟩ := o
    rw [e3]
    simp
  | dc =>
    obtain ⟨p, ks, xs, kvs, e1, e2, e3, _⟩ := o
    rw [e3]
    simp

/-- a result: what it owns is new (against H0) and not known -/
def Res (K : PySem.W.Frag) (G H0 H : Hp) (r : R) (v : V) : Prop := ∃ as, Own K G H r.2 r.1 v as ∧ ∀ a ∈ as, G a = none ∧ H0 a = none ∧ H a ≠ none
theorem Res.fz {d : D} {v : V} {H0 : Hp} (r : Rep K G d v) : Res K G H0 H (d, .fz) v := ⟨[], ⟨rfl, r⟩, fun _ h => nomatch h⟩
theorem Res.of_fz {d : D} {v : V} {H0 : Hp} (r : Res K G H0 H (d, .fz) v) : Rep K G d v := by
  obtain ⟨_, o, _⟩ := r
  exact o.2
/-- a new list -/
theorem Res.top {p : Addr} {xs : List D} {vs : List V} {H0 : Hp} (h0 : H0 p = none) (g : G p = none) (h : H p = some (.lst vs)) (hz : xs.length ≤ sizeLine) (r : Reps K G xs vs) : Res K G H0 H (.lst xs, .top) (.ref p) :=
  ⟨[p], ⟨p, xs, vs, rfl, rfl, rfl, h, hz, r⟩, fun a ha => by
    rw [List.mem_singleton] at ha
    subst ha
    exact ⟨g, h0, by rw [h]; simp⟩⟩
/-- a result is made known -/
def frz : R → Option D := fun r => if r.2 = .dc then none else some r.1
theorem Res.frz {r : R} {v : V} {d : D} (w : Grow G H G' H') (q : Res K G' H H' r v) (e : frz r = some d) : ∃ G2, Grow G H G2 H' ∧ Rep K G2 d v := by
  obtain ⟨d', lv⟩ := r
  obtain ⟨as, o, ha⟩ := q
  cases lv with
  | fz =>
    cases e
    exact ⟨G', w, o.2⟩
  | top =>
    cases e
    obtain ⟨p, xs, vs, e1, e2, e3, e4, e5, e6⟩ := o
    obtain ⟨g0, h0, _⟩ := ha p (by rw [e3]; exact List.mem_cons_self)
    have s : Same G' (upd G' p (.lst vs)) := same_upd g0
    simp only at e1 e2
    subst e1 e2
    exact ⟨_, w.know h0 e4, .lst upd_same e5 (e6.mono s)⟩
  | dc => cases e

structure Sim (K : PySem.W.Frag) (G0 H0 G H : Hp) (ρ : Env) (σ : St) : Prop where
  gr : Bs G0 H0 G H
  len : σ.length = ρ.length
  fp : ∃ fp : Nat → List Addr, (∀ i d lv, ρ[i]? = some (some (d, lv)) → ∃ v, σ[i]? = some (some v) ∧ Own K G H lv d v (fp i)) ∧
    (∀ i a, a ∈ fp i → G a = none ∧ H0 a = none ∧ H a ≠ none) ∧ ∀ i j a, a ∈ fp i → a ∈ fp j → i = j
section
variable {G0 H0 : Hp} {ρ ρ' : Env} {σ σ' : St}
theorem Sim.grow (S : Sim K G0 H0 G H ρ σ) (w : Grow G H G' H') : Sim K G0 H0 G' H' ρ σ := by
  obtain ⟨gr, len, fp, h1, h2, h3⟩ := S
  refine ⟨gr.trans w, len, fp, fun i d lv e => ?_, fun i a ha => ?_, h3⟩
  · obtain ⟨v, e1, o⟩ := h1 i d lv e
    refine ⟨v, e1, o.mono w.g fun a ha => ?_⟩
    obtain ⟨_, _, h⟩ := h2 i a ha
    cases q : H a with
    | none => exact absurd q h
    | some x => exact w.h a x q
  · obtain ⟨g, h, k⟩ := h2 i a ha
    refine ⟨?_, h, PL.Same.ne w.h k⟩
    cases q : G' a with
    | none => rfl
    | some x => exact absurd g (w.new a (by rw [q]; simp) k)
/-- a frozen slot -/
theorem Sim.var (S : Sim K G0 H0 G H ρ σ) {i : Nat} {d : D} (e : ρ[i]? = some (some (d, .fz))) : ∃ v, σ[i]? = some (some v) ∧ Rep K G d v := by
  obtain ⟨_, _, fp, h1, _⟩ := S
  obtain ⟨v, e1, o⟩ := h1 i d _ e
  exact ⟨v, e1, o.2⟩
/-- slots are forgotten -/
theorem Sim.forget (S : Sim K G0 H0 G H ρ σ) (hl : ρ'.length = ρ.length) (h : ∀ (i : Nat) (r : R), ρ'[i]? = some (some r) → ρ[i]? = some (some r)) : Sim K G0 H0 G H ρ' σ := by
  obtain ⟨gr, len, fp, h1, h2, h3⟩ := S
  exact ⟨gr, len.trans hl.symm, fp, fun i d lv e => h1 i d lv (h i _ e), h2, h3⟩
/-- frozen slots -/
def frz1 (r : R) : R := if r.2 = .dc then r else (r.1, .fz)
def fzAt (is : List Nat) (ρ : Env) : Env := is.foldl (fun ρ i => match ρ[i]? with
  | some (some r) => ρ.set i (some (frz1 r))
  | _ => ρ) ρ
theorem Sim.fz1 (S : Sim K G0 H0 G H ρ σ) {i : Nat} {r : R} (e : ρ[i]? = some (some r)) : ∃ G', Sim K G0 H0 G' H (ρ.set i (some (frz1 r))) σ ∧ Same G G' := by
  obtain ⟨gr, len, fp, h1, h2, h3⟩ := S
  obtain ⟨d, lv⟩ := r
  have hi : i < ρ.length := (List.getElem?_eq_some_iff.mp e).1
  cases lv with
  | fz =>
    refine ⟨G, ⟨gr, by simpa using len, fp, fun j d' lv' e' => ?_, h2, h3⟩, Same.refl _⟩
    by_cases hj : j = i
    · subst hj
      rw [List.getElem?_set_self hi] at e'
      cases e'
      exact h1 _ _ _ e
    · rw [List.getElem?_set_ne (Ne.symm hj)] at e'
      exact h1 _ _ _ e'
  | dc =>
    refine ⟨G, ⟨gr, by simpa using len, fp, fun j d' lv' e' => ?_, h2, h3⟩, Same.refl _⟩
    by_cases hj : j = i
    · subst hj
      rw [List.getElem?_set_self hi] at e'
      cases e'
      exact h1 _ _ _ e
    · rw [List.getElem?_set_ne (Ne.symm hj)] at e'
      exact h1 _ _ _ e'
  | top =>
    obtain ⟨v, ev, p, xs, vs, e1, e2, e3, e4, e5, e6⟩ := h1 i d _ e
    subst e1 e2
    obtain ⟨g0, h0, _⟩ := h2 i p (by rw [e3]; exact List.mem_cons_self)
    have s : Same G (upd G p (.lst vs)) := same_upd g0
    have su : Same (upd G p (.lst vs)) H := fun b x e => by
      by_cases hb : b = p
      · subst hb
        rw [upd_same] at e
        cases e
        exact e4
      · rw [upd_ne hb] at e
        exact gr.sub _ _ e
    refine ⟨upd G p (.lst vs), ⟨?_, by simpa using len, fun j => if j = i then [] else fp j, fun j d' lv' e' => ?_, fun j a ha => ?_, fun j k a ha hb => ?_⟩, ?_⟩
    · refine ⟨gr.g.trans s, gr.h, su, fun b hb hh => ?_⟩
      by_cases hbp : b = p
      · subst hbp
        exact absurd h0 hh
      · rw [upd_ne hbp] at hb
        exact gr.new b hb hh
    · by_cases hj : j = i
      · subst hj
        rw [List.getElem?_set_self hi] at e'
        cases e'
        refine ⟨_, ev, ?_⟩
        dsimp only
        rw [if_pos rfl]
        exact ⟨rfl, .lst upd_same e5 (e6.mono s)⟩
      · rw [List.getElem?_set_ne (Ne.symm hj)] at e'
        obtain ⟨v', ev', o⟩ := h1 _ _ _ e'
        refine ⟨v', ev', ?_⟩
        dsimp only
        rw [if_neg hj]
        exact o.mono s fun a ha => rfl
    · dsimp only at ha
      by_cases hj : j = i
      · rw [if_pos hj] at ha
        cases ha
      · rw [if_neg hj] at ha
        obtain ⟨q1, q2, q3⟩ := h2 j a ha
        refine ⟨?_, q2, q3⟩
        have hap : a ≠ p := fun z => hj (h3 j i a ha (by rw [e3, z]; exact List.mem_cons_self))
        rw [upd_ne hap]
        exact q1
    · dsimp only at ha hb
      by_cases hj : j = i
      · rw [if_pos hj] at ha
        cases ha
      · by_cases hk : k = i
        · rw [if_pos hk] at hb
          cases hb
        · rw [if_neg hj] at ha
          rw [if_neg hk] at hb
          exact h3 j k a ha hb
    · exact s

theorem Sim.fzs (is : List Nat) : ∀ {ρ : Env} {G : Hp}, Sim K G0 H0 G H ρ σ → ∃ G', Sim K G0 H0 G' H (fzAt is ρ) σ := by
  induction is with
  | nil => exact fun S => ⟨_, S⟩
  | cons i is ih =>
    intro ρ G S
    show ∃ G', Sim K G0 H0 G' H (fzAt is (match ρ[i]? with
      | some (some r) => ρ.set i (some (frz1 r))
      | _ => ρ)) σ
    split
    · next r e =>
      obtain ⟨G', S', _⟩ := S.fz1 e
      exact ih S'
    · exact ih S

/-- an environment and a result that waits to be stored -/
structure SimR (K : PySem.W.Frag) (G0 H0 G H : Hp) (ρ : Env) (σ : St) (r : R) (v : V) : Prop where
  gr : Bs G0 H0 G H
  len : σ.length = ρ.length
  fp : ∃ (fp : Nat → List Addr) (as : List Addr), (∀ i d lv, ρ[i]? = some (some (d, lv)) → ∃ v, σ[i]? = some (some v) ∧ Own K G H lv d v (fp i)) ∧
    (∀ i a, a ∈ fp i → G a = none ∧ H0 a = none ∧ H a ≠ none) ∧ (∀ i j a, a ∈ fp i → a ∈ fp j → i = j) ∧
    Own K G H r.2 r.1 v as ∧ (∀ a ∈ as, G a = none ∧ H0 a = none ∧ H a ≠ none) ∧ ∀ i a, a ∈ fp i → a ∉ as
theorem SimR.sim {r : R} {v : V} (S : SimR K G0 H0 G H ρ σ r v) : Sim K G0 H0 G H ρ σ := by
  obtain ⟨gr, len, fp, as, h1, h2, h3, _⟩ := S
  exact ⟨gr, len, fp, h1, h2, h3⟩
theorem SimR.res {r : R} {v : V} (S : SimR K G0 H0 G H ρ σ r v) : Res K G H0 H r v := by
  obtain ⟨gr, len, fp, as, h1, h2, h3, h4, h5, _⟩ := S
  exact ⟨as, h4, h5⟩
/-- a result that was made from the heap H on, in an environment told at H -/
theorem Sim.res {r : R} {v : V} (S : Sim K G0 H0 G H ρ σ) (w : Grow G H G' H') (q : Res K G' H H' r v) : SimR K G0 H0 G' H' ρ σ r v := by
  obtain ⟨as, o, ha⟩ := q
  obtain ⟨gr, len, fp, h1, h2, h3⟩ := S.grow w
  obtain ⟨gr0, _, fp0, k1, k2, k3⟩ := S
  refine ⟨gr, len, fp0, as, fun i d lv e => ?_, fun i a ha => ?_, k3, o, fun a h => ?_, fun i a h1' h2' => ?_⟩
  · obtain ⟨v, e1, o⟩ := k1 i d lv e
    refine ⟨v, e1, o.mono w.g fun a ha => ?_⟩
    obtain ⟨_, _, h⟩ := k2 i a ha
    cases q : H a with
    | none => exact absurd q h
    | some x => exact w.h a x q
  · obtain ⟨g, h, k⟩ := k2 i a ha
    refine ⟨?_, h, PL.Same.ne w.h k⟩
    cases q : G' a with
    | none => rfl
    | some x => exact absurd g (w.new a (by rw [q]; simp) k)
  · obtain ⟨g, h, k⟩ := ha a h
    exact ⟨g, same_none gr0.h h, k⟩
  · exact (k2 i a h1').2.2 (ha a h2').2.1
/-- the result is stored -/
theorem SimR.store {r : R} {v : V} (S : SimR K G0 H0 G H ρ σ r v) (i : Nat) : Sim K G0 H0 G H (ρ.set i (some r)) (σ.set i (some v)) := by
  obtain ⟨gr, len, fp, as, h1, h2, h3, h4, h5, h6⟩ := S
  refine ⟨gr, by simpa using len, fun j => if j = i then as else fp j, fun j d lv e => ?_, fun j a ha => ?_, fun j k a ha hb => ?_⟩
  · dsimp only
    by_cases hj : j = i
    · subst hj
      have hi : j < ρ.length := by
        have := (List.getElem?_eq_some_iff.mp e).1
        simpa using this
      rw [List.getElem?_set_self hi] at e
      cases e
      rw [if_pos rfl]
      exact ⟨v, List.getElem?_set_self (by omega), h4⟩
    · rw [List.getElem?_set_ne (Ne.symm hj)] at e ⊢
      rw [if_neg hj]
      exact h1 j d lv e
  · dsimp only at ha
    by_cases hj : j = i
    · rw [if_pos hj] at ha
      exact h5 a ha
    · rw [if_neg hj] at ha
      exact h2 j a ha
  · dsimp only at ha hb
    by_cases hj : j = i
    · rw [if_pos hj] at ha
      by_cases hk : k = i
      · rw [hj, hk]
      · rw [if_neg hk] at hb
        exact absurd ha (h6 k a hb)
    · rw [if_neg hj] at ha
      by_cases hk : k = i
      · rw [if_pos hk] at hb
        exact absurd hb (h6 j a ha)
      · rw [if_neg hk] at hb
        exact h3 j k a ha hb
/-- a known value is stored -/
theorem Sim.put {d : D} {v : V} (S : Sim K G0 H0 G H ρ σ) (r : Rep K G d v) (i : Nat) : Sim K G0 H0 G H (ρ.set i (some (d, .fz))) (σ.set i (some v)) :=
  (S.res (Grow.refl S.gr.sub) (.fz r)).store i
/-- a slot's value is moved out -/
theorem Sim.move (S : Sim K G0 H0 G H ρ σ) {i : Nat} {r : R} (e : ρ[i]? = some (some r)) : ∃ v, σ[i]? = some (some v) ∧ SimR K G0 H0 G H (ρ.set i none) σ r v := by
  obtain ⟨gr, len, fp, h1, h2, h3⟩ := S
  obtain ⟨v, ev, o⟩ := h1 i r.1 r.2 e
  refine ⟨v, ev, gr, by simpa using len, fun j => if j = i then [] else fp j, fp i, fun j d lv e' => ?_, fun j a ha => ?_, fun j k a ha hb => ?_, o, fun a ha => h2 i a ha, fun j a ha hb => ?_⟩
  · dsimp only
    by_cases hj : j = i
    · subst hj
      have hi : j < ρ.length := (List.getElem?_eq_some_iff.mp e).1
      rw [List.getElem?_set_self hi] at e'
      cases e'
    · rw [List.getElem?_set_ne (Ne.symm hj)] at e'
      rw [if_neg hj]
      exact h1 j d lv e'
  · dsimp only at ha
    by_cases hj : j = i
    · rw [if_pos hj] at ha
      cases ha
    · rw [if_neg hj] at ha
      exact h2 j a ha
  · dsimp only at ha hb
    by_cases hj : j = i
    · rw [if_pos hj] at ha
      cases ha
    · by_cases hk : k = i
      · rw [if_pos hk] at hb
        cases hb
      · rw [if_neg hj] at ha
        rw [if_neg hk] at hb
        exact h3 j k a ha hb
  · dsimp only at ha
    by_cases hj : j = i
    · rw [if_pos hj] at ha
      cases ha
    · rw [if_neg hj] at ha
      exact hj (h3 j i a ha hb)
/-- a scalar result leaves nothing behind: the environment as it was -/
def scal : D → Bool
  | .non | .bl _ | .int _ | .str _ => true
  | _ => false
theorem Rep.scal {d : D} {v : V} (h : PL.scal d = true) (r : Rep K G d v) : Rep K G' d v := by
  cases r with
  | non => exact .non
  | bl b => exact .bl b
  | int i => exact .int i
  | str cs z => exact .str cs z
  | lst _ _ _ => cases h
  | tup _ _ _ => cases h
  | scr _ => cases h
theorem Sim.after (S : Sim K G0 H0 G H ρ σ) (h : Same H H') : Sim K G0 H0 G H' ρ σ :=
  S.grow ⟨S.gr.sub, Same.refl _, h, S.gr.sub.trans h, fun _ x _ => x⟩

/-! ### readings -/
def RD (K : PySem.W.Frag) (f : Env → Option R) : TE := fun σ H Q => ∃ G0 H0 G ρ r, Sim K G0 H0 G H ρ σ ∧ f ρ = some r ∧ ∀ v G' H', Grow G H G' H' → Res K G' H H' r v → Q v H'
def RZ (K : PySem.W.Frag) (f : Env → Option D) : TE := fun σ H Q => ∃ G0 H0 G ρ d, Sim K G0 H0 G H ρ σ ∧ f ρ = some d ∧ ∀ v G' H', Grow G H G' H' → Rep K G' d v → Q v H'
def RA (K : PySem.W.Frag) (f : Env → Option (List D)) : TA := fun σ H Q => ∃ G0 H0 G ρ ds, Sim K G0 H0 G H ρ σ ∧ f ρ = some ds ∧ ∀ vs G' H', Grow G H G' H' → Reps K G' ds vs → Q vs H'
def RT (K : PySem.W.Frag) (f : Env → Option Bool) : TT := fun σ H Q => ∃ G0 H0 G ρ b, Sim K G0 H0 G H ρ σ ∧ f ρ = some b ∧ ∀ G' H', Grow G H G' H' → Q b H'
end
section
variable {X : Cx} {e : Expr} {t t' : TE} {es : List Expr}
theorem _root_.L2.PE.imp (h : PE X e t) (i : ∀ σ H Q, t' σ H Q → t σ H Q) : PE X e t' := ⟨fun pins s σ H Q I q => h.run pins s σ H Q I (i σ H Q q)⟩
theorem _root_.L2.PT.imp {t t' : TT} (h : PT X e t) (i : ∀ σ H Q, t' σ H Q → t σ H Q) : PT X e t' := ⟨fun pins s σ H Q I q => h.run pins s σ H Q I (i σ H Q q)⟩
theorem _root_.L2.PW.imp {t t' : TT} (h : PW X e t) (i : ∀ σ H Q, t' σ H Q → t σ H Q) : PW X e t' := ⟨fun wh pins s σ H Q I q => h.run wh pins s σ H Q I (i σ H Q q)⟩
theorem _root_.L2.PA.imp {t t' : TA} (h : PA X es t) (i : ∀ σ H Q, t' σ H Q → t σ H Q) : PA X es t' := ⟨fun pos pins s σ H Q I q => h.run pos pins s σ H Q I (i σ H Q q)⟩
theorem _root_.L2.PI.imp {tg : Expr} {t t' : TI} (h : PI X tg e t) (i : ∀ σ H Q, t' σ H Q → t σ H Q) : PI X tg e t' := ⟨fun pins s σ H Q I q => h.run pins s σ H Q I (i σ H Q q)⟩
theorem _root_.L2.PS.imp {st : Stmt} {t t' : TS} (h : PS X st t) (i : ∀ D σ H, t' D σ H → t D σ H) : PS X st t' := ⟨fun pins s σ H D I q => h.run pins s σ H D I (i D σ H q)⟩
theorem _root_.L2.PSs.imp {st : List Stmt} {t t' : TS} (h : PSs X st t) (i : ∀ D σ H, t' D σ H → t D σ H) : PSs X st t' := ⟨fun pins s σ H D I q => h.run pins s σ H D I (i D σ H q)⟩
/-- .. its value known -/
theorem _root_.L2.PE.z {f : Env → Option R} (h : PE X e (RD X.K f)) : PE X e (RZ X.K fun ρ => (f ρ).bind PL.frz) := h.imp fun σ H Q ⟨G0, H0, G, ρ, d, S, e, k⟩ => by
  obtain ⟨r, q, e⟩ := Option.bind_eq_some_iff.mp e
  refine ⟨G0, H0, G, ρ, r, S, q, fun v G' H' w p => ?_⟩
  obtain ⟨G2, w2, p2⟩ := p.frz w e
  exact k v G2 H' w2 p2
end
end
end PL
set_option Elab.async false
set_option linter.all false
set_option maxRecDepth 100000
namespace PL
open PySem PySem.Spec L2

/-! ### what the operators do with plain data -/
/-- no truth value within, and not too deep -/
def okD : Nat → D → Bool
  | 0, _ => false
  | _ + 1, .non => true
  | _ + 1, .bl _ => false
  | _ + 1, .int _ => true
  | _ + 1, .str _ => true
  | n + 1, .lst xs => xs.all (okD n)
  | n + 1, .tup xs => xs.all (okD n)
  | _ + 1, .scr _ => false
  | _ + 1, .dct _ _ => false
open Classical in
noncomputable def eqb (a b : D) : Bool := decide (a = b)
def okEq : D → D → Bool
  | .bl _, .bl _ => true
  | a, b => okD 20 a && okD 20 b
def truth : D → Option Bool
  | .non => some false
  | .bl b => some b
  | .int i => some (i != 0)
  | .str cs => some (!cs.isEmpty)
  | .lst xs => some (!xs.isEmpty)
  | .tup xs => some (!xs.isEmpty)
  | .scr _ => none
  | .dct _ _ => none
def mulOk (i j : Int) : Bool := decide (i.natAbs < 2 ^ 64 ∨ j.natAbs < 2 ^ 64 ∨ i.natAbs.log2 + j.natAbs.log2 < 1000000)
def divOk (j : Int) : Bool := decide (0 < j ∧ (j < 1073741824 ∨ j.natAbs.log2 < 9000))
def powOk (i j : Int) : Bool := decide (0 ≤ j ∧ j ≤ 1000000 ∧ i.natAbs < 2 ^ 64)
def dbin : Operator → D → D → Option R
  | .Add, .int i, .int j => some (.int (i + j), .fz)
  | .Add, .str a, .str b => if a.length + b.length ≤ sizeLine then some (.str (a ++ b), .fz) else none
  | .Add, .lst a, .lst b => if a.length + b.length ≤ sizeLine then some (.lst (a ++ b), .top) else none
  | .Add, .tup a, .tup b => if a.length + b.length ≤ sizeLine ∧ a ≠ [] ∧ b ≠ [] then some (.tup (a ++ b), .fz) else none
  | .Sub, .int i, .int j => some (.int (i - j), .fz)
  | .Mult, .int i, .int j => if mulOk i j then some (.int (i * j), .fz) else none
  | .Mult, .lst a, .int k => if -(2 ^ 63) ≤ k ∧ k < 2 ^ 63 ∧ a.length * k.toNat ≤ sizeLine then some (.lst (List.replicate k.toNat a).flatten, .top) else none
  | .FloorDiv, .int i, .int j => if divOk j then some (.int (i.fdiv j), .fz) else none
  | .Mod, .int i, .int j => if j ≠ 0 then some (.int (i.fmod j), .fz) else none
  | .Pow, .int i, .int j => if powOk i j then some (.int (i ^ j.toNat), .fz) else none
  | _, _, _ => none
def isNon : D → Bool
  | .non => true
  | _ => false
/-- membership -/
noncomputable def inb (x : D) (xs : List D) : Bool := xs.any fun y => eqb y x
noncomputable def dcmp : CmpOp → D → D → Option Bool
  | .Eq, a, b => if okEq a b then some (eqb a b) else none
  | .NotEq, a, b => if okEq a b then some (!eqb a b) else none
  | .Lt, .int i, .int j => some (decide (i < j))
  | .LtE, .int i, .int j => some (decide (i ≤ j))
  | .Gt, .int i, .int j => some (decide (j < i))
  | .GtE, .int i, .int j => some (decide (j ≤ i))
  | .In, x, .lst xs => if okD 20 x && xs.all (okD 20) then some (inb x xs) else none
  | .In, x, .tup xs => if okD 20 x && xs.all (okD 20) then some (inb x xs) else none
  | .NotIn, x, .lst xs => if okD 20 x && xs.all (okD 20) then some (!inb x xs) else none
  | .NotIn, x, .tup xs => if okD 20 x && xs.all (okD 20) then some (!inb x xs) else none
  | .In, .str [c], .str cs => some (decide (c ∈ cs))
  | .NotIn, .str [c], .str cs => some (!decide (c ∈ cs))
  | .Is, x, .non => some (isNon x)
  | .IsNot, x, .non => some (!isNon x)
  | _, _, _ => none
def didx : D → D → Option D
  | .lst xs, .int i => atI xs i
  | .tup xs, .int i => atI xs i
  | .str cs, .int i => (atI cs i).map fun c => .str [c]
  | .scr ns, .int i => (atI ns i).map .int
  | _, _ => none
def cutL {α : Type} (xs : List α) (lo hi : Option Int) : List α := (xs.drop (HT.sIx xs.length 0 lo)).take (HT.sIx xs.length xs.length hi - HT.sIx xs.length 0 lo)
def dslc : D → Option Int → Option Int → Option R
  | .lst xs, lo, hi => some (.lst (cutL xs lo hi), .top)
  | .tup xs, lo, hi => some (.tup (cutL xs lo hi), .fz)
  | .str cs, lo, hi => some (.str (cutL cs lo hi), .fz)
  | _, _, _ => none
def drev : D → Option R
  | .lst xs => some (.lst xs.reverse, .top)
  | _ => none
def asInts : List D → Option (List Int)
  | [] => some []
  | .int i :: r => (asInts r).map (i :: ·)
  | _ :: _ => none
def asBls : List D → Option (List Bool)
  | [] => some []
  | .bl i :: r => (asBls r).map (i :: ·)
  | _ :: _ => none
def asStrs : List D → Option (List (List Nat))
  | [] => some []
  | .str i :: r => (asStrs r).map (i :: ·)
  | _ :: _ => none
/-- the ascending list of the same ints -/
def insI (i : Int) : List Int → List Int
  | [] => [i]
  | j :: r => if i ≤ j then i :: j :: r else j :: insI i r
def srtI : List Int → List Int
  | [] => []
  | i :: r => insI i (srtI r)
def maxI : List Int → Int
  | [] => 0
  | [i] => i
  | i :: j :: r => let m := maxI (j :: r); if m ≤ i then i else m
def minI : List Int → Int
  | [] => 0
  | [i] => i
  | i :: j :: r => let m := minI (j :: r); if i ≤ m then i else m
def dlen : D → Option Nat
  | .lst xs => some xs.length
  | .tup xs => some xs.length
  | .str cs => some cs.length
  | .scr ns => some ns.length
  | _ => none
def dblt : String → List D → Option R
  | "len", [d] => (dlen d).map fun (n : Nat) => ((.int (n : Int), .fz) : R)
  | "int", [.int i] => some (.int i, .fz)
  | "int", [.bl b] => some (.int (if b then 1 else 0), .fz)
  | "abs", [.int i] => some (.int (if i < 0 then -i else i), .fz)
  | "max", [.int i, .int j] => some (.int (if j > i then j else i), .fz)
  | "min", [.int i, .int j] => some (.int (if j < i then j else i), .fz)
  | "max", [.lst xs] => (asInts xs).bind fun ns => if ns = [] then none else some (.int (maxI ns), .fz)
  | "min", [.lst xs] => (asInts xs).bind fun ns => if ns = [] then none else some (.int (minI ns), .fz)
  | "sum", [.lst xs] => (asInts xs).map fun ns => (.int ns.sum, .fz)
  | "all", [.lst xs] => (asBls xs).map fun bs => (.bl (bs.all id), .fz)
  | "any", [.lst xs] => (asBls xs).map fun bs => (.bl (bs.any id), .fz)
  | "list", [.lst xs] => some (.lst xs, .top)
  | "list", [.tup xs] => some (.lst xs, .top)
  | "sorted", [.lst xs] => (asInts xs).map fun ns => (.lst ((srtI ns).map .int), .top)
  | _, _ => none
def dgcd : List D → Option R
  | [.int i, .int j] => some (.int ((Nat.gcd i.natAbs j.natAbs : Nat) : Int), .fz)
  | _ => none
def knownT : List String := ["int", "bool", "str", "list", "tuple"]
def tyName : D → String
  | .non => "NoneType"
  | .bl _ => "bool"
  | .int _ => "int"
  | .str _ => "str"
  | .lst _ => "list"
  | .tup _ => "tuple"
  | .scr _ => "list"
  | .dct _ _ => "dict"
def disi (ty : String) (d : D) : Option Bool := if knownT.contains ty = true ∧ tyName d ≠ "dict" then some (tyName d == ty || (tyName d == "bool" && ty == "int")) else none

/-- one more in an ascending list without doubles -/
def insS (i : Int) : List Int → List Int
  | [] => [i]
  | j :: r => if i < j then i :: j :: r else if i = j then j :: r else j :: insS i r
def srtS : List Int → List Int
  | [] => []
  | i :: r => insS i (srtS r)
theorem mem_insS {i k : Int} : ∀ {l : List Int}, k ∈ insS i l ↔ k = i ∨ k ∈ l
  | [] => by simp [insS]
  | j :: r => by
    unfold insS
    split
    · simp
    · split
      · next h =>
        subst h
        simp
      · rw [List.mem_cons, mem_insS, List.mem_cons]
        constructor <;> (intro h; rcases h with h | h | h <;> simp [h])
theorem mem_srtS {k : Int} : ∀ {l : List Int}, k ∈ srtS l ↔ k ∈ l
  | [] => by simp [srtS]
  | j :: r => by rw [srtS, mem_insS, mem_srtS, List.mem_cons]
theorem up_insS {i : Int} : ∀ {l : List Int}, l.Pairwise (· < ·) → (insS i l).Pairwise (· < ·)
  | [], _ => by simp [insS]
  | j :: r, h => by
    obtain ⟨h1, h2⟩ := List.pairwise_cons.mp h
    unfold insS
    split
    · next q => exact List.pairwise_cons.mpr ⟨fun y hy => by
        rcases List.mem_cons.mp hy with e | hy
        · rw [e]
          exact q
        · exact Int.lt_trans q (h1 y hy), h⟩
    · split
      · exact h
      · next q1 q2 => exact List.pairwise_cons.mpr ⟨fun y hy => by
          rcases mem_insS.mp hy with e | hy
          · omega
          · exact h1 y hy, up_insS h2⟩
theorem up_srtS : ∀ l : List Int, (srtS l).Pairwise (· < ·)
  | [] => List.Pairwise.nil
  | i :: r => up_insS (up_srtS r)
theorem up_eq : ∀ {l m : List Int}, l.Pairwise (· < ·) → m.Pairwise (· < ·) → (∀ k, k ∈ l ↔ k ∈ m) → l = m
  | [], [], _, _, _ => rfl
  | [], y :: m, _, _, h => absurd ((h y).mpr List.mem_cons_self) (by simp)
  | x :: l, [], _, _, h => absurd ((h x).mp List.mem_cons_self) (by simp)
  | x :: l, y :: m, h1, h2, h => by
    obtain ⟨a1, a2⟩ := List.pairwise_cons.mp h1
    obtain ⟨b1, b2⟩ := List.pairwise_cons.mp h2
    have exy : x = y := by
      have q1 := (h x).mp List.mem_cons_self
      have q2 := (h y).mpr List.mem_cons_self
      rcases List.mem_cons.mp q1 with e | q1
      · exact e
      · rcases List.mem_cons.mp q2 with e | q2
        · exact e.symm
        · have := a1 y q2
          have := b1 x q1
          omega
    subst exy
    rw [up_eq a2 b2 fun k => ?_]
    constructor
    · intro hk
      rcases List.mem_cons.mp ((h k).mp (List.mem_cons_of_mem _ hk)) with e | q
      · exact absurd (a1 k hk) (by omega)
      · exact q
    · intro hk
      rcases List.mem_cons.mp ((h k).mpr (List.mem_cons_of_mem _ hk)) with e | q
      · exact absurd (b1 k hk) (by omega)
      · exact q
/-! ### repr -/
mutual
def toPy : D → PyData
  | .non => .none
  | .bl b => .bool b
  | .int i => .int i
  | .str cs => .str ⟨cs.toArray⟩
  | .lst xs => .list (toPys xs)
  | .tup xs => .tuple (toPys xs)
  | .scr ns => .list (ns.map .int)
  | .dct _ _ => .none
def toPys : List D → List PyData
  | [] => []
  | x :: xs => toPy x :: toPys xs
end
def isSq : D → Bool
  | .lst _ => true
  | .tup _ => true
  | _ => false
/-- what repr can show -/
def rprOk (d : D) : Bool := isSq d && (toPy d).showable && decide ((toPy d).depth ≤ 100) && decide ((toPy d).shown.length ≤ sizeLine)
def rprT (d : D) : List Nat := (toPy d).shown.cps.toList
def drpr (d : D) : Option R := if rprOk d = true then some (.str (rprT d), .fz) else none
def dsrs : D → Option R
  | .lst xs => (asInts xs).bind fun ns => if ns.length < 64 then some (.lst ((srtS ns).map .int), .top) else none
  | _ => none

/-! ### expressions -/
inductive Tg where
  | n (i : Nat) | t (is : List Nat)
inductive E where
  | var (i : Nat)
  | con (d : D)
  | glo (x : String) (d : D)
  | nil | cons (a b : E)
  | tup (es : E) | lst (es : E)
  | bin (op : Operator) (a b : E)
  | neg (a : E)
  | band (a b : E) | bor (a b : E) | bnot (a : E)
  | cmp (op : CmpOp) (a b : E)
  | cmp2 (op op' : CmpOp) (a b c : E)
  | ite (c a b : E)
  | idx (a b : E) | slc (a lo hi : E) | rev (a : E)
  | call (f : String) (es : E)
  | blt (f : String) (es : E)
  | gcd (es : E)
  | isi (a : E) (ty : String)
  | met (m : String) (a es : E)
  | lc (tg : Tg) (it cnd elt : E)
  | lrg1 (a : E) | lrg2 (a b : E)
  | srs (a : E) | rpr (a : E)
  | rng (es : E) | enm (a : E) | zp (a b : E) | rvd (a : E)
def setAll : List Nat → List D → Env → Option Env
  | [], [], ρ => some ρ
  | i :: is, d :: ds, ρ => setAll is ds (ρ.set i (some (d, .fz)))
  | _, _, _ => none
def asg : Tg → D → Env → Option Env
  | .n i, d, ρ => some (ρ.set i (some (d, .fz)))
  | .t is, .tup ds, ρ => setAll is ds ρ
  | .t _, _, _ => none
def Tg.own : Tg → List Nat
  | .n i => [i]
  | .t is => is
def wipeE (ρ : Env) : List Nat → Env
  | [] => ρ
  | v :: vs => (wipeE ρ vs).set v none
def lcGo (tgt : D → Env → Option Env) (cnd : Env → Option Bool) (elt : Env → Option D) : List D → Env → Option (List D)
  | [], _ => some []
  | y :: ys, ρ => (tgt y ρ).bind fun ρ1 => (cnd ρ1).bind fun b =>
    if b then (elt ρ1).bind fun x => (lcGo tgt cnd elt ys ρ).map (x :: ·) else lcGo tgt cnd elt ys ρ
def rangeD : List D → Option (List D)
  | [.int j] => if -(2 ^ 62) ≤ j ∧ j < 2 ^ 62 then some ((List.range j.toNat).map fun (k : Nat) => .int (k : Int)) else none
  | [.int i, .int j] => if -(2 ^ 62) ≤ i ∧ i < 2 ^ 62 ∧ -(2 ^ 62) ≤ j ∧ j < 2 ^ 62 then some ((List.range (j - i).toNat).map fun (k : Nat) => .int (i + (k : Int))) else none
  | _ => none
def enumD (k : Nat) : List D → List D
  | [] => []
  | x :: xs => .tup [.int k, x] :: enumD (k + 1) xs
def zipD : List D → List D → List D
  | x :: xs, y :: ys => .tup [x, y] :: zipD xs ys
  | _, _ => []
def itemsD : D → Option (List D)
  | .lst xs => some xs
  | .tup xs => some xs
  | .str cs => some (cs.map fun c => .str [c])
  | _ => none
def zipI : D → D → Option (List D)
  | .lst xs, .lst ys => some (zipD xs ys)
  | _, _ => none
def revI : D → Option (List D)
  | .lst xs => some xs.reverse
  | _ => none
def enumI : D → Option (List D)
  | .lst xs => some (enumD 0 xs)
  | _ => none
/-- a result's truth -/
def tru (r : Option R) : Option Bool := (r.bind frz).bind truth
def toI : Option D → Option (Option Int)
  | some (.int i) => some (some i)
  | _ => none
section
variable (φ : String → List D → Option R)
mutual
noncomputable def ev : E → Env → Option R
  | .var i, ρ => match ρ[i]? with
    | some (some (d, .fz)) => some (d, .fz)
    | _ => none
  | .con d, _ => some (d, .fz)
  | .glo _ d, _ => some (d, .fz)
  | .nil, _ => none
  | .cons _ _, _ => none
  | .tup es, ρ => (evs es ρ).bind fun ds => if ds.length ≤ sizeLine then some (.tup ds, .fz) else none
  | .lst es, ρ => (evs es ρ).bind fun ds => if ds.length ≤ sizeLine then some (.lst ds, .top) else none
  | .bin op a b, ρ => ((ev a ρ).bind frz).bind fun x => ((ev b ρ).bind frz).bind fun y => dbin op x y
  | .neg a, ρ => ((ev a ρ).bind frz).bind fun x => match x with
    | .int i => some (.int (-i), .fz)
    | _ => none
  | .band a b, ρ => ((ev a ρ).bind frz).bind fun x => (truth x).bind fun c => if c then ev b ρ else some (x, .fz)
  | .bor a b, ρ => ((ev a ρ).bind frz).bind fun x => (truth x).bind fun c => if c then some (x, .fz) else ev b ρ
  | .bnot a, ρ => (tru (ev a ρ)).map fun c => (.bl (!c), .fz)
  | .cmp op a b, ρ => ((ev a ρ).bind frz).bind fun x => ((ev b ρ).bind frz).bind fun y => (dcmp op x y).map fun c => (.bl c, .fz)
  | .cmp2 op op' a b c, ρ => ((ev a ρ).bind frz).bind fun x => ((ev b ρ).bind frz).bind fun y => (dcmp op x y).bind fun k =>
    if k then ((ev c ρ).bind frz).bind fun z => (dcmp op' y z).map fun c => (.bl c, .fz) else some (.bl false, .fz)
  | .ite c a b, ρ => (tru (ev c ρ)).bind fun k => if k then ev a ρ else ev b ρ
  | .idx a b, ρ => ((ev a ρ).bind frz).bind fun x => ((ev b ρ).bind frz).bind fun y => (didx x y).map fun d => (d, .fz)
  | .slc a lo hi, ρ => ((ev a ρ).bind frz).bind fun x => (evo lo ρ).bind fun l => (evo hi ρ).bind fun h => dslc x l h
  | .rev a, ρ => ((ev a ρ).bind frz).bind drev
  | .call f es, ρ => (evs es ρ).bind (φ f)
  | .blt f es, ρ => (evs es ρ).bind (dblt f)
  | .gcd es, ρ => (evs es ρ).bind dgcd
  | .isi a ty, ρ => ((ev a ρ).bind frz).bind fun x => (disi ty x).map fun b => (.bl b, .fz)
  | .met _ _ _, _ => none
  | .lc tg it cnd elt, ρ => (evi it ρ).bind fun ys =>
      (lcGo (asg tg) (fun ρ => tru (ev cnd ρ)) (fun ρ => (ev elt ρ).bind frz) ys (wipeE ρ tg.own)).map fun xs => (.lst xs, .top)
  | .lrg1 a, ρ => ((ev a ρ).bind frz).bind fun x => (rangeD [x]).bind fun xs => if xs.length ≤ sizeLine then some (.lst xs, .top) else none
  | .lrg2 a b, ρ => ((ev a ρ).bind frz).bind fun x => ((ev b ρ).bind frz).bind fun y => (rangeD [x, y]).bind fun xs => if xs.length ≤ sizeLine then some (.lst xs, .top) else none
  | .srs a, ρ => ((ev a ρ).bind frz).bind dsrs
  | .rpr a, ρ => ((ev a ρ).bind frz).bind drpr
  | .rng _, _ => none
  | .enm _, _ => none
  | .zp _ _, _ => none
  | .rvd _, _ => none
noncomputable def evs : E → Env → Option (List D)
  | .nil, _ => some []
  | .cons a b, ρ => ((ev a ρ).bind frz).bind fun x => (evs b ρ).map (x :: ·)
  | _, _ => none
noncomputable def evo : E → Env → Option (Option Int)
  | .nil, _ => some none
  | .cons a .nil, ρ => toI ((ev a ρ).bind frz)
  | _, _ => none
noncomputable def evi : E → Env → Option (List D)
  | .rng es, ρ => (evs es ρ).bind fun ds => (rangeD ds).bind fun xs => if xs.length ≤ sizeLine then some xs else none
  | .enm a, ρ => ((ev a ρ).bind frz).bind enumI
  | .zp a b, ρ => ((ev a ρ).bind frz).bind fun x => ((ev b ρ).bind frz).bind fun y => zipI x y
  | .rvd a, ρ => ((ev a ρ).bind frz).bind revI
  | .cons a .nil, ρ => ((ev a ρ).bind frz).bind itemsD
  | _, _ => none
end
noncomputable def evT (e : E) (ρ : Env) : Option Bool := tru (ev φ e ρ)
end
end PL
set_option Elab.async false
set_option linter.all false
set_option maxRecDepth 100000
namespace PL
open PySem PySem.Spec PyProof.Rows L2
abbrev newS (w : World) : Obj := { cls := .type "set", dict := none, data := .set #[] 0 (.fresh 0 0 (!w.params.followText "set-order")) }
abbrev hS0 (w : World) (s : Shared) : Heap := s.heap.push (newS w)
section
variable {w : World} {P : Program} {E : Value → Shared → Prop} {A : Around} {s : Shared}
set_option maxHeartbeats 4000000 in
theorem call_set_lstI {l : Addr} {items : Array Value} (ns : List Int) {Q : Value → Shared → Prop} (calm0 : A.handled = none) (lst : s.heap.IsList l items) (its : IntsAre items.toList ns) (room : ns.length + 1 < scanBound)
    (h : ∀ (h' : Heap) (tk : Nat) (c : Nat), SetR w h' s.heap.objs.size (fun j => decide (j ∈ ns)) c → c ≤ ns.length → (∀ b o, s.heap.get? b = some o → h'.get? b = some o) → Q (.ref s.heap.objs.size) { s with heap := h', toks := tk }) :
    wpAny (model P w) A (PySem.call (.type "set") [.ref l]) Q E s := by
  have nsz : items.size = ns.length := by
    have q := IntsAre.length its
    rw [Array.length_toList] at q
    exact q
  obtain ⟨c, more, mro1⟩ := F.called_set.mro
  have made1 := F.called_set.made
  have sub1 := F.called_set.sub
  refine wpAny_call (codeAny_of_tree (show wpAny _ _ (callAny (.type "set") _) _ _ _ from wpAny_pure ⟨Code.quiet_builtin _ (by decide +kernel), codeAny_builtin F.entry_type_call ?_⟩)); rw [Around.under_plain (weight_type_call_type "set" [.ref l] []) rfl]
  have nt1 := F.called_set.notType
  have cc1 := F.called_set.canCreate
  have tc1 := F.typeCall_set_1 (.ref l)
  repeat any_goals first | assumption | wp_step

  refine codeAny_mono (code_set_led1 (.ref l) (E := E) (Q₁ := fun new s₁ => new = .ref s.heap.objs.size ∧ s₁ = { s with heap := hS0 w s }) ⟨rfl, rfl⟩) fun r s₁ q₁ => ?_
  cases r with
  | error e => exact q₁
  | ok fl =>
    cases fl with
    | ret new =>
      obtain ⟨rfl, rfl⟩ := q₁
      have gS : (hS0 w s).get? s.heap.objs.size = some (newS w) := Heap.get?_push_size _ rfl
      have gT : Shared.TypeIs { s with heap := hS0 w s } (.ref s.heap.objs.size) "set" := ⟨_, gS, rfl⟩
      have ini1 := F.called_set.init.lookup
      have ini2 := F.called_set.init.bind (.ref s.heap.objs.size)
      repeat any_goals first | assumption | wp_step

      refine codeAny_mono (codeAny_call_builtin (R := wants (fun r s₂ => r = .none ∧ ∃ h', ∃ tk c, s₂ = { s with heap := h', toks := tk } ∧ SetR w h' s.heap.objs.size (fun j => decide (j ∈ ns)) c ∧ c ≤ ns.length ∧
          (∀ b o, s.heap.get? b = some o → h'.get? b = some o)) E) F.called_set.init.plain F.entry_set_init (check_set_init_1 gT ?_)) fun r₂ s₂ q₂ => ?_
      · obtain ⟨ol, gl, kl, nl, dl⟩ := lst
        obtain ⟨oc, od, ot, os2⟩ := ol
        simp only at kl dl
        subst kl; subst dl
        have gl2 : (hS0 w s).get? l = some { cls := .type "list", dict := od, data := .seq items nl, slots := os2 } := Heap.get?_push_of_some _ gl
        have nos1 := F.sub_list_set
        have nos2 := F.sub_list_frozenset
        have nod : (Value.type "list" == Value.type "dict") = false := by decide
        have isl : (hS0 w s).IsList l items := ⟨_, gl2, rfl, nl, rfl⟩
        unfold Builtin.«set.__init__» noKeywords Builtin.Frozenset.updateFrom; generalize ePI : pyIter = It0
        wp_walk
        subst ePI

        refine wpAny_pyIter_list isl (wpAny_bind (wpAny_runValue ?_))
        have lts : l < s.heap.objs.size := Heap.lt_size gl
        have calm3 : A.in1.in1.in1.handled = none := by simp [calm0]
        have szn : (hS0 w s).objs.size = s.heap.objs.size + 1 := Heap.size_push ..
        have nel : l ≠ (hS0 w s).objs.size := by
          rw [Heap.size_push]; exact Nat.ne_of_lt (Nat.lt_succ_of_lt lts)
        have nin : s.heap.objs.size ∉ [(hS0 w s).objs.size, l] := by
          simp only [Heap.size_push, List.mem_cons, List.mem_singleton, List.not_mem_nil, or_false, not_or]
          exact ⟨Nat.ne_of_lt (Nat.lt_succ_self _), Nat.ne_of_gt lts⟩
        have vals0 : ∀ (i : Nat) (v : Value), items[i]? = some v → ∃ k t, ns[i]? = some k ∧ v = .int k t := fun i v hv => by
          have hi : i < ns.length := by rw [← nsz]; exact (Array.getElem?_eq_some_iff.mp hv).1
          obtain ⟨t, e⟩ := PyProof.Rows.IntsAre.int_at its i v (by rw [Array.getElem?_toList]; exact hv)
          exact ⟨ns[i], t, List.getElem?_eq_getElem hi, by rw [e, List.getD_eq_getElem?_getD, List.getElem?_eq_getElem hi] <;> rfl⟩
        refine set_update_ints ((Walks.list calm3 _ l nel items).toS) s.heap.objs.size
          nin ns nsz room vals0 (items.size - 0) 0 _ (by omega) (Nat.zero_le _)
          ⟨⟨_, Heap.get?_push_size _ rfl, rfl, rfl⟩, (isl.push _)⟩ ?hS0 ?hR
        case hS0 =>
          have got0 : ((hS0 w s).push { cls := .type "list_iterator", data := .fields #[.ref l, .int 0 0] }).get? s.heap.objs.size
              = some (newS w) := Heap.get?_push_of_some _ gS
          exact ⟨0, Nat.le_refl 0, setR_new_at got0⟩
        case hR =>
          intro s' c' mv c9 R9
          obtain ⟨h', g2, d', tk', os'⟩ := s'; have eg : g2 = s.gens := mv.gens
          have ed : d' = s.drawn := mv.drawn
          have eo : os' = s.os := mv.os
          subst eg; subst ed; subst eo
          show wpAny _ _ _ _ _ _
          refine wpAny_pure ?_
          show wpAny _ _ (ret Value.none) _ _ _; rw [nsz] at c9
          refine wpAny_pure ⟨rfl, h', tk', c', rfl, R9, c9, fun b o e => ?_⟩
          have b0 : b < s.heap.objs.size := Heap.lt_size e
          have b1 : b ≠ s.heap.objs.size := Nat.ne_of_lt b0
          have b2 : b ≠ (hS0 w s).objs.size := by
            rw [Heap.size_push]; exact Nat.ne_of_lt (Nat.lt_succ_of_lt b0)
          exact mv.heap b o (by simp only [List.mem_cons, List.mem_singleton, List.not_mem_nil, or_false, not_or]; exact ⟨b1, b2⟩) (Heap.get?_push_of_some _ (Heap.get?_push_of_some _ e))

      · cases r₂ with
        | error e => exact q₂
        | ok fl₂ =>
          cases fl₂ with
          | ret r =>
            obtain ⟨rfl, h', tk, c', rfl, R9, c9, k9⟩ := q₂
            repeat any_goals first | assumption | wp_step
            exact h _ _ _ R9 c9 k9
          | _ => exact q₂.elim
    | _ => exact q₁.elim

end

/-! ### sorted(set(xs)), xs a list of ints -/
def rSetOfI (K : PySem.W.Frag) (w : World) : List V → Hp → VK → Prop := fun vs H Q => ∃ (l : Addr) (ns : List Int), vs = [.ref l] ∧ SqL K H l (ns.map V.int) ∧ ns.length < 64 ∧
  ∀ (p : Addr) (c : Nat), H p = none → c ≤ ns.length → Q (.ref p) (upd H p (SetO w p (fun j => decide (j ∈ ns)) c))
theorem cr_setOfI {X : Cx} (hc : X.calm = true) : CallR X (.type "set") (rSetOfI X.K X.w) := by
  intro pins s σ H vs us Q I rv ⟨l, ns, e, hs, few, q⟩
  subst e
  rw [Vals.ref1 rv]
  obtain ⟨its, r, pl, hz⟩ := I.list hs
  refine call_set_lstI ns (I.ok.hd hc) pl.isList (by simpa using r.ints) (by unfold scanBound; omega) fun h' tk c R hcn k => ?_
  exact ⟨.ref _, _, I.laid (t' := tk) k (Nat.le_refl _) (setO_new R), rfl, q _ c (I.hok.fresh (Nat.le_refl _)) hcn⟩
end PL
set_option Elab.async false
set_option linter.all false
set_option maxRecDepth 100000
namespace PL
open PySem PySem.Spec L2

/-! ### the check: does a text's expression stand for this one? -/
structure Ctxt where
  N : List Str
  sc : Scope
  fn : Str → Bool
structure Tab where
  fns : List (String × Nat)
  bts : List String
  cons : List (String × D)
  gcd : Bool
  rp : Bool
def visB (c : Ctxt) (i : Nat) (x : Str) : Bool :=
  decide (c.N[i]? = some x) && (match c.sc.names.lookup x with
    | some .local => true
    | some .cell => true
    | some .free => true
    | _ => false) && !(x == ("__debug__" : Str)) && !(x == ("__classdict__" : Str))
def locB (c : Ctxt) (i : Nat) (x : Str) : Bool :=
  decide (c.N[i]? = some x) && (match c.sc.names.lookup x with
    | some .local => true
    | some .cell => c.fn x
    | _ => false)
def glB (c : Ctxt) (x : Str) : Bool := (match c.sc.names.lookup x with
    | some .globalImplicit => true
    | _ => false) && !(x == ("__debug__" : Str))
def conB : D → Const → Bool
  | .int i, .int j => i == j
  | .bl i, .bool j => i == j
  | .non, .none => true
  | .str cs, .str s => decide (s.cps.toList = cs) && decide (cs.length ≤ 1000)
  | _, _ => false
def conD : D → D → Bool
  | .tup [.int a, .int b], .tup [.int c, .int d] => a == c && b == d
  | .int a, .int b => a == b
  | .str a, .str b => a == b
  | _, _ => false
def namesB (c : Ctxt) : List Nat → List Expr → Bool
  | [], [] => true
  | i :: is, .Name x _ :: es => locB c i x && namesB c is es
  | _, _ => false
def tgB (c : Ctxt) : Tg → Expr → Bool
  | .n i, .Name x _ => locB c i x
  | .t is, .Tuple es _ _ => namesB c is es
  | _, _ => false
def ownOf (N : List Str) : List Nat → List (Str × Nat)
  | [] => []
  | i :: is => (N.getD i "", i) :: ownOf N is
def blkCt (c : Ctxt) (scope : Scope) : Ctxt := ⟨c.N, relS scope c.sc, fun x => scope.names.lookup x == some .cell⟩
def isTT : E → Bool
  | .con (.bl true) => true
  | _ => false
def knownB : List String := ["len", "int", "abs", "max", "min", "sum", "all", "any", "list", "sorted"]
section
variable (T : Tab)
mutual
def chkE : E → Ctxt → Expr → Bool
  | .var i, c, .Name x _ => visB c i x
  | .con d, _, .Constant k _ _ => conB d k
  | .glo x d, c, .Name y _ => y == (x : Str) && glB c y && T.cons.any fun p => p.1 == x && conD p.2 d
  | .tup es, c, .Tuple xs _ _ => chkA es c xs
  | .lst es, c, .List xs _ => chkA es c xs
  | .bin op a b, c, .BinOp l o r _ => o == op && chkE a c l && chkE b c r
  | .neg a, c, .UnaryOp .USub x _ => chkE a c x
  | .band a b, c, .BoolOp .And [x, y] _ => chkE a c x && chkE b c y
  | .band a b, c, .BoolOp .And (x :: y :: z :: r) p => chkE a c x && chkE b c (.BoolOp .And (y :: z :: r) p)
  | .bor a b, c, .BoolOp .Or [x, y] _ => chkE a c x && chkE b c y
  | .bor a b, c, .BoolOp .Or (x :: y :: z :: r) p => chkE a c x && chkE b c (.BoolOp .Or (y :: z :: r) p)
  | .bnot a, c, .UnaryOp .Not x _ => chkE a c x
  | .cmp op a b, c, .Compare x [o] [y] _ => o == op && chkE a c x && chkE b c y
  | .cmp2 op op' a b d, c, .Compare x [o, o'] [y, z] _ => o == op && o' == op' && chkE a c x && chkE b c y && chkE d c z
  | .ite k a b, c, .IfExp x y z _ => chkE k c x && chkE a c y && chkE b c z
  | .idx a b, c, .Subscript x y _ => chkE a c x && chkE b c y
  | .slc a lo hi, c, .Subscript x (.Slice l h none _) _ => chkE a c x && chkO lo c l && chkO hi c h
  | .rev a, c, .Subscript x (.Slice none none (some (.UnaryOp .USub (.Constant (.int i) _ _) _)) _) _ => i == 1 && chkE a c x
  | .call f es, c, .Call (.Name x _) (y :: ys) [] _ => x == (f : Str) && glB c x && chkA es c (y :: ys) && T.fns.any fun p => p.1 == f
  | .blt f es, c, .Call (.Name x _) (y :: ys) [] _ => x == (f : Str) && glB c x && chkA es c (y :: ys) && T.bts.contains f && knownB.contains f
  | .gcd es, c, .Call (.Name x _) (y :: ys) [] _ => x == ("gcd" : Str) && glB c x && chkA es c (y :: ys) && T.gcd
  | .isi a ty, c, .Call (.Name x _) [y, .Name z _] [] _ => x == ("isinstance" : Str) && glB c x && z == (ty : Str) && glB c z && chkE a c y && T.bts.contains "isinstance" && T.bts.contains ty && knownT.contains ty
  | .lc tg it cnd elt, c, .ListComp el [⟨t, i, ifs, a⟩] scope _ =>
    a == 0 && chkI it c t i && blkC c.N c.sc scope (ownOf c.N tg.own) && tgB (blkCt c scope) tg t && (match ifs with
      | [] => isTT cnd
      | [q] => chkE cnd (blkCt c scope) q
      | _ => false) && chkE elt (blkCt c scope) el
  | .lrg1 a, c, .Call (.Name x _) [.Call (.Name y _) [z] [] _] [] _ => x == ("list" : Str) && glB c x && y == ("range" : Str) && glB c y && chkE a c z && T.bts.contains "list" && T.bts.contains "range"
  | .lrg2 a b, c, .Call (.Name x _) [.Call (.Name y _) [z, z'] [] _] [] _ => x == ("list" : Str) && glB c x && y == ("range" : Str) && glB c y && chkE a c z && chkE b c z' && T.bts.contains "list" && T.bts.contains "range"
  | .srs a, c, .Call (.Name x _) [.Call (.Name y _) [z] [] _] [] _ => x == ("sorted" : Str) && glB c x && y == ("set" : Str) && glB c y && chkE a c z && T.bts.contains "sorted" && T.bts.contains "set"
  | .rpr a, c, .Call (.Name x _) [y] [] _ => x == ("repr" : Str) && glB c x && chkE a c y && T.bts.contains "repr" && T.rp
  | _, _, _ => false
def chkA : E → Ctxt → List Expr → Bool
  | .nil, _, [] => true
  | .cons a b, c, x :: xs => chkE a c x && chkA b c xs
  | _, _, _ => false
def chkO : E → Ctxt → Option Expr → Bool
  | .nil, _, none => true
  | .cons a .nil, c, some x => chkE a c x
  | _, _, _ => false
def chkI : E → Ctxt → Expr → Expr → Bool
  | .rng es, c, _, .Call (.Name y _) [z] [] _ => y == ("range" : Str) && glB c y && chkA es c [z] && T.bts.contains "range"
  | .rng es, c, _, .Call (.Name y _) [z, z'] [] _ => y == ("range" : Str) && glB c y && chkA es c [z, z'] && T.bts.contains "range"
  | .enm a, c, .Tuple _ _ _, .Call (.Name y _) [z] [] _ => y == ("enumerate" : Str) && glB c y && chkE a c z && T.bts.contains "enumerate"
  | .zp a b, c, .Tuple _ _ _, .Call (.Name y _) [z, z'] [] _ => y == ("zip" : Str) && glB c y && chkE a c z && chkE b c z' && T.bts.contains "zip"
  | .rvd a, c, _, .Call (.Name y _) [z] [] _ => y == ("reversed" : Str) && glB c y && chkE a c z && T.bts.contains "reversed"
  | .cons a .nil, c, _, x => chkE a c x
  | _, _, _, _ => false
end
end

/-- what stands around -/
def spec (K : PySem.W.Frag) (φ : List D → Option R) (n : Nat) : Sp := fun vs H Q _ => ∃ G ds r, Same G H ∧ Reps K G ds vs ∧ ds.length = n ∧ φ ds = some r ∧ ∀ v G' H', Grow G H G' H' → Res K G' H H' r v → Q v H'
structure XOk (T : Tab) (φ : String → List D → Option R) (c : Ctxt) (X : Cx) : Prop where
  nm : X.N = c.N
  sc : X.env.scope = c.sc
  fnn : X.fn = c.fn
  nd : c.N.Nodup
  calm : X.calm = true
  xe : X.xe = fun _ _ => False
  hu : X.A.units + 200 < cLine
  fns : ∀ f n, (f, n) ∈ T.fns → ∃ k a fd ps, List.length ps = n ∧ X.mg (f : Str) = some (.ref a) ∧ PySem.W.keepIn X.K (.ref a) = true ∧ Binds X.K fd ps [] ∧ Room k X.A ∧ (∀ ds r, φ f ds = some r → ds.length = n) ∧ FnOk X.prog X.w X.K X.mg X.base CX0 k a fd ps (spec X.K (φ f) n)
  bts : ∀ b, b ∈ T.bts → X.mg (b : Str) = none
  cons : ∀ x d, (x, d) ∈ T.cons → ∃ u v, X.mg (x : Str) = some u ∧ RelV v u ∧ ∀ G, Rep X.K G d v
  gcd : T.gcd = true → X.mg "gcd" = some (.builtin "math.gcd")
  rp : T.rp = true → X.A.guards = some []

section
variable {T : Tab} {φ : String → List D → Option R} {c : Ctxt} {X : Cx}
theorem XOk.vis (h : XOk T φ c X) {i : Nat} {x : Str} (q : visB c i x = true) : X.N[i]? = some x ∧ Vis X.env.scope x ∧ (x == ("__debug__" : Str)) = false ∧ (x == ("__classdict__" : Str)) = false := by
  unfold visB at q
  simp only [Bool.and_eq_true, decide_eq_true_eq, Bool.not_eq_true'] at q
  obtain ⟨⟨⟨h1, h2⟩, h3⟩, h4⟩ := q
  refine ⟨by rw [h.nm]; exact h1, ?_, h3, h4⟩
  rw [h.sc]
  unfold L2.Vis
  split at h2 <;> simp_all
theorem XOk.loc (h : XOk T φ c X) {i : Nat} {x : Str} (q : locB c i x = true) : X.N[i]? = some x ∧ Loc X.env.scope x ∧ (X.fn x = true ∨ X.env.scope.names.lookup x = some .local) := by
  unfold locB at q
  simp only [Bool.and_eq_true, decide_eq_true_eq] at q
  obtain ⟨h1, h2⟩ := q
  rw [h.nm, h.sc, h.fnn]
  unfold L2.Loc
  split at h2 <;> simp_all
theorem XOk.gl (h : XOk T φ c X) {x : Str} (q : glB c x = true) : Gl X x ∧ (x == ("__debug__" : Str)) = false := by
  unfold glB at q
  simp only [Bool.and_eq_true, Bool.not_eq_true'] at q
  obtain ⟨h1, h2⟩ := q
  refine ⟨?_, h2⟩
  show X.env.scope.names.lookup x = some .globalImplicit
  rw [h.sc]
  split at h1 <;> simp_all
theorem conB_rep {K : PySem.W.Frag} {d : D} {k : Const} (q : conB d k = true) {j : Nat} {pos : Pos} : ∃ v, PE X (.Constant k j pos) (tC v) ∧ ∀ G, Rep K G d v := by
  cases d <;> cases k <;> simp only [conB, Bool.and_eq_true, decide_eq_true_eq, beq_iff_eq, Bool.false_eq_true] at q
  · exact ⟨.non, pe_non, fun _ => .non⟩
  · subst q
    exact ⟨_, pe_bl, fun _ => .bl _⟩
  · subst q
    exact ⟨_, pe_int, fun _ => .int _⟩
  · rename_i cs s
    obtain ⟨q1, q2⟩ := q
    refine ⟨_, pe_str, fun G => ?_⟩
    have e : s = ⟨cs.toArray⟩ := by
      rw [← q1]
    rw [e]
    exact .str cs (Nat.le_trans q2 (by rw [sizeLine_eq]; decide))
theorem conD_eq {d e : D} (q : conD d e = true) : d = e := by
  unfold conD at q
  split at q <;> simp_all
end
end PL
set_option Elab.async false
set_option linter.all false
set_option maxRecDepth 100000
namespace PL
open PySem PySem.Spec L2

section
variable {K : PySem.W.Frag} {G G' H H' H1 H2 H3 G1 : Hp}
theorem Res.old {r : R} {v : V} {H0 : Hp} (s : Same H0 H) (q : Res K G' H H' r v) : Res K G' H0 H' r v := by
  obtain ⟨as, o, h⟩ := q
  exact ⟨as, o, fun a ha => ⟨(h a ha).1, same_none s (h a ha).2.1, (h a ha).2.2⟩⟩
theorem truV_of {d : D} {v : V} {b : Bool} (r : Rep K G d v) (s : Same G H) (e : truth d = some b) : TruV K v H b := by
  cases r with
  | non =>
    cases e
    rfl
  | bl b =>
    cases e
    rfl
  | int i =>
    cases e
    rfl
  | str cs z =>
    cases e
    refine ⟨by simpa [Str.length] using z, ?_⟩
    cases cs with
    | nil => rfl
    | cons a r =>
      symm
      show (((⟨(a :: r).toArray⟩ : Str).length : Int) != 0) = true
      rw [bne_iff_ne]
      simp only [Str.length, List.size_toArray, List.length_cons]
      omega
  | @lst p xs vs g z rs =>
    cases e
    refine .inl ⟨vs, .inl (.inl (s _ _ g)), ?_⟩
    cases rs <;> rfl
  | @tup p xs vs g z rs =>
    cases e
    refine .inr (.inl ⟨vs, PL.Same.seqT s g, ?_⟩)
    cases rs <;> rfl
  | scr _ => cases e
end

section
variable {X : Cx} {ex : Expr} {g : Env → Option R}
def plainT (X : Cx) (ex : Expr) : Prop := ∀ whole, isTrue ex X.env whole = (do
  let v ← whole
  standAt ex.pos
  holding [v] (truthy v))
theorem pt_of (h : PE X ex (RD X.K g)) (he : plainT X ex) : PT X ex (RT X.K fun ρ => tru (g ρ)) := by
  refine (pt_truth h.z he).imp fun σ H Q ⟨G0, H0, G, ρ, b, S, e, k⟩ => ?_
  obtain ⟨d, q1, q2⟩ := Option.bind_eq_some_iff.mp e
  exact ⟨G0, H0, G, ρ, d, S, q1, fun v G' H' w r => ⟨b, truV_of r w.sub q2, k G' H' w⟩⟩
end

/-! ### what is walked -/
/-- the walk J, its items ys: each is known from the turn on at which it comes -/
def Wk (K : PySem.W.Frag) (G : Hp) (J : It) (ys : List D) : Prop := ys.length ≤ sizeLine ∧ ∃ Y, Walk J ys.length (fun H => Same G H) Y ∧
  ∀ i H x H', i < ys.length → Same G H → Y i H x H' → ∃ d, ys[i]? = some d ∧ ∀ G1, Same G G1 → Same G1 H → ∃ G', Grow G1 H G' H' ∧ Rep K G' d x
def RI (K : PySem.W.Frag) (f : Env → Option (List D)) : TI := fun σ H R => ∃ G0 H0 G ρ ys, Sim K G0 H0 G H ρ σ ∧ f ρ = some ys ∧ ∀ J G' H', Grow G H G' H' → Wk K G' J ys → R J H'

structure Snd (T : Tab) (φ : String → List D → Option R) (e : E) : Prop where
  val : ∀ (c : Ctxt) (X : Cx) (ex : Expr), XOk T φ c X → chkE T e c ex = true →
    PE X ex (RD X.K (ev φ e)) ∧ PT X ex (RT X.K (evT φ e)) ∧ ∀ op vs pos, ex = .BoolOp op vs pos → PW X ex (RT X.K (evT φ e))
  args : ∀ (c : Ctxt) (X : Cx) (es : List Expr), XOk T φ c X → chkA T e c es = true → PA X es (RA X.K (evs φ e)) ∧ ∀ env, (starEach es env).any (·.1) = false
  opt : ∀ (c : Ctxt) (X : Cx) (o : Option Expr), XOk T φ c X → chkO T e c o = true → PO X o (fun σ H Q => ∃ G0 H0 G ρ k, Sim X.K G0 H0 G H ρ σ ∧ evo φ e ρ = some k ∧ ∀ G' H', Grow G H G' H' → Q k H')
  iter : ∀ (c : Ctxt) (X : Cx) (tg ex : Expr), XOk T φ c X → chkI T e c tg ex = true → PI X tg ex (RI X.K (evi φ e)) ∧ ∀ x, foldedSetIterable ex X.env x = pure x
section
variable {T : Tab} {φ : String → List D → Option R} {c : Ctxt} {X : Cx} {e a b : E}
/-- a case where nothing but a value stands -/
theorem Snd.mk1 (ha : ∀ c es, chkA T e c es = false) (ho : ∀ c o, chkO T e c o = false) (hi : ∀ c t o, chkI T e c t o = false)
    (h : ∀ (c : Ctxt) (X : Cx) (ex : Expr), XOk T φ c X → chkE T e c ex = true →
      PE X ex (RD X.K (ev φ e)) ∧ PT X ex (RT X.K (evT φ e)) ∧ ∀ op vs pos, ex = .BoolOp op vs pos → PW X ex (RT X.K (evT φ e))) : Snd T φ e :=
  ⟨h, fun c X es _ q => (by rw [ha] at q; exact nomatch q), fun c X es _ q => (by rw [ho] at q; exact nomatch q), fun c X t es _ q => (by rw [hi] at q; exact nomatch q)⟩
/-- .. whose test is its truth -/
theorem tri {ex : Expr} (h : PE X ex (RD X.K (ev φ e))) (he : plainT X ex) (hb : ∀ op vs pos, ex ≠ .BoolOp op vs pos) :
    PE X ex (RD X.K (ev φ e)) ∧ PT X ex (RT X.K (evT φ e)) ∧ ∀ op vs pos, ex = .BoolOp op vs pos → PW X ex (RT X.K (evT φ e)) :=
  ⟨h, pt_of h he, fun op vs pos q => absurd q (hb op vs pos)⟩

theorem snd_var (i : Nat) : Snd T φ (.var i) := by
  refine Snd.mk1 (fun _ _ => rfl) (fun _ _ => rfl) (fun _ _ _ => rfl) fun c X ex hX q => ?_
  cases ex <;> first | (cases q; done) | skip
  rename_i x pos
  obtain ⟨h1, h2, h3, h4⟩ := hX.vis (show visB c i x = true from q)
  refine tri ?_ (fun _ => rfl) (fun _ _ _ q => nomatch q)
  refine (pe_var h1 h2 h3 h4).imp fun σ H Q ⟨G0, H0, G, ρ, r, S, e, k⟩ => ?_
  rw [ev] at e
  split at e
  · next d e1 =>
    cases e
    obtain ⟨v, ev, rp⟩ := S.var e1
    exact ⟨v, ev, k v G H (Grow.refl S.gr.sub) (.fz rp)⟩
  · cases e
theorem snd_con (d : D) : Snd T φ (.con d) := by
  refine Snd.mk1 (fun _ _ => rfl) (fun _ _ => rfl) (fun _ _ _ => rfl) fun c X ex hX q => ?_
  cases ex <;> first | (cases q; done) | skip
  rename_i k j pos
  obtain ⟨v, h1, h2⟩ := conB_rep (X := X) (K := X.K) (show conB d k = true from q) (j := j) (pos := pos)
  refine tri ?_ (fun _ => rfl) (fun _ _ _ q => nomatch q)
  refine h1.imp fun σ H Q ⟨G0, H0, G, ρ, r, S, e, k⟩ => ?_
  rw [ev] at e
  cases e
  exact k v G H (Grow.refl S.gr.sub) (.fz (h2 G))
theorem snd_glo (x : String) (d : D) : Snd T φ (.glo x d) := by
  refine Snd.mk1 (fun _ _ => rfl) (fun _ _ => rfl) (fun _ _ _ => rfl) fun c X ex hX q => ?_
  cases ex <;> first | (cases q; done) | skip
  rename_i y pos
  have q' : (y == (x : Str) && glB c y && T.cons.any fun p => p.1 == x && conD p.2 d) = true := q
  simp only [Bool.and_eq_true, beq_iff_eq, List.any_eq_true] at q'
  obtain ⟨⟨e1, q2⟩, ⟨y', d'⟩, hm, e3, e4⟩ := q'
  have e3 : y' = x := e3
  have e4 : d' = d := conD_eq e4
  subst e3 e4
  obtain ⟨u, v, h1, h2, h3⟩ := hX.cons _ _ hm
  obtain ⟨g1, g2⟩ := hX.gl q2
  subst e1
  refine tri ?_ (fun _ => rfl) (fun _ _ _ q => nomatch q)
  refine (pe_glob g1 h1 h2 (hd := g2)).imp fun σ H Q ⟨G0, H0, G, ρ, r, S, e, k⟩ => ?_
  rw [ev] at e
  cases e
  exact k v G H (Grow.refl S.gr.sub) (.fz (h3 G))
end
end PL
set_option Elab.async false
set_option linter.all false
set_option maxRecDepth 100000
namespace PL
open PySem PySem.Spec L2

section
variable {K : PySem.W.Frag} {G G' H H' H1 H2 H3 G1 : Hp}
theorem rep_lst {xs : List D} {v : V} (r : Rep K G (.lst xs) v) : ∃ p vs, v = .ref p ∧ G p = some (.lst vs) ∧ xs.length ≤ sizeLine ∧ Reps K G xs vs := by
  cases r with
  | lst a b c => exact ⟨_, _, rfl, a, b, c⟩
theorem rep_tup {xs : List D} {v : V} (r : Rep K G (.tup xs) v) : ∃ p vs, v = .ref p ∧ SqT K G p vs ∧ xs.length ≤ sizeLine ∧ Reps K G xs vs := by
  cases r with
  | tup a b c => exact ⟨_, _, rfl, a, b, c⟩
theorem rep_str {xs : List Nat} {v : V} (r : Rep K G (.str xs) v) : v = .str ⟨xs.toArray⟩ ∧ xs.length ≤ sizeLine := by
  cases r with
  | str _ z => exact ⟨rfl, z⟩
theorem rep_int {i : Int} {v : V} (r : Rep K G (.int i) v) : v = .int i := by
  cases r
  rfl
theorem rep_bl {i : Bool} {v : V} (r : Rep K G (.bl i) v) : v = .bl i := by
  cases r
  rfl
theorem rep_non {v : V} (r : Rep K G .non v) : v = .non := by
  cases r
  rfl
theorem rep_scr {ns : List Int} {v : V} (r : Rep K G (.scr ns) v) : ∃ p, v = .ref p ∧ SqL K G p (ns.map V.int) := by
  cases r with
  | scr a => exact ⟨_, rfl, a⟩

/-- a new list of known items -/
theorem new_lst {xs : List D} {vs : List V} {Q : VK} (s : Same G H) (hz : xs.length ≤ sizeLine) (r : Reps K G xs vs)
    (k : ∀ v G' H', Grow G H G' H' → Res K G' H H' (.lst xs, .top) v → Q v H') : ∀ p, H p = none → Q (.ref p) (upd H p (.lst vs)) := fun p hp =>
  k _ G _ (Grow.own s hp) (.top hp (same_none s hp) upd_same hz r)
theorem new_tup {xs : List D} {vs : List V} {Q : VK} (s : Same G H) (hz : xs.length ≤ sizeLine) (r : Reps K G xs vs)
    (k : ∀ v G' H', Grow G H G' H' → Res K G' H H' (.tup xs, .fz) v → Q v H') : ∀ p, H p = none → Q (.ref p) (upd H p (.tup vs)) := fun p hp =>
  k _ _ _ (Grow.add s hp) (.fz (.tup (.inl (.inl upd_same)) hz (r.mono (same_upd (same_none s hp)))))
theorem str_len {cs : List Nat} : (⟨cs.toArray⟩ : Str).length = cs.length := by simp [Str.length]
theorem str_app {a b : List Nat} : (⟨a.toArray⟩ : Str) ++ ⟨b.toArray⟩ = ⟨(a ++ b).toArray⟩ := by
  show Str.append _ _ = _
  simp [Str.append]
end

section
variable {T : Tab} {φ : String → List D → Option R} {c : Ctxt} {X : Cx} {e a b : E}
theorem bin_run {r : R2} {fa fb : Env → Option D} {G0 H0 G H : Hp} {ρ : Env} {σ : St} {x y : D} {Q : VK} (S : Sim X.K G0 H0 G H ρ σ) (ea : fa ρ = some x) (eb : fb ρ = some y)
    (hr : ∀ v w G1 H1, Grow G H G1 H1 → Rep X.K G1 x v → Rep X.K G1 y w → r v w H1 Q) : tOp r (RZ X.K fa) (RZ X.K fb) σ H Q :=
  ⟨G0, H0, G, ρ, x, S, ea, fun v G1 H1 w1 r1 => ⟨G0, H0, G1, ρ, y, S.grow w1, eb, fun w G2 H2 w2 r2 => hr v w G2 H2 (w1.trans w2) (r1.mono w2.g) r2⟩⟩
/-- handing on from a later state -/
theorem on {G H G1 H1 : Hp} {K : PySem.W.Frag} {r : R} {Q : VK} (w : Grow G H G1 H1) (k : ∀ v G' H', Grow G H G' H' → Res K G' H H' r v → Q v H') : ∀ v G' H', Grow G1 H1 G' H' → Res K G' H1 H' r v → Q v H' :=
  fun v G' H' w2 q => k v G' H' (w.trans w2) (q.old w.h)

theorem noStar : ∀ (e : E) (c : Ctxt) (a : Expr) (p : Pos), chkE T e c (.Starred a p) = false := by
  intro e c a p
  cases e <;> rfl
theorem noSlice : ∀ (e : E) (c : Ctxt) (a b d : Option Expr) (p : Pos), chkE T e c (.Slice a b d p) = false := by
  intro e c a b d p
  cases e <;> rfl
theorem noSet : ∀ (e : E) (c : Ctxt) (a : List Expr) (b : Nat) (p : Pos), chkE T e c (.Set a b p) = false := by
  intro e c a b p
  cases e <;> rfl
theorem star_cons {e : E} {ex : Expr} (h : chkE T e c ex = true) (es : List Expr) (env : PySem.Env) : starEach (ex :: es) env = (false, eval ex env) :: starEach es env := by
  cases ex <;> first | rfl | (exfalso; rw [noStar] at h; cases h)
theorem plainIx {e : E} {ex : Expr} (h : chkE T e c ex = true) : PlainIx ex := by
  cases ex <;> first | (exact fun _ _ => rfl) | (exfalso; rw [noSlice] at h; cases h)
theorem notSet {e : E} {ex : Expr} (h : chkE T e c ex = true) (env : PySem.Env) (x : Value) : foldedSetIterable ex env x = pure x := by
  cases ex <;> first | rfl | (exfalso; rw [noSet] at h; cases h)
theorem noMark {e : E} {ex : Expr} (h : chkE T e c ex = true) (op : CmpOp) : behindInMarks op ex = false := by
  cases ex <;> first | rfl | (exfalso; rw [noSet] at h; cases h)

theorem snd_nil : Snd T φ .nil := by
  refine ⟨fun c X ex _ q => (by cases ex <;> cases q), fun c X es hX q => ?_, fun c X o hX q => ?_, fun c X t ex _ q => (by cases ex <;> cases q)⟩
  · cases es with
    | cons _ _ => cases q
    | nil =>
      refine ⟨pa_nil.imp fun σ H Q ⟨G0, H0, G, ρ, ds, S, e, k⟩ => ?_, fun _ => rfl⟩
      rw [evs] at e
      cases e
      exact k [] G H (Grow.refl S.gr.sub) .nil
  · cases o with
    | some _ => cases q
    | none =>
      exact ⟨fun pins s σ H Q I ⟨G0, H0, G, ρ, k, S, e, h⟩ => po_none.run pins s σ H Q I (by
        rw [evo] at e
        cases e
        exact h G H (Grow.refl S.gr.sub))⟩
theorem snd_tup {es : E} (h : Snd T φ es) : Snd T φ (.tup es) := by
  refine Snd.mk1 (fun _ _ => rfl) (fun _ _ => rfl) (fun _ _ _ => rfl) fun c X ex hX q => ?_
  cases ex <;> first | (cases q; done) | skip
  rename_i xs n pos
  refine tri ?_ (fun _ => rfl) (fun _ _ _ q => nomatch q)
  refine (pe_tup (h.args c X xs hX q).1).imp fun σ H Q ⟨G0, H0, G, ρ, r, S, e, k⟩ => ?_
  rw [ev] at e
  obtain ⟨ds, e1, e2⟩ := Option.bind_eq_some_iff.mp e
  split at e2
  · next hz =>
    cases e2
    refine ⟨G0, H0, G, ρ, ds, S, e1, fun vs G1 H1 w r1 => ⟨by rw [← r1.length]; exact hz, new_tup w.sub hz r1 (on w k)⟩⟩
  · cases e2
theorem snd_lst {es : E} (h : Snd T φ es) : Snd T φ (.lst es) := by
  refine Snd.mk1 (fun _ _ => rfl) (fun _ _ => rfl) (fun _ _ _ => rfl) fun c X ex hX q => ?_
  cases ex <;> first | (cases q; done) | skip
  rename_i xs pos
  refine tri ?_ (fun _ => rfl) (fun _ _ _ q => nomatch q)
  refine (pe_lst (h.args c X xs hX q).1).imp fun σ H Q ⟨G0, H0, G, ρ, r, S, e, k⟩ => ?_
  rw [ev] at e
  obtain ⟨ds, e1, e2⟩ := Option.bind_eq_some_iff.mp e
  split at e2
  · next hz =>
    cases e2
    refine ⟨G0, H0, G, ρ, ds, S, e1, fun vs G1 H1 w r1 => ⟨by rw [← r1.length]; exact hz, new_lst w.sub hz r1 (on w k)⟩⟩
  · cases e2

theorem cmul_of {i j : Int} (h : mulOk i j = true) : (CMul i j) ∨ CMulW i j := by
  unfold mulOk at h
  rcases of_decide_eq_true h with h | h | h
  · exact .inl (.inl ⟨by omega, by omega⟩)
  · exact .inl (.inr ⟨by omega, by omega⟩)
  · exact .inr h
theorem pow_of {i j : Int} (h : powOk i j = true) : CPow i j := of_decide_eq_true (p := 0 ≤ j ∧ j ≤ 1000000 ∧ i.natAbs < 2 ^ 64) h
theorem snd_bin (op : Operator) (ha : Snd T φ a) (hb : Snd T φ b) : Snd T φ (.bin op a b) := by
  refine Snd.mk1 (fun _ _ => rfl) (fun _ _ => rfl) (fun _ _ _ => rfl) fun c X ex hX q => ?_
  cases ex <;> first | (cases q; done) | skip
  rename_i l o r pos
  have q' : (o == op && chkE T a c l && chkE T b c r) = true := q
  simp only [Bool.and_eq_true, beq_iff_eq] at q'
  obtain ⟨⟨rfl, q1⟩, q2⟩ := q'
  refine tri ?_ (fun _ => rfl) (fun _ _ _ q => nomatch q)
  have pa := (ha.val c X l hX q1).1.z
  have pb := (hb.val c X r hX q2).1.z
  refine ⟨fun pins s σ H Q I ⟨G0, H0, G, ρ, r, S, e, k⟩ => ?_⟩
  rw [ev] at e
  obtain ⟨x, ex, e⟩ := Option.bind_eq_some_iff.mp e
  obtain ⟨y, ey, e⟩ := Option.bind_eq_some_iff.mp e
  unfold dbin at e
  split at e
  · cases e
    exact (pe_op op_add pa pb).run pins s σ H Q I (bin_run S ex ey fun v w G1 H1 g r1 r2 => by
      rw [rep_int r1, rep_int r2]
      exact ⟨_, _, rfl, rfl, on g k _ G1 H1 (Grow.refl g.sub) (.fz (.int _))⟩)
  · split at e
    · next hz =>
      cases e
      exact (pe_op op_add_str pa pb).run pins s σ H Q I (bin_run S ex ey fun v w G1 H1 g r1 r2 => by
        rw [(rep_str r1).1, (rep_str r2).1]
        refine ⟨_, _, rfl, rfl, by rw [str_len, str_len]; exact hz, ?_⟩
        rw [str_app]
        exact on g k _ G1 H1 (Grow.refl g.sub) (.fz (.str _ (by rw [List.length_append]; exact hz))))
    · cases e
  · split at e
    · next hz =>
      cases e
      exact (pe_op op_cat pa pb).run pins s σ H Q I (bin_run S ex ey fun v w G1 H1 g r1 r2 => by
        obtain ⟨p, vs, rfl, h1, z1, q1⟩ := rep_lst r1
        obtain ⟨p', vs', rfl, h2, z2, q2⟩ := rep_lst r2
        refine ⟨_, _, _, _, rfl, rfl, g.sub _ _ h1, g.sub _ _ h2, by rw [← q1.length, ← q2.length]; exact hz, new_lst g.sub (by rw [List.length_append]; exact hz) (q1.append q2) (on g k)⟩)
    · cases e
  · split at e
    · next hz =>
      cases e
      exact (pe_op op_catT pa pb).run pins s σ H Q I (bin_run S ex ey fun v w G1 H1 g r1 r2 => by
        obtain ⟨p, vs, rfl, h1, z1, q1⟩ := rep_tup r1
        obtain ⟨p', vs', rfl, h2, z2, q2⟩ := rep_tup r2
        refine ⟨_, _, _, _, rfl, rfl, PL.Same.seqT g.sub h1, PL.Same.seqT g.sub h2, ?_, by rw [← q1.length, ← q2.length]; exact hz.1, ?_, fun _ => new_tup g.sub (by rw [List.length_append]; exact hz.1) (q1.append q2) (on g k)⟩
        · rintro rfl
          cases q1
          exact hz.2.1 rfl
        · rintro rfl
          cases q2
          exact absurd rfl hz.2.2)
    · cases e
  · cases e
    exact (pe_op op_sub pa pb).run pins s σ H Q I (bin_run S ex ey fun v w G1 H1 g r1 r2 => by
      rw [rep_int r1, rep_int r2]
      exact ⟨_, _, rfl, rfl, on g k _ G1 H1 (Grow.refl g.sub) (.fz (.int _))⟩)
  · split at e
    · next hz =>
      cases e
      rcases cmul_of hz with hc | hc
      · exact (pe_op op_mul pa pb).run pins s σ H Q I (bin_run S ex ey fun v w G1 H1 g r1 r2 => by
          rw [rep_int r1, rep_int r2]
          exact ⟨_, _, rfl, rfl, hc, on g k _ G1 H1 (Grow.refl g.sub) (.fz (.int _))⟩)
      · exact (pe_op op_mulW pa pb).run pins s σ H Q I (bin_run S ex ey fun v w G1 H1 g r1 r2 => by
          rw [rep_int r1, rep_int r2]
          exact ⟨_, _, rfl, rfl, hc, on g k _ G1 H1 (Grow.refl g.sub) (.fz (.int _))⟩)
    · cases e
  · split at e
    · next hz =>
      cases e
      exact (pe_op op_rep pa pb).run pins s σ H Q I (bin_run S ex ey fun v w G1 H1 g r1 r2 => by
        obtain ⟨p, vs, rfl, h1, z1, q1⟩ := rep_lst r1
        rw [rep_int r2]
        have hl : ∀ (n : Nat), Reps X.K G1 (List.replicate n _).flatten (List.replicate n vs).flatten := fun n => by
          induction n with
          | zero => exact .nil
          | succ n ih =>
            rw [List.replicate_succ, List.replicate_succ, List.flatten_cons, List.flatten_cons]
            exact q1.append ih
        refine ⟨_, _, _, rfl, rfl, g.sub _ _ h1, hz.1, hz.2.1, by rw [← q1.length]; exact hz.2.2, new_lst g.sub ?_ (hl _) (on g k)⟩
        simp only [List.length_flatten, List.map_replicate, List.sum_replicate_nat]
        rw [Nat.mul_comm]
        exact hz.2.2)
    · cases e
  · split at e
    · next hz =>
      cases e
      have hz := of_decide_eq_true hz
      rcases hz with ⟨z0, hc | hc⟩
      · exact (pe_op op_fdivN pa pb).run pins s σ H Q I (bin_run S ex ey fun v w G1 H1 g r1 r2 => by
          rw [rep_int r1, rep_int r2]
          exact ⟨_, _, rfl, rfl, ⟨by omega, by omega⟩, on g k _ G1 H1 (Grow.refl g.sub) (.fz (.int _))⟩)
      · exact (pe_op op_fdivW pa pb).run pins s σ H Q I (bin_run S ex ey fun v w G1 H1 g r1 r2 => by
          rw [rep_int r1, rep_int r2]
          refine ⟨_, _, rfl, rfl, ⟨z0, hc⟩, ?_⟩
          show Q (V.int (_ / _)) H1
          rw [← Int.fdiv_eq_ediv_of_nonneg _ (by omega)]
          exact on g k _ G1 H1 (Grow.refl g.sub) (.fz (.int _)))
    · cases e
  · split at e
    · next hz =>
      cases e
      exact (pe_op op_modN pa pb).run pins s σ H Q I (bin_run S ex ey fun v w G1 H1 g r1 r2 => by
        rw [rep_int r1, rep_int r2]
        exact ⟨_, _, rfl, rfl, hz, on g k _ G1 H1 (Grow.refl g.sub) (.fz (.int _))⟩)
    · cases e
  · split at e
    · next hz =>
      cases e
      exact (pe_op op_pow pa pb).run pins s σ H Q I (bin_run S ex ey fun v w G1 H1 g r1 r2 => by
        rw [rep_int r1, rep_int r2]
        exact ⟨_, _, rfl, rfl, pow_of hz, on g k _ G1 H1 (Grow.refl g.sub) (.fz (.int _))⟩)
    · cases e
  · cases e

end
end PL
set_option Elab.async false
set_option linter.all false
set_option maxRecDepth 100000
namespace PL
open PySem PySem.Spec L2

theorem toPys_map : ∀ xs : List D, toPys xs = xs.map toPy
  | [] => rfl
  | x :: xs => by rw [toPys, toPys_map xs]; rfl
mutual
theorem plain_toPy : ∀ d : D, (toPy d).plain = true
  | .non => rfl
  | .bl _ => rfl
  | .int _ => rfl
  | .str _ => rfl
  | .lst xs => plain_toPys xs
  | .tup xs => plain_toPys xs
  | .scr ns => by
    show PyData.plainAll (ns.map .int) = true
    induction ns with
    | nil => rfl
    | cons n ns ih => exact ih
  | .dct _ _ => rfl
theorem plain_toPys : ∀ d : List D, PyData.plainAll (toPys d) = true
  | [] => rfl
  | x :: xs => by
    show (PyData.plain (toPy x) && PyData.plainAll (toPys xs)) = true
    rw [plain_toPy x, plain_toPys xs]
    rfl
end
theorem depth_toPy : ∀ (n : Nat) (d : D), okD n d = true → (toPy d).depth ≤ n
  | 0, d, h => by cases d <;> cases h
  | n + 1, d, h => by
    have key : ∀ xs : List D, xs.all (okD n) = true → PyData.depthAll (toPys xs) ≤ n := fun xs => by
      induction xs with
      | nil => exact fun _ => Nat.zero_le _
      | cons x xs ih =>
        intro h
        rw [List.all_cons, Bool.and_eq_true] at h
        exact Nat.max_le.mpr ⟨depth_toPy n x h.1, ih h.2⟩
    cases d with
    | lst xs => exact Nat.succ_le_succ (key xs h)
    | tup xs => exact Nat.succ_le_succ (key xs h)
    | non => exact Nat.zero_le _
    | bl _ => exact Nat.zero_le _
    | int _ => exact Nat.zero_le _
    | str _ => exact Nat.zero_le _
    | scr _ => cases h
    | dct _ _ => cases h
theorem eqb_true {a b : D} : eqb a b = true ↔ a = b := by
  unfold eqb
  exact @decide_eq_true_iff _ (Classical.propDecidable _)
theorem eqb_false {a b : D} : eqb a b = false ↔ a ≠ b := by
  unfold eqb
  exact @decide_eq_false_iff_not _ (Classical.propDecidable _)
theorem eqb_self (a : D) : eqb a a = true := eqb_true.mpr rfl
theorem eqb_iff {a b : D} {k : Bool} (h : k = true ↔ a = b) : k = eqb a b := by
  cases q : eqb a b with
  | true => exact h.mpr (eqb_true.mp q)
  | false =>
    cases k with
    | false => rfl
    | true => exact absurd (h.mp rfl) (eqb_false.mp q)
theorem eqv_toPy : ∀ (n : Nat) (a b : D), okD n a = true → okD n b = true → PyData.eqv (toPy a) (toPy b) = eqb a b
  | 0, a, _, h, _ => by cases a <;> cases h
  | n + 1, a, b, ha, hb => by
    have key : ∀ xs ys : List D, xs.all (okD n) = true → ys.all (okD n) = true → (PyData.eqvAll (toPys xs) (toPys ys) = true ↔ xs = ys) := fun xs => by
      induction xs with
      | nil =>
        intro ys _ _
        cases ys with
        | nil => exact ⟨fun _ => rfl, fun _ => rfl⟩
        | cons y ys => exact ⟨fun h => (nomatch h), fun h => (nomatch h)⟩
      | cons x xs ih =>
        intro ys h1 h2
        cases ys with
        | nil => exact ⟨fun h => (nomatch h), fun h => (nomatch h)⟩
        | cons y ys =>
          rw [List.all_cons, Bool.and_eq_true] at h1 h2
          show (PyData.eqv (toPy x) (toPy y) && PyData.eqvAll (toPys xs) (toPys ys)) = true ↔ _
          rw [Bool.and_eq_true, eqv_toPy n x y h1.1 h2.1, eqb_true, ih ys h1.2 h2.2, List.cons.injEq]
    refine eqb_iff ?_
    cases a <;> first | (cases ha; done) | skip
    all_goals (cases b <;> first | (cases hb; done) | skip)
    all_goals first
      | exact ⟨fun _ => rfl, fun _ => rfl⟩
      | (refine ⟨fun h => ?_, fun h => ?_⟩ <;> cases h <;> done)
      | skip
    · rename_i i j
      show (i == j) = true ↔ _
      rw [beq_iff_eq, D.int.injEq]
    · rename_i i j
      show ((⟨i.toArray⟩ : Str) == ⟨j.toArray⟩) = true ↔ _
      rw [beq_iff_eq, D.str.injEq]
      constructor
      · intro h
        have h2 := congrArg (fun s : Str => s.cps.toList) h
        simpa using h2
      · rintro rfl
        rfl
    · rename_i xs ys
      rw [D.lst.injEq]
      exact key xs ys ha hb
    · rename_i xs ys
      rw [D.tup.injEq]
      exact key xs ys ha hb

section
variable {K : PySem.W.Frag} {G H : Hp}
mutual
theorem Rep.dp (s : Same G H) : ∀ {d : D} {v : V}, Rep K G d v → Dp K H v (toPy d)
  | _, _, .non => .non
  | _, _, .bl b => .bl b
  | _, _, .int i => .int i
  | _, _, .str cs h => .str _
  | _, _, .lst h z r => .lst (.inl (.inl (s _ _ h))) (Reps.dp s r)
  | _, _, .tup h z r => .tup (PL.Same.seqT s h) (Reps.dp s r)
  | _, _, .scr (ns := ns) h => .lst (s.seq h) (by
    induction ns with
    | nil => exact .nil
    | cons n ns ih => exact .cons (.int n) (by
      clear ih h
      induction ns with
      | nil => exact .nil
      | cons m ms ih => exact .cons (.int m) ih))
theorem Reps.dp (s : Same G H) : ∀ {d : List D} {v : List V}, Reps K G d v → DpAll K H v (toPys d)
  | _, _, .nil => .nil
  | _, _, .cons a b => .cons (Rep.dp s a) (Reps.dp s b)
end
end

section
variable {X : Cx}
def rEqP (K : PySem.W.Frag) (g : Bool → Bool) : R2 := fun x y H Q => ∃ d e, Dp K H x d ∧ Dp K H y e ∧ d.plain = true ∧ e.plain = true ∧ d.depth ≤ 100 ∧ Q (.bl (g (PyData.eqv d e))) H
theorem op_eqP (hu : X.A.units + 200 < cLine) : OpR X (compareOp .Eq) (rEqP X.K id) := by
  intro pins s σ H x y v u Q I rx ry h
  obtain ⟨d, e, hd, he, sd, se, hz, q⟩ := h
  obtain ⟨as, r1⟩ := Dp.reads I d x v hd rx
  obtain ⟨bs, r2⟩ := Dp.reads I e y u he ry
  exact SeqAt.eq_plain r1 r2 sd se (by have := Nat.min_le_left d.depth e.depth; omega) ⟨.bl _, H, I, rfl, q⟩
theorem op_neP (hu : X.A.units + 200 < cLine) : OpR X (compareOp .NotEq) (rEqP X.K not) := by
  intro pins s σ H x y v u Q I rx ry h
  obtain ⟨d, e, hd, he, sd, se, hz, q⟩ := h
  obtain ⟨as, r1⟩ := Dp.reads I d x v hd rx
  obtain ⟨bs, r2⟩ := Dp.reads I e y u he ry
  exact SeqAt.ne_plain r1 r2 sd se (by have := Nat.min_le_left d.depth e.depth; omega) ⟨.bl _, H, I, rfl, q⟩
def rInP (K : PySem.W.Frag) (g : Bool → Bool) : R2 := fun x y H Q => ∃ d es, Dp K H x d ∧ (Dp K H y (.list es) ∨ Dp K H y (.tuple es)) ∧ d.plain = true ∧ PyData.plainAll es = true ∧ d.depth ≤ 100 ∧ Q (.bl (g (es.any fun z => PyData.eqv z d))) H
theorem op_inP (hu : X.A.units + 200 < cLine) : OpR X (compareOp .In) (rInP X.K id) := by
  intro pins s σ H x y v u Q I rx ry h
  obtain ⟨d, e, hd, he, sd, se, hz, q⟩ := h
  obtain ⟨as, r1⟩ := Dp.reads I d x v hd rx
  rcases he with he | he
  · obtain ⟨bs, r2⟩ := Dp.reads I _ y u he ry
    exact SeqAt.in_list_data r2 r1 se sd (by have := Nat.min_le_right (PyData.depthAll e) d.depth; omega) ⟨.bl _, H, I, rfl, q⟩
  · obtain ⟨bs, r2⟩ := Dp.reads I _ y u he ry
    exact SeqAt.in_tuple_data r2 r1 se sd (by have := Nat.min_le_right (PyData.depthAll e) d.depth; omega) ⟨.bl _, H, I, rfl, q⟩
theorem op_notInP (hu : X.A.units + 200 < cLine) : OpR X (compareOp .NotIn) (rInP X.K not) := by
  intro pins s σ H x y v u Q I rx ry h
  obtain ⟨d, e, hd, he, sd, se, hz, q⟩ := h
  obtain ⟨as, r1⟩ := Dp.reads I d x v hd rx
  rcases he with he | he
  · obtain ⟨bs, r2⟩ := Dp.reads I _ y u he ry
    exact SeqAt.notIn_list_data r2 r1 se sd (by have := Nat.min_le_right (PyData.depthAll e) d.depth; omega) ⟨.bl _, H, I, rfl, q⟩
  · obtain ⟨bs, r2⟩ := Dp.reads I _ y u he ry
    exact SeqAt.notIn_tuple_data r2 r1 se sd (by have := Nat.min_le_right (PyData.depthAll e) d.depth; omega) ⟨.bl _, H, I, rfl, q⟩
/-- a comparison of plain data -/
def rCmp (K : PySem.W.Frag) (op : CmpOp) : R2 := fun x y H Q => ∃ G d e b, Same G H ∧ Rep K G d x ∧ Rep K G e y ∧ dcmp op d e = some b ∧ Q (.bl b) H
theorem any_toPy {x : D} {xs : List D} (hx : okD 20 x = true) (hs : xs.all (okD 20) = true) : (toPys xs).any (fun z => PyData.eqv z (toPy x)) = inb x xs := by
  unfold inb
  rw [toPys_map, List.any_map]
  induction xs with
  | nil => rfl
  | cons y ys ih =>
    rw [List.all_cons, Bool.and_eq_true] at hs
    rw [List.any_cons, List.any_cons, ih hs.2]
    show (PyData.eqv (toPy y) (toPy x) || _) = _
    rw [eqv_toPy 20 y x hs.1 hx]
theorem okEq_cases {a b : D} (h : okEq a b = true) : (okD 20 a = true ∧ okD 20 b = true) ∨ ∃ i j, a = .bl i ∧ b = .bl j := by
  unfold okEq at h
  split at h
  · exact .inr ⟨_, _, rfl, rfl⟩
  · rw [Bool.and_eq_true] at h
    exact .inl h
theorem eqv_ok {a b : D} (h : okEq a b = true) : PyData.eqv (toPy a) (toPy b) = eqb a b ∧ (toPy a).depth ≤ 100 := by
  rcases okEq_cases h with ⟨h1, h2⟩ | ⟨i, j, rfl, rfl⟩
  · exact ⟨eqv_toPy 20 a b h1 h2, Nat.le_trans (depth_toPy 20 a h1) (by decide)⟩
  · refine ⟨eqb_iff ?_, Nat.zero_le _⟩
    show (i == j) = true ↔ _
    rw [beq_iff_eq, D.bl.injEq]
theorem isN_of {K : PySem.W.Frag} {G : Hp} {d : D} {x : V} (r : Rep K G d x) : decide (x = .non) = isNon d := by
  cases r <;> rfl
theorem op_cmp (hu : X.A.units + 200 < cLine) (op : CmpOp) : OpR X (compareOp op) (rCmp X.K op) := by
  intro pins s σ H x y v u Q I rx ry ⟨G, d, e, b, sm, r1, r2, h, q⟩
  unfold dcmp at h
  split at h
  · split at h
    · next ok =>
      cases h
      refine op_eqP hu pins s σ H x y v u Q I rx ry ⟨_, _, r1.dp sm, r2.dp sm, plain_toPy _, plain_toPy _, (eqv_ok ok).2, ?_⟩
      rw [(eqv_ok ok).1]
      exact q
    · cases h
  · split at h
    · next ok =>
      cases h
      refine op_neP hu pins s σ H x y v u Q I rx ry ⟨_, _, r1.dp sm, r2.dp sm, plain_toPy _, plain_toPy _, (eqv_ok ok).2, ?_⟩
      rw [(eqv_ok ok).1]
      exact q
    · cases h
  · cases h
    exact op_lt pins s σ H x y v u Q I rx ry ⟨_, _, rep_int r1, rep_int r2, q⟩
  · cases h
    exact op_le pins s σ H x y v u Q I rx ry ⟨_, _, rep_int r1, rep_int r2, q⟩
  · cases h
    exact op_gt pins s σ H x y v u Q I rx ry ⟨_, _, rep_int r1, rep_int r2, q⟩
  · cases h
    exact op_ge pins s σ H x y v u Q I rx ry ⟨_, _, rep_int r1, rep_int r2, q⟩
  · split at h
    · next ok =>
      cases h
      rw [Bool.and_eq_true] at ok
      refine op_inP hu pins s σ H x y v u Q I rx ry ⟨_, _, r1.dp sm, .inl (r2.dp sm), plain_toPy _, plain_toPys _, Nat.le_trans (depth_toPy 20 _ ok.1) (by decide), ?_⟩
      rw [any_toPy ok.1 ok.2]
      exact q
    · cases h
  · split at h
    · next ok =>
      cases h
      rw [Bool.and_eq_true] at ok
      refine op_inP hu pins s σ H x y v u Q I rx ry ⟨_, _, r1.dp sm, .inr (r2.dp sm), plain_toPy _, plain_toPys _, Nat.le_trans (depth_toPy 20 _ ok.1) (by decide), ?_⟩
      rw [any_toPy ok.1 ok.2]
      exact q
    · cases h
  · split at h
    · next ok =>
      cases h
      rw [Bool.and_eq_true] at ok
      refine op_notInP hu pins s σ H x y v u Q I rx ry ⟨_, _, r1.dp sm, .inl (r2.dp sm), plain_toPy _, plain_toPys _, Nat.le_trans (depth_toPy 20 _ ok.1) (by decide), ?_⟩
      rw [any_toPy ok.1 ok.2]
      exact q
    · cases h
  · split at h
    · next ok =>
      cases h
      rw [Bool.and_eq_true] at ok
      refine op_notInP hu pins s σ H x y v u Q I rx ry ⟨_, _, r1.dp sm, .inr (r2.dp sm), plain_toPy _, plain_toPys _, Nat.le_trans (depth_toPy 20 _ ok.1) (by decide), ?_⟩
      rw [any_toPy ok.1 ok.2]
      exact q
    · cases h
  · cases h
    exact op_in_sign pins s σ H x y v u Q I rx ry ⟨_, _, (rep_str r1).1, (rep_str r2).1, q⟩
  · cases h
    exact op_notIn_sign pins s σ H x y v u Q I rx ry ⟨_, _, (rep_str r1).1, (rep_str r2).1, q⟩
  · cases h
    refine op_isN pins s σ H x y v u Q I rx ry ⟨rep_non r2, ?_⟩
    rw [isN_of r1]
    exact q
  · cases h
    refine op_notN pins s σ H x y v u Q I rx ry ⟨rep_non r2, ?_⟩
    rw [isN_of r1]
    exact q
  · cases h
end
end PL
set_option Elab.async false
set_option linter.all false
set_option maxRecDepth 100000
namespace PL
open PySem PySem.Spec L2

section
variable {T : Tab} {φ : String → List D → Option R} {c : Ctxt} {X : Cx} {e a b k : E}

theorem snd_neg (ha : Snd T φ a) : Snd T φ (.neg a) := by
  refine Snd.mk1 (fun _ _ => rfl) (fun _ _ => rfl) (fun _ _ _ => rfl) fun c X ex hX q => ?_
  cases ex <;> first | (cases q; done) | skip
  rename_i op x pos
  cases op <;> first | (cases q; done) | skip
  have q' : chkE T a c x = true := q
  refine tri ?_ (fun _ => rfl) (fun _ _ _ q => nomatch q)
  refine (pe_un un_neg (ha.val c X x hX q').1.z).imp fun σ H Q ⟨G0, H0, G, ρ, r, S, e, k⟩ => ?_
  rw [ev] at e
  obtain ⟨d, e1, e2⟩ := Option.bind_eq_some_iff.mp e
  split at e2
  · cases e2
    exact ⟨G0, H0, G, ρ, _, S, e1, fun v G1 H1 w r1 => ⟨_, rep_int r1, k _ G1 H1 w (.fz (.int _))⟩⟩
  · cases e2
theorem tru_iff {r : Option R} {b : Bool} (h : tru r = some b) : ∃ d, r.bind frz = some d ∧ truth d = some b := Option.bind_eq_some_iff.mp h
theorem snd_bnot (ha : Snd T φ a) : Snd T φ (.bnot a) := by
  refine Snd.mk1 (fun _ _ => rfl) (fun _ _ => rfl) (fun _ _ _ => rfl) fun c X ex hX q => ?_
  cases ex <;> first | (cases q; done) | skip
  rename_i op x pos
  cases op <;> first | (cases q; done) | skip
  have q' : chkE T a c x = true := q
  obtain ⟨pe, pt, _⟩ := ha.val c X x hX q'
  refine ⟨(pe_notT pe.z).imp fun σ H Q ⟨G0, H0, G, ρ, r, S, e, k⟩ => ?_, (pt_not pt).imp fun σ H Q ⟨G0, H0, G, ρ, r, S, e, k⟩ => ?_, fun _ _ _ q => nomatch q⟩
  · rw [ev] at e
    obtain ⟨t, e1, rfl⟩ := Option.map_eq_some_iff.mp e
    obtain ⟨d, e2, e3⟩ := tru_iff e1
    exact ⟨G0, H0, G, ρ, d, S, e2, fun v G1 H1 w r1 => ⟨t, truV_of r1 w.sub e3, k _ G1 H1 w (.fz (.bl _))⟩⟩
  · rw [evT, ev] at e
    obtain ⟨d, e2, e3⟩ := tru_iff e
    obtain ⟨r', e4, e5⟩ := Option.bind_eq_some_iff.mp e2
    obtain ⟨t, e1, rfl⟩ := Option.map_eq_some_iff.mp e4
    cases e5
    cases e3
    exact ⟨G0, H0, G, ρ, t, S, e1, fun G1 H1 w => k G1 H1 w⟩

theorem snd_band (ha : Snd T φ a) (hb : Snd T φ b) : Snd T φ (.band a b) := by
  refine Snd.mk1 (fun _ _ => rfl) (fun _ _ => rfl) (fun _ _ _ => rfl) fun c X ex hX q => ?_
  cases ex <;> first | (cases q; done) | skip
  rename_i op vs pos
  cases op <;> first | (cases q; done) | skip
  -- the rest as one expression
  have key : ∀ (x y : Expr) (ys : List Expr) (t : TE) (w' : TT), PE X x (RD X.K (ev φ a)) → PT X x (RT X.K (evT φ a)) → PE X (.BoolOp .And (y :: ys) pos) (RD X.K (ev φ b)) → PW X (.BoolOp .And (y :: ys) pos) (RT X.K (evT φ b)) →
      PE X (.BoolOp .And (x :: y :: ys) pos) (RD X.K (ev φ (.band a b))) ∧ PT X (.BoolOp .And (x :: y :: ys) pos) (RT X.K (evT φ (.band a b))) ∧ PW X (.BoolOp .And (x :: y :: ys) pos) (RT X.K (evT φ (.band a b))) := by
    intro x y ys _ _ p1 p2 p3 p4
    have pw := (pw_and p2 p4).imp (t' := RT X.K (evT φ (.band a b))) fun σ H Q ⟨G0, H0, G, ρ, r, S, e, k⟩ => by
      rw [evT, ev] at e
      obtain ⟨d, e2, e3⟩ := tru_iff e
      obtain ⟨r', e4, e5⟩ := Option.bind_eq_some_iff.mp e2
      obtain ⟨d1, e6, e7⟩ := Option.bind_eq_some_iff.mp e4
      obtain ⟨t, e8, e9⟩ := Option.bind_eq_some_iff.mp e7
      refine ⟨G0, H0, G, ρ, t, S, (by rw [evT, tru, e6]; exact e8), fun G1 H1 w => ?_⟩
      cases t with
      | true =>
        have e9 : ev φ b ρ = some r' := e9
        exact ⟨G0, H0, G1, ρ, r, S.grow w, (by rw [evT, tru, e9]; show (frz r').bind truth = _; rw [show frz r' = some d from e5]; exact e3), fun G2 H2 w2 => k G2 H2 (w.trans w2)⟩
      | false =>
        have e9 : some ((d1, .fz) : R) = some r' := e9
        cases e9
        cases e5
        rw [e8] at e3
        cases e3
        exact k G1 H1 w
    refine ⟨(pe_andT p1.z p3).imp fun σ H Q ⟨G0, H0, G, ρ, r, S, e, k⟩ => ?_, pw.pt, pw⟩
    rw [ev] at e
    obtain ⟨d1, e6, e7⟩ := Option.bind_eq_some_iff.mp e
    obtain ⟨t, e8, e9⟩ := Option.bind_eq_some_iff.mp e7
    refine ⟨G0, H0, G, ρ, d1, S, e6, fun v G1 H1 w r1 => ⟨t, truV_of r1 w.sub e8, ?_⟩⟩
    cases t with
    | true => exact ⟨G0, H0, G1, ρ, r, S.grow w, e9, on w k⟩
    | false =>
      have e9 : some ((d1, .fz) : R) = some r := e9
      cases e9
      exact k v G1 H1 w (.fz r1)
  match vs, q with
  | [x, y], q =>
    have q' : (chkE T a c x && chkE T b c y) = true := q
    rw [Bool.and_eq_true] at q'
    obtain ⟨p1, p2, _⟩ := ha.val c X x hX q'.1
    obtain ⟨p3, p4, _⟩ := hb.val c X y hX q'.2
    obtain ⟨r1, r2, r3⟩ := key x y [] (fun _ _ _ => True) (fun _ _ _ => True) p1 p2 (pe_one p3) (pw_and1 p4)
    exact ⟨r1, r2, fun _ _ _ e => by cases e; exact r3⟩
  | x :: y :: z :: zs, q =>
    have q' : (chkE T a c x && chkE T b c (.BoolOp .And (y :: z :: zs) pos)) = true := q
    rw [Bool.and_eq_true] at q'
    obtain ⟨p1, p2, _⟩ := ha.val c X x hX q'.1
    obtain ⟨p3, _, p4⟩ := hb.val c X _ hX q'.2
    obtain ⟨r1, r2, r3⟩ := key x y (z :: zs) (fun _ _ _ => True) (fun _ _ _ => True) p1 p2 p3 (p4 _ _ _ rfl)
    exact ⟨r1, r2, fun _ _ _ e => by cases e; exact r3⟩

theorem snd_bor (ha : Snd T φ a) (hb : Snd T φ b) : Snd T φ (.bor a b) := by
  refine Snd.mk1 (fun _ _ => rfl) (fun _ _ => rfl) (fun _ _ _ => rfl) fun c X ex hX q => ?_
  cases ex <;> first | (cases q; done) | skip
  rename_i op vs pos
  cases op <;> first | (cases q; done) | skip
  have key : ∀ (x y : Expr) (ys : List Expr), PE X x (RD X.K (ev φ a)) → PT X x (RT X.K (evT φ a)) → PE X (.BoolOp .Or (y :: ys) pos) (RD X.K (ev φ b)) → PW X (.BoolOp .Or (y :: ys) pos) (RT X.K (evT φ b)) →
      PE X (.BoolOp .Or (x :: y :: ys) pos) (RD X.K (ev φ (.bor a b))) ∧ PT X (.BoolOp .Or (x :: y :: ys) pos) (RT X.K (evT φ (.bor a b))) ∧ PW X (.BoolOp .Or (x :: y :: ys) pos) (RT X.K (evT φ (.bor a b))) := by
    intro x y ys p1 p2 p3 p4
    have pw := (pw_or p2 p4).imp (t' := RT X.K (evT φ (.bor a b))) fun σ H Q ⟨G0, H0, G, ρ, r, S, e, k⟩ => by
      rw [evT, ev] at e
      obtain ⟨d, e2, e3⟩ := tru_iff e
      obtain ⟨r', e4, e5⟩ := Option.bind_eq_some_iff.mp e2
      obtain ⟨d1, e6, e7⟩ := Option.bind_eq_some_iff.mp e4
      obtain ⟨t, e8, e9⟩ := Option.bind_eq_some_iff.mp e7
      refine ⟨G0, H0, G, ρ, t, S, (by rw [evT, tru, e6]; exact e8), fun G1 H1 w => ?_⟩
      cases t with
      | false =>
        have e9 : ev φ b ρ = some r' := e9
        exact ⟨G0, H0, G1, ρ, r, S.grow w, (by rw [evT, tru, e9]; show (frz r').bind truth = _; rw [show frz r' = some d from e5]; exact e3), fun G2 H2 w2 => k G2 H2 (w.trans w2)⟩
      | true =>
        have e9 : some ((d1, .fz) : R) = some r' := e9
        cases e9
        cases e5
        rw [e8] at e3
        cases e3
        exact k G1 H1 w
    refine ⟨(pe_orT p1.z p3).imp fun σ H Q ⟨G0, H0, G, ρ, r, S, e, k⟩ => ?_, pw.pt, pw⟩
    rw [ev] at e
    obtain ⟨d1, e6, e7⟩ := Option.bind_eq_some_iff.mp e
    obtain ⟨t, e8, e9⟩ := Option.bind_eq_some_iff.mp e7
    refine ⟨G0, H0, G, ρ, d1, S, e6, fun v G1 H1 w r1 => ⟨t, truV_of r1 w.sub e8, ?_⟩⟩
    cases t with
    | false => exact ⟨G0, H0, G1, ρ, r, S.grow w, e9, on w k⟩
    | true =>
      have e9 : some ((d1, .fz) : R) = some r := e9
      cases e9
      exact k v G1 H1 w (.fz r1)
  match vs, q with
  | [x, y], q =>
    have q' : (chkE T a c x && chkE T b c y) = true := q
    rw [Bool.and_eq_true] at q'
    obtain ⟨p1, p2, _⟩ := ha.val c X x hX q'.1
    obtain ⟨p3, p4, _⟩ := hb.val c X y hX q'.2
    obtain ⟨r1, r2, r3⟩ := key x y [] p1 p2 (pe_one p3) (pw_or1 p4)
    exact ⟨r1, r2, fun _ _ _ e => by cases e; exact r3⟩
  | x :: y :: z :: zs, q =>
    have q' : (chkE T a c x && chkE T b c (.BoolOp .Or (y :: z :: zs) pos)) = true := q
    rw [Bool.and_eq_true] at q'
    obtain ⟨p1, p2, _⟩ := ha.val c X x hX q'.1
    obtain ⟨p3, _, p4⟩ := hb.val c X _ hX q'.2
    obtain ⟨r1, r2, r3⟩ := key x y (z :: zs) p1 p2 p3 (p4 _ _ _ rfl)
    exact ⟨r1, r2, fun _ _ _ e => by cases e; exact r3⟩

theorem snd_cmp (op : CmpOp) (ha : Snd T φ a) (hb : Snd T φ b) : Snd T φ (.cmp op a b) := by
  refine Snd.mk1 (fun _ _ => rfl) (fun _ _ => rfl) (fun _ _ _ => rfl) fun c X ex hX q => ?_
  cases ex <;> first | (cases q; done) | skip
  rename_i l os rs pos
  match os, rs, q with
  | [o], [r], q =>
    have q' : (o == op && chkE T a c l && chkE T b c r) = true := q
    simp only [Bool.and_eq_true, beq_iff_eq] at q'
    obtain ⟨⟨rfl, q1⟩, q2⟩ := q'
    have pa := (ha.val c X l hX q1).1.z
    have pb := (hb.val c X r hX q2).1.z
    refine ⟨(pe_cmpR (op_cmp hX.hu o) pa pb (noMark q2 o)).imp fun σ H Q ⟨G0, H0, G, ρ, r, S, e, k⟩ => ?_, (pt_cmpR (op_cmp hX.hu o) pa pb (noMark q2 o)).imp fun σ H Q ⟨G0, H0, G, ρ, t, S, e, k⟩ => ?_, fun _ _ _ q => nomatch q⟩
    · rw [ev] at e
      obtain ⟨x, ex, e⟩ := Option.bind_eq_some_iff.mp e
      obtain ⟨y, ey, e⟩ := Option.bind_eq_some_iff.mp e
      obtain ⟨t, et, rfl⟩ := Option.map_eq_some_iff.mp e
      exact bin_run S ex ey fun v w G1 H1 g r1 r2 => ⟨G1, x, y, t, g.sub, r1, r2, et, k _ G1 H1 g (.fz (.bl _))⟩
    · rw [evT, ev] at e
      obtain ⟨d, e2, e3⟩ := tru_iff e
      obtain ⟨r', e4, e5⟩ := Option.bind_eq_some_iff.mp e2
      obtain ⟨x, ex, e4⟩ := Option.bind_eq_some_iff.mp e4
      obtain ⟨y, ey, e4⟩ := Option.bind_eq_some_iff.mp e4
      obtain ⟨t', et, rfl⟩ := Option.map_eq_some_iff.mp e4
      cases e5
      cases e3
      exact bin_run S ex ey fun v w G1 H1 g r1 r2 => ⟨G1, x, y, _, g.sub, r1, r2, et, _, rfl, k G1 H1 g⟩

theorem noMarks {e : E} {ex : Expr} (h : chkE T e c ex = true) (o o' : CmpOp) (y : Expr) : lastMarks [o, o'] [y, ex] = false := noMark h o'
theorem snd_cmp2 (op op' : CmpOp) (ha : Snd T φ a) (hb : Snd T φ b) (hk : Snd T φ k) : Snd T φ (.cmp2 op op' a b k) := by
  refine Snd.mk1 (fun _ _ => rfl) (fun _ _ => rfl) (fun _ _ _ => rfl) fun c X ex hX q => ?_
  cases ex <;> first | (cases q; done) | skip
  rename_i l os rs pos
  match os, rs, q with
  | [o, o'], [y, z], q =>
    have q' : (o == op && o' == op' && chkE T a c l && chkE T b c y && chkE T k c z) = true := q
    simp only [Bool.and_eq_true, beq_iff_eq] at q'
    obtain ⟨⟨⟨⟨rfl, rfl⟩, q1⟩, q2⟩, q3⟩ := q'
    have pa := (ha.val c X l hX q1).1.z
    have pb := (hb.val c X y hX q2).1.z
    have pk := (hk.val c X z hX q3).1.z
    have run : ∀ {G0 H0 G H : Hp} {ρ : Env} {σ : St} {Q : VK} {r : R}, Sim X.K G0 H0 G H ρ σ → ev φ (.cmp2 o o' a b k) ρ = some r → (∀ v G' H' t, r = (.bl t, .fz) → v = .bl t → Grow G H G' H' → Q v H') →
        tChain (rCmp X.K o) (rCmp X.K o') (RZ X.K fun ρ => (ev φ a ρ).bind frz) (RZ X.K fun ρ => (ev φ b ρ).bind frz) (RZ X.K fun ρ => (ev φ k ρ).bind frz) σ H Q := by
      intro G0 H0 G H ρ σ Q r S e kk
      rw [ev] at e
      obtain ⟨x, ex, e⟩ := Option.bind_eq_some_iff.mp e
      obtain ⟨y', ey, e⟩ := Option.bind_eq_some_iff.mp e
      obtain ⟨t, et, e⟩ := Option.bind_eq_some_iff.mp e
      refine ⟨G0, H0, G, ρ, x, S, ex, fun v G1 H1 w1 r1 => ⟨G0, H0, G1, ρ, y', S.grow w1, ey, fun w G2 H2 w2 r2 => ⟨G2, x, y', t, w2.sub, r1.mono w2.g, r2, et, t, rfl, ?_⟩⟩⟩
      cases t with
      | false =>
        cases e
        exact kk _ G2 H2 false rfl rfl (w1.trans w2)
      | true =>
        obtain ⟨z', ez, e⟩ := Option.bind_eq_some_iff.mp e
        obtain ⟨t', et', rfl⟩ := Option.map_eq_some_iff.mp e
        exact ⟨G0, H0, G2, ρ, z', (S.grow w1).grow w2, ez, fun u G3 H3 w3 r3 => ⟨G3, y', z', t', w3.sub, r2.mono w3.g, r3, et', kk _ G3 H3 t' rfl rfl (w1.trans (w2.trans w3))⟩⟩
    refine ⟨(pe_chain (op_cmp hX.hu o) (op_cmp hX.hu o') pa pb pk (noMarks q3 o o' y)).imp fun σ H Q ⟨G0, H0, G, ρ, r, S, e, kk⟩ => ?_, (pt_chain (op_cmp hX.hu o) (op_cmp hX.hu o') pa pb pk (noMarks q3 o o' y)).imp fun σ H Q ⟨G0, H0, G, ρ, t, S, e, kk⟩ => ?_, fun _ _ _ q => nomatch q⟩
    · refine run S e fun v G' H' t er evv w => ?_
      subst er evv
      exact kk _ G' H' w (.fz (.bl _))
    · rw [evT] at e
      obtain ⟨d, e2, e3⟩ := tru_iff e
      obtain ⟨r', e4, e5⟩ := Option.bind_eq_some_iff.mp e2
      refine run S e4 fun v G' H' t' er evv w => ?_
      subst er evv
      cases e5
      cases e3
      exact ⟨_, rfl, kk G' H' w⟩

theorem pt_ite {x y z : Expr} {pos : Pos} {tc ta tb : TT} (hc : PT X x tc) (ha : PT X y ta) (hb : PT X z tb) : PT X (.IfExp x y z pos) (fun σ H Q => tc σ H fun t H1 => if t = true then ta σ H1 Q else tb σ H1 Q) := by
  refine ⟨fun pins s σ H Q I h => ?_⟩
  show wpAny _ _ (do if ← isTrue x X.env (eval x X.env) then isTrue y X.env (eval y X.env) else isTrue z X.env (eval z X.env)) _ _ s
  refine wpAny_bind (thn (hc.run pins s σ H _ I h) fun t s1 ⟨H1, I1, q⟩ => ?_)
  cases t with
  | true => exact ha.run pins s1 σ H1 Q I1 q
  | false => exact hb.run pins s1 σ H1 Q I1 q
theorem snd_ite (hk : Snd T φ k) (ha : Snd T φ a) (hb : Snd T φ b) : Snd T φ (.ite k a b) := by
  refine Snd.mk1 (fun _ _ => rfl) (fun _ _ => rfl) (fun _ _ _ => rfl) fun c X ex hX q => ?_
  cases ex <;> first | (cases q; done) | skip
  rename_i x y z pos
  have q' : (chkE T k c x && chkE T a c y && chkE T b c z) = true := q
  simp only [Bool.and_eq_true] at q'
  obtain ⟨⟨q0, q1⟩, q2⟩ := q'
  have pe := (pe_ifExp (pos := pos) (hk.val c X x hX q0).2.1 (ha.val c X y hX q1).1 (hb.val c X z hX q2).1).imp (t' := RD X.K (ev φ (.ite k a b))) fun σ H Q ⟨G0, H0, G, ρ, r, S, e, kk⟩ => by
    rw [ev] at e
    obtain ⟨t, et, e⟩ := Option.bind_eq_some_iff.mp e
    refine ⟨G0, H0, G, ρ, t, S, et, fun G1 H1 w => ?_⟩
    cases t with
    | true => exact ⟨G0, H0, G1, ρ, r, S.grow w, e, on w kk⟩
    | false => exact ⟨G0, H0, G1, ρ, r, S.grow w, e, on w kk⟩
  refine ⟨pe, (pt_ite (hk.val c X x hX q0).2.1 (ha.val c X y hX q1).2.1 (hb.val c X z hX q2).2.1).imp fun σ H Q ⟨G0, H0, G, ρ, r, S, e, kk⟩ => ?_, fun _ _ _ q => nomatch q⟩
  rw [evT, ev] at e
  obtain ⟨d, e2, e3⟩ := tru_iff e
  obtain ⟨r', e4, e5⟩ := Option.bind_eq_some_iff.mp e2
  obtain ⟨t, et, e4⟩ := Option.bind_eq_some_iff.mp e4
  refine ⟨G0, H0, G, ρ, t, S, et, fun G1 H1 w => ?_⟩
  cases t with
  | true =>
    have e4 : ev φ a ρ = some r' := e4
    exact ⟨G0, H0, G1, ρ, r, S.grow w, (by rw [evT, tru, e4]; show (frz r').bind truth = _; rw [e5]; exact e3), fun G2 H2 w2 => kk G2 H2 (w.trans w2)⟩
  | false =>
    have e4 : ev φ b ρ = some r' := e4
    exact ⟨G0, H0, G1, ρ, r, S.grow w, (by rw [evT, tru, e4]; show (frz r').bind truth = _; rw [e5]; exact e3), fun G2 H2 w2 => kk G2 H2 (w.trans w2)⟩

theorem atI_map {α β : Type} {xs : List α} {ys : List β} (hl : xs.length = ys.length) {i : Int} {x : α} (h : atI xs i = some x) : ∃ j : Nat, xs[j]? = some x ∧ ∀ y, ys[j]? = some y → atI ys i = some y := by
  unfold atI at h ⊢
  obtain ⟨j, h1, h2⟩ := Option.bind_eq_some_iff.mp h
  exact ⟨j, h2, fun y hy => by rw [← hl, h1]; exact hy⟩
theorem snd_idx (ha : Snd T φ a) (hb : Snd T φ b) : Snd T φ (.idx a b) := by
  refine Snd.mk1 (fun _ _ => rfl) (fun _ _ => rfl) (fun _ _ _ => rfl) fun c X ex hX q => ?_
  cases ex <;> first | (cases q; done) | skip
  rename_i x y pos
  have q' : (chkE T a c x && chkE T b c y) = true := q
  rw [Bool.and_eq_true] at q'
  refine tri ?_ (fun _ => rfl) (fun _ _ _ q => nomatch q)
  have pa := (ha.val c X x hX q'.1).1.z
  have pb := (hb.val c X y hX q'.2).1.z
  have pl := plainIx q'.2
  refine ⟨fun pins s σ H Q I ⟨G0, H0, G, ρ, r, S, e, k⟩ => ?_⟩
  rw [ev] at e
  obtain ⟨d, ed, e⟩ := Option.bind_eq_some_iff.mp e
  obtain ⟨i, ei, e⟩ := Option.bind_eq_some_iff.mp e
  obtain ⟨t, et, rfl⟩ := Option.map_eq_some_iff.mp e
  unfold didx at et
  split at et
  · exact (pe_ix ix_list pa pb pl).run pins s σ H Q I (bin_run S ed ei fun v w G1 H1 g r1 r2 => by
      obtain ⟨p, vs, rfl, h1, z1, q1⟩ := rep_lst r1
      obtain ⟨j, h2, h3⟩ := atI_map q1.length et
      obtain ⟨u, h4, h5⟩ := q1.get h2
      exact ⟨p, vs, _, u, rfl, rep_int r2, .inl (.inl (g.sub _ _ h1)), h3 u h4, k _ G1 H1 g (.fz h5)⟩)
  · exact (pe_ix ix_tup pa pb pl).run pins s σ H Q I (bin_run S ed ei fun v w G1 H1 g r1 r2 => by
      obtain ⟨p, vs, rfl, h1, z1, q1⟩ := rep_tup r1
      obtain ⟨j, h2, h3⟩ := atI_map q1.length et
      obtain ⟨u, h4, h5⟩ := q1.get h2
      exact ⟨p, vs, _, u, rfl, rep_int r2, PL.Same.seqT g.sub h1, h3 u h4, k _ G1 H1 g (.fz h5)⟩)
  · exact (pe_ix ix_str pa pb pl).run pins s σ H Q I (bin_run S ed ei fun v w G1 H1 g r1 r2 => by
      obtain ⟨e1, z1⟩ := rep_str r1
      obtain ⟨ch, e2, rfl⟩ := Option.map_eq_some_iff.mp et
      refine ⟨_, _, ch, e1, rep_int r2, by rw [str_len]; exact z1, e2, k _ G1 H1 g (.fz (.str [ch] ?_))⟩
      rw [sizeLine_eq]
      simp)
  · exact (pe_ix ix_list pa pb pl).run pins s σ H Q I (bin_run S ed ei fun v w G1 H1 g r1 r2 => by
      obtain ⟨p, rfl, h1⟩ := rep_scr r1
      obtain ⟨n, e2, rfl⟩ := Option.map_eq_some_iff.mp et
      obtain ⟨j, h2, h3⟩ := atI_map (ys := List.map V.int _) (by rw [List.length_map]) e2
      exact ⟨p, _, _, .int n, rfl, rep_int r2, g.sub.seq h1, h3 _ (by rw [List.getElem?_map, h2]; rfl), k _ G1 H1 g (.fz (.int _))⟩)
  · cases et
theorem cutL_len {α : Type} (xs : List α) (lo hi : Option Int) : (cutL xs lo hi).length ≤ xs.length := by
  unfold cutL
  rw [List.length_take, List.length_drop]
  omega
theorem cut_reps {K : PySem.W.Frag} {G : Hp} {ds : List D} {vs : List V} (r : Reps K G ds vs) (lo hi : Option Int) : Reps K G (cutL ds lo hi) (cutV vs lo hi) := by
  unfold cutL cutV
  rw [← r.length]
  exact (r.drop _).take _
theorem cutL_all {α : Type} {xs : List α} {lo hi : Option Int} (h : HT.sIx xs.length 0 lo = 0 ∧ HT.sIx xs.length xs.length hi = xs.length) : cutL xs lo hi = xs := by
  unfold cutL
  rw [h.1, h.2, List.drop_zero, Nat.sub_zero, List.take_length]
theorem snd_slc {lo hi : E} (ha : Snd T φ a) (hl : Snd T φ lo) (hh : Snd T φ hi) : Snd T φ (.slc a lo hi) := by
  refine Snd.mk1 (fun _ _ => rfl) (fun _ _ => rfl) (fun _ _ _ => rfl) fun c X ex hX q => ?_
  cases ex <;> first | (cases q; done) | skip
  rename_i x y pos
  cases y <;> first | (cases q; done) | skip
  rename_i l h st p2
  cases st <;> first | (cases q; done) | skip
  have q' : (chkE T a c x && chkO T lo c l && chkO T hi c h) = true := q
  simp only [Bool.and_eq_true] at q'
  obtain ⟨⟨q0, q1⟩, q2⟩ := q'
  refine tri ?_ (fun _ => rfl) (fun _ _ _ q => nomatch q)
  have pa := (ha.val c X x hX q0).1.z
  have pl := hl.opt c X l hX q1
  have ph := hh.opt c X h hX q2
  refine ⟨fun pins s σ H Q I ⟨G0, H0, G, ρ, r, S, e, k⟩ => ?_⟩
  rw [ev] at e
  obtain ⟨d, ed, e⟩ := Option.bind_eq_some_iff.mp e
  obtain ⟨i, ei, e⟩ := Option.bind_eq_some_iff.mp e
  obtain ⟨j, ej, e⟩ := Option.bind_eq_some_iff.mp e
  have run : ∀ {rr : V → Option Int → Option Int → Hp → VK → Prop}, SlR X rr → (∀ v G1 H1, Grow G H G1 H1 → Rep X.K G1 d v → rr v i j H1 Q) → wpAny (model X.prog X.w) X.A (eval (.Subscript x (.Slice l h none p2) pos) X.env) (EP X pins σ Q) X.xe s := fun {rr} hr kk =>
    (pe_slice hr pa pl ph).run pins s σ H Q I ⟨G0, H0, G, ρ, d, S, ed, fun v G1 H1 w1 r1 => ⟨G0, H0, G1, ρ, i, S.grow w1, ei, fun G2 H2 w2 => ⟨G0, H0, G2, ρ, j, (S.grow w1).grow w2, ej, fun G3 H3 w3 => kk v G3 H3 (w1.trans (w2.trans w3)) ((r1.mono w2.g).mono w3.g)⟩⟩⟩
  unfold dslc at e
  split at e
  · cases e
    exact run sl_list fun v G1 H1 g r1 => by
      obtain ⟨p, vs, rfl, h1, z1, q1⟩ := rep_lst r1
      exact ⟨p, vs, rfl, .inl (.inl (g.sub _ _ h1)), new_lst g.sub (Nat.le_trans (cutL_len _ _ _) z1) (cut_reps q1 i j) (on g k)⟩
  · cases e
    exact run sl_tupA fun v G1 H1 g r1 => by
      obtain ⟨p, vs, rfl, h1, z1, q1⟩ := rep_tup r1
      refine ⟨p, vs, rfl, PL.Same.seqT g.sub h1, fun hw => ?_, fun _ => new_tup g.sub (Nat.le_trans (cutL_len _ _ _) z1) (cut_reps q1 i j) (on g k)⟩
      refine k _ G1 H1 g (.fz ?_)
      rw [cutL_all (by rw [q1.length]; exact hw)]
      exact .tup h1 z1 q1
  · cases e
    exact run sl_str fun v G1 H1 g r1 => by
      obtain ⟨e1, z1⟩ := rep_str r1
      refine ⟨_, e1, by rw [str_len]; exact z1, ?_⟩
      have e2 : ∀ cs : List Nat, cutS ⟨cs.toArray⟩ i j = ⟨(cutL cs i j).toArray⟩ := fun cs => by
        unfold cutS cutL
        rw [str_len]
      rw [e2]
      exact k _ G1 H1 g (.fz (.str _ (Nat.le_trans (cutL_len _ _ _) z1)))
  · cases e
theorem snd_rev (ha : Snd T φ a) : Snd T φ (.rev a) := by
  refine Snd.mk1 (fun _ _ => rfl) (fun _ _ => rfl) (fun _ _ _ => rfl) fun c X ex hX q => ?_
  cases ex <;> first | (cases q; done) | skip
  rename_i x y pos
  match y, q with
  | .Slice none none (some (.UnaryOp .USub (.Constant (.int i) kk p1) p2)) p3, q =>
    have q' : (i == 1 && chkE T a c x) = true := q
    simp only [Bool.and_eq_true, beq_iff_eq] at q'
    obtain ⟨rfl, q1⟩ := q'
    refine tri ?_ (fun _ => rfl) (fun _ _ _ q => nomatch q)
    refine (pe_revL (ha.val c X x hX q1).1.z).imp fun σ H Q ⟨G0, H0, G, ρ, r, S, e, k⟩ => ?_
    rw [ev] at e
    obtain ⟨d, ed, e⟩ := Option.bind_eq_some_iff.mp e
    unfold drev at e
    split at e
    · cases e
      refine ⟨G0, H0, G, ρ, _, S, ed, fun v G1 H1 g r1 => ?_⟩
      obtain ⟨p, vs, rfl, h1, z1, q1⟩ := rep_lst r1
      exact ⟨p, vs, rfl, .inl (.inl (g.sub _ _ h1)), new_lst g.sub (by rw [List.length_reverse]; exact z1) q1.reverse (on g k)⟩
    · cases e

/-! ### calls -/
theorem hpl_of {pos : Pos} : ∀ {l : List (Bool × Sem Value)}, l.any (·.1) = false → (backTo pos l).any (·.1) = false := fun {l} h => by
  cases l with
  | nil => exact h
  | cons x xs => simpa [backTo] using h
theorem chkA_cons {es : E} {y : Expr} {ys : List Expr} (h : chkA T es c (y :: ys) = true) : ∃ a b, es = .cons a b ∧ chkE T a c y = true ∧ chkA T b c ys = true := by
  cases es <;> first | (cases h; done) | skip
  rename_i a b
  have h' : (chkE T a c y && chkA T b c ys) = true := h
  rw [Bool.and_eq_true] at h'
  exact ⟨a, b, rfl, h'.1, h'.2⟩
theorem any_tail {y : Expr} {ys : List Expr} {env : PySem.Env} (h : (starEach (y :: ys) env).any (·.1) = false) (e : starEach (y :: ys) env = (false, eval y env) :: starEach ys env) : (starEach ys env).any (·.1) = false := by
  rw [e] at h
  simpa using h
theorem snd_call (f : String) {es : E} (he : Snd T φ es) : Snd T φ (.call f es) := by
  refine Snd.mk1 (fun _ _ => rfl) (fun _ _ => rfl) (fun _ _ _ => rfl) fun c X ex hX q => ?_
  cases ex <;> first | (cases q; done) | skip
  rename_i fn args kws pos
  match fn, args, kws, q with
  | .Name x p, y :: ys, [], q =>
    have q' : (x == (f : Str) && glB c x && chkA T es c (y :: ys) && T.fns.any fun p => p.1 == f) = true := q
    simp only [Bool.and_eq_true, beq_iff_eq, List.any_eq_true] at q'
    obtain ⟨⟨⟨rfl, q1⟩, q2⟩, ⟨f', n⟩, hm, e0⟩ := q'
    have e0 : f' = f := e0
    subst e0
    obtain ⟨g1, g2⟩ := hX.gl q1
    obtain ⟨k, a, fd, ps, hl, hmg, hk, hb, hr, hn, F⟩ := hX.fns _ _ hm
    obtain ⟨pa, hs⟩ := he.args c X _ hX q2
    obtain ⟨_, _, _, qy, _⟩ := chkA_cons q2
    have st := star_cons qy ys X.env
    refine tri ?_ (fun _ => rfl) (fun _ _ _ q => nomatch q)
    have xe : Passes CX0 X E0 := pass0
    refine (pe_call F hr g1 hmg hk hb .nil xe pa g2 st (hpl_of (any_tail (hs _) st))).imp fun σ H Q ⟨G0, H0, G, ρ, r, S, e, k⟩ => ?_
    rw [ev] at e
    obtain ⟨ds, e1, e2⟩ := Option.bind_eq_some_iff.mp e
    refine ⟨G0, H0, G, ρ, ds, S, e1, fun vs G1 H1 w r1 => ?_⟩
    refine ⟨G1, ds, r, w.sub, ?_, hn ds r e2, e2, on w k⟩
    simpa using r1
end
end PL
set_option Elab.async false
set_option linter.all false
set_option maxRecDepth 100000
namespace PL
open PySem PySem.Spec L2

/-! ### the sorted list -/
theorem insI_perm (i : Int) : ∀ l : List Int, (insI i l).Perm (i :: l)
  | [] => .refl _
  | j :: r => by
    unfold insI
    split
    · exact .refl _
    · exact ((insI_perm i r).cons j).trans (.swap i j r)
theorem srtI_perm : ∀ l : List Int, (srtI l).Perm l
  | [] => .refl _
  | i :: r => (insI_perm i (srtI r)).trans ((srtI_perm r).cons i)
theorem insI_pw (i : Int) : ∀ l : List Int, l.Pairwise (· ≤ ·) → (insI i l).Pairwise (· ≤ ·)
  | [], _ => by
    unfold insI
    simp
  | j :: r, h => by
    unfold insI
    rw [List.pairwise_cons] at h
    split
    · next hij =>
      rw [List.pairwise_cons, List.pairwise_cons]
      refine ⟨fun a ha => ?_, h⟩
      rcases List.mem_cons.mp ha with rfl | ha
      · exact hij
      · exact Int.le_trans hij (h.1 a ha)
    · next hij =>
      rw [List.pairwise_cons]
      refine ⟨fun a ha => ?_, insI_pw i r h.2⟩
      rcases List.mem_cons.mp ((insI_perm i r).mem_iff.mp ha) with rfl | ha
      · omega
      · exact h.1 a ha
theorem srtI_pw : ∀ l : List Int, (srtI l).Pairwise (· ≤ ·)
  | [] => List.Pairwise.nil
  | i :: r => insI_pw i _ (srtI_pw r)
theorem pw_unique : ∀ {l m : List Int}, l.Perm m → l.Pairwise (· ≤ ·) → m.Pairwise (· ≤ ·) → l = m
  | [], m, p, _, _ => (List.Perm.nil_eq p)
  | a :: l, [], p, _, _ => absurd p.symm.nil_eq (by simp)
  | a :: l, b :: m, p, h1, h2 => by
    rw [List.pairwise_cons] at h1 h2
    have e : a = b := by
      have ha : a ∈ b :: m := p.mem_iff.mp List.mem_cons_self
      have hb : b ∈ a :: l := p.mem_iff.mpr List.mem_cons_self
      rcases List.mem_cons.mp ha with rfl | ha
      · rfl
      · rcases List.mem_cons.mp hb with rfl | hb
        · rfl
        · exact Int.le_antisymm (h1.1 b hb) (h2.1 a ha)
    subst e
    rw [pw_unique (List.Perm.cons_inv p) h1.2 h2.2]
theorem srtI_eq {l m : List Int} (p : m.Perm l) (h : m.Pairwise (· ≤ ·)) : m = srtI l := pw_unique (p.trans (srtI_perm l).symm) h (srtI_pw l)
theorem maxI_mem : ∀ {l : List Int}, l ≠ [] → maxI l ∈ l ∧ ∀ y ∈ l, y ≤ maxI l
  | [], h => absurd rfl h
  | [i], _ => ⟨List.mem_cons_self, fun y hy => by
    rw [List.mem_singleton] at hy
    subst hy
    exact Int.le_refl _⟩
  | i :: j :: r, _ => by
    obtain ⟨h1, h2⟩ := maxI_mem (l := j :: r) (by simp)
    unfold maxI
    simp only
    split
    · next h =>
      refine ⟨List.mem_cons_self, fun y hy => ?_⟩
      rcases List.mem_cons.mp hy with rfl | hy
      · exact Int.le_refl _
      · exact Int.le_trans (h2 y hy) h
    · next h =>
      refine ⟨List.mem_cons_of_mem _ h1, fun y hy => ?_⟩
      rcases List.mem_cons.mp hy with rfl | hy
      · omega
      · exact h2 y hy
theorem minI_mem : ∀ {l : List Int}, l ≠ [] → minI l ∈ l ∧ ∀ y ∈ l, minI l ≤ y
  | [], h => absurd rfl h
  | [i], _ => ⟨List.mem_cons_self, fun y hy => by
    rw [List.mem_singleton] at hy
    subst hy
    exact Int.le_refl _⟩
  | i :: j :: r, _ => by
    obtain ⟨h1, h2⟩ := minI_mem (l := j :: r) (by simp)
    unfold minI
    simp only
    split
    · next h =>
      refine ⟨List.mem_cons_self, fun y hy => ?_⟩
      rcases List.mem_cons.mp hy with rfl | hy
      · exact Int.le_refl _
      · exact Int.le_trans h (h2 y hy)
    · next h =>
      refine ⟨List.mem_cons_of_mem _ h1, fun y hy => ?_⟩
      rcases List.mem_cons.mp hy with rfl | hy
      · omega
      · exact h2 y hy
theorem asInts_iff : ∀ {xs : List D} {ns : List Int}, asInts xs = some ns ↔ xs = ns.map .int
  | [], ns => by
    unfold asInts
    cases ns <;> simp
  | x :: xs, ns => by
    cases x <;> simp only [asInts] <;> first
      | (constructor
         · intro h
           cases h
         · intro h
           cases ns <;> simp at h)
      | (rw [Option.map_eq_some_iff]
         constructor
         · rintro ⟨r, h, rfl⟩
           rw [asInts_iff.mp h]
           rfl
         · intro h
           cases ns with
           | nil => simp at h
           | cons n ns =>
             simp only [List.map_cons, List.cons.injEq, D.int.injEq] at h
             exact ⟨ns, asInts_iff.mpr h.2, by rw [h.1]⟩)
theorem asBls_iff : ∀ {xs : List D} {ns : List Bool}, asBls xs = some ns ↔ xs = ns.map .bl
  | [], ns => by
    unfold asBls
    cases ns <;> simp
  | x :: xs, ns => by
    cases x <;> simp only [asBls] <;> first
      | (constructor
         · intro h
           cases h
         · intro h
           cases ns <;> simp at h)
      | (rw [Option.map_eq_some_iff]
         constructor
         · rintro ⟨r, h, rfl⟩
           rw [asBls_iff.mp h]
           rfl
         · intro h
           cases ns with
           | nil => simp at h
           | cons n ns =>
             simp only [List.map_cons, List.cons.injEq, D.bl.injEq] at h
             exact ⟨ns, asBls_iff.mpr h.2, by rw [h.1]⟩)

section
variable {T : Tab} {φ : String → List D → Option R} {c : Ctxt} {X : Cx} {e a b k : E}

theorem reps1 {K : PySem.W.Frag} {G : Hp} {d : D} {vs : List V} (r : Reps K G [d] vs) : ∃ v, vs = [v] ∧ Rep K G d v := by
  cases r with
  | cons a b =>
    cases b
    exact ⟨_, rfl, a⟩
theorem reps2 {K : PySem.W.Frag} {G : Hp} {d d' : D} {vs : List V} (r : Reps K G [d, d'] vs) : ∃ v v', vs = [v, v'] ∧ Rep K G d v ∧ Rep K G d' v' := by
  cases r with
  | cons a b =>
    cases b with
    | cons b c =>
      cases c
      exact ⟨_, _, rfl, a, b⟩
/-- a list of ints -/
theorem rep_ints {K : PySem.W.Frag} {G H : Hp} {xs : List D} {ns : List Int} {v : V} (r : Rep K G (.lst xs) v) (h : asInts xs = some ns) (s : Same G H) : ∃ p, v = .ref p ∧ SqL K H p (ns.map V.int) := by
  obtain ⟨p, vs, rfl, h1, _, q⟩ := rep_lst r
  rw [asInts_iff.mp h] at q
  rw [q.of_ints] at h1
  exact ⟨p, rfl, .inl (.inl (s _ _ h1))⟩
theorem rep_bls {K : PySem.W.Frag} {G H : Hp} {xs : List D} {ns : List Bool} {v : V} (r : Rep K G (.lst xs) v) (h : asBls xs = some ns) (s : Same G H) : ∃ p, v = .ref p ∧ SqL K H p (ns.map V.bl) := by
  obtain ⟨p, vs, rfl, h1, _, q⟩ := rep_lst r
  rw [asBls_iff.mp h] at q
  rw [q.of_bls] at h1
  exact ⟨p, rfl, .inl (.inl (s _ _ h1))⟩

theorem lenV_of {K : PySem.W.Frag} {G H : Hp} {d : D} {v : V} {n : Nat} (r : Rep K G d v) (s : Same G H) (e : dlen d = some n) : LenV K v H n := by
  cases r with
  | non => cases e
  | bl b => cases e
  | int i => cases e
  | str cs z =>
    cases e
    exact ⟨by rw [str_len]; exact z, str_len.symm⟩
  | lst g z rs =>
    cases e
    exact .inl ⟨_, .inl (.inl (s _ _ g)), rs.length⟩
  | tup g z rs =>
    cases e
    exact .inr ⟨_, PL.Same.seqT s g, rs.length⟩
  | scr h =>
    cases e
    exact .inl ⟨_, s.seq h, by rw [List.length_map]⟩

/-- a call of a built-in by its rule -/
theorem snd_blt (f : String) {es : E} (he : Snd T φ es) : Snd T φ (.blt f es) := by
  refine Snd.mk1 (fun _ _ => rfl) (fun _ _ => rfl) (fun _ _ _ => rfl) fun c X ex hX q => ?_
  cases ex <;> first | (cases q; done) | skip
  rename_i fn args kws pos
  match fn, args, kws, q with
  | .Name x p, y :: ys, [], q =>
    have q' : (x == (f : Str) && glB c x && chkA T es c (y :: ys) && T.bts.contains f && knownB.contains f) = true := q
    simp only [Bool.and_eq_true, beq_iff_eq] at q'
    obtain ⟨⟨⟨⟨rfl, q1⟩, q2⟩, hm⟩, hkn⟩ := q'
    obtain ⟨g1, g2⟩ := hX.gl q1
    have hmg := hX.bts f (by simpa using hm)
    obtain ⟨pa, hs⟩ := he.args c X _ hX q2
    obtain ⟨_, _, _, qy, _⟩ := chkA_cons q2
    have st := star_cons qy ys X.env
    have hpl := hpl_of (pos := pos) (any_tail (hs _) st)
    refine tri ?_ (fun _ => rfl) (fun _ _ _ q => nomatch q)
    refine ⟨fun pins s σ H Q I ⟨G0, H0, G, ρ, r, S, e, k⟩ => ?_⟩
    rw [ev] at e
    obtain ⟨ds, e1, e2⟩ := Option.bind_eq_some_iff.mp e
    have runB : ∀ {id : String} {rr : List V → Hp → VK → Prop}, CallR X (.builtin id) rr → bootBuiltins (f : Str) = some (.builtin id) → (f : Str) ≠ "__name__" → (∀ vs G1 H1, Grow G H G1 H1 → Reps X.K G1 ds vs → rr vs H1 Q) →
        wpAny (model X.prog X.w) X.A (eval (.Call (.Name (f : Str) p) (y :: ys) [] pos) X.env) (EP X pins σ Q) X.xe s := fun hc hb hn hr =>
      (pe_callB hc g1 hmg hb pa hn g2 st hpl).run pins s σ H Q I ⟨G0, H0, G, ρ, ds, S, e1, fun vs G1 H1 w r1 => hr vs G1 H1 w r1⟩
    have runT : ∀ {id : String} {rr : List V → Hp → VK → Prop}, CallR X (.type id) rr → bootBuiltins (f : Str) = some (.type id) → (f : Str) ≠ "__name__" → (∀ vs G1 H1, Grow G H G1 H1 → Reps X.K G1 ds vs → rr vs H1 Q) →
        wpAny (model X.prog X.w) X.A (eval (.Call (.Name (f : Str) p) (y :: ys) [] pos) X.env) (EP X pins σ Q) X.xe s := fun hc hb hn hr =>
      (pe_callTy hc g1 hmg hb pa hn g2 st hpl).run pins s σ H Q I ⟨G0, H0, G, ρ, ds, S, e1, fun vs G1 H1 w r1 => hr vs G1 H1 w r1⟩
    have hc := hX.calm
    unfold dblt at e2
    split at e2
    · obtain ⟨n, e3, rfl⟩ := Option.map_eq_some_iff.mp e2
      exact runB call_len (by decide +kernel) (by decide) fun vs G1 H1 w r1 => by
        obtain ⟨v, rfl, r2⟩ := reps1 r1
        exact ⟨v, n, rfl, lenV_of r2 w.sub e3, k _ G1 H1 w (.fz (.int _))⟩
    · cases e2
      exact runT call_int1 (by decide +kernel) (by decide) fun vs G1 H1 w r1 => by
        obtain ⟨v, rfl, r2⟩ := reps1 r1
        exact .inl ⟨_, by rw [rep_int r2], k _ G1 H1 w (.fz (.int _))⟩
    · cases e2
      exact runT call_int1 (by decide +kernel) (by decide) fun vs G1 H1 w r1 => by
        obtain ⟨v, rfl, r2⟩ := reps1 r1
        exact .inr ⟨_, by rw [rep_bl r2], k _ G1 H1 w (.fz (.int _))⟩
    · cases e2
      exact runB call_abs (by decide +kernel) (by decide) fun vs G1 H1 w r1 => by
        obtain ⟨v, rfl, r2⟩ := reps1 r1
        exact ⟨_, by rw [rep_int r2], k _ G1 H1 w (.fz (.int _))⟩
    · cases e2
      exact runB (call_max2 hc) (by decide +kernel) (by decide) fun vs G1 H1 w r1 => by
        obtain ⟨v, v', rfl, r2, r3⟩ := reps2 r1
        exact ⟨_, _, by rw [rep_int r2, rep_int r3], k _ G1 H1 w (.fz (.int _))⟩
    · cases e2
      exact runB (call_min2 hc) (by decide +kernel) (by decide) fun vs G1 H1 w r1 => by
        obtain ⟨v, v', rfl, r2, r3⟩ := reps2 r1
        exact ⟨_, _, by rw [rep_int r2, rep_int r3], k _ G1 H1 w (.fz (.int _))⟩
    · obtain ⟨ns, e3, e4⟩ := Option.bind_eq_some_iff.mp e2
      split at e4
      · cases e4
      · next hne =>
        cases e4
        exact runB (cr_max hc) (by decide +kernel) (by decide) fun vs G1 H1 w r1 => by
          obtain ⟨v, rfl, r2⟩ := reps1 r1
          obtain ⟨p, rfl, h⟩ := rep_ints r2 e3 w.sub
          refine ⟨p, ns, rfl, h, List.length_pos_iff.mpr hne, fun m h1 h2 => ?_⟩
          obtain ⟨m1, m2⟩ := maxI_mem hne
          rw [show m = maxI ns from Int.le_antisymm (m2 m h1) (h2 _ m1)]
          exact k _ G1 H1 w (.fz (.int _))
    · obtain ⟨ns, e3, e4⟩ := Option.bind_eq_some_iff.mp e2
      split at e4
      · cases e4
      · next hne =>
        cases e4
        exact runB (cr_min hc) (by decide +kernel) (by decide) fun vs G1 H1 w r1 => by
          obtain ⟨v, rfl, r2⟩ := reps1 r1
          obtain ⟨p, rfl, h⟩ := rep_ints r2 e3 w.sub
          refine ⟨p, ns, rfl, h, List.length_pos_iff.mpr hne, fun m h1 h2 => ?_⟩
          obtain ⟨m1, m2⟩ := minI_mem hne
          rw [show m = minI ns from Int.le_antisymm (h2 _ m1) (m2 m h1)]
          exact k _ G1 H1 w (.fz (.int _))
    · obtain ⟨ns, e3, rfl⟩ := Option.map_eq_some_iff.mp e2
      exact runB (cr_sum hc) (by decide +kernel) (by decide) fun vs G1 H1 w r1 => by
        obtain ⟨v, rfl, r2⟩ := reps1 r1
        obtain ⟨p, rfl, h⟩ := rep_ints r2 e3 w.sub
        exact ⟨p, ns, rfl, h, k _ G1 H1 w (.fz (.int _))⟩
    · obtain ⟨ns, e3, rfl⟩ := Option.map_eq_some_iff.mp e2
      exact runB (cr_all hc) (by decide +kernel) (by decide) fun vs G1 H1 w r1 => by
        obtain ⟨v, rfl, r2⟩ := reps1 r1
        obtain ⟨p, rfl, h⟩ := rep_bls r2 e3 w.sub
        exact ⟨p, ns, rfl, h, k _ G1 H1 w (.fz (.bl _))⟩
    · obtain ⟨ns, e3, rfl⟩ := Option.map_eq_some_iff.mp e2
      exact runB (cr_any hc) (by decide +kernel) (by decide) fun vs G1 H1 w r1 => by
        obtain ⟨v, rfl, r2⟩ := reps1 r1
        obtain ⟨p, rfl, h⟩ := rep_bls r2 e3 w.sub
        exact ⟨p, ns, rfl, h, k _ G1 H1 w (.fz (.bl _))⟩
    · cases e2
      exact runT call_list_of (by decide +kernel) (by decide) fun vs G1 H1 w r1 => by
        obtain ⟨v, rfl, r2⟩ := reps1 r1
        obtain ⟨p, us, rfl, h1, z, r3⟩ := rep_lst r2
        exact ⟨p, us, rfl, .inl (.inl (.inl (w.sub _ _ h1))), new_lst w.sub z r3 (on w k)⟩
    · cases e2
      exact runT call_list_of (by decide +kernel) (by decide) fun vs G1 H1 w r1 => by
        obtain ⟨v, rfl, r2⟩ := reps1 r1
        obtain ⟨p, us, rfl, h1, z, r3⟩ := rep_tup r2
        exact ⟨p, us, rfl, .inr (PL.Same.seqT w.sub h1), new_lst w.sub z r3 (on w k)⟩
    · obtain ⟨ns, e3, rfl⟩ := Option.map_eq_some_iff.mp e2
      exact runB cr_sortedI (by decide +kernel) (by decide) fun vs G1 H1 w r1 => by
        obtain ⟨v, rfl, r2⟩ := reps1 r1
        obtain ⟨_, _, _, _, z, _⟩ := rep_lst r2
        obtain ⟨p, rfl, h⟩ := rep_ints r2 e3 w.sub
        refine ⟨p, ns, rfl, h, fun ns' p' hp hs hn => ?_⟩
        rw [srtI_eq hp hs]
        refine new_lst w.sub ?_ (Reps.ints _) (on w k) p' hn
        rw [List.length_map, (srtI_perm ns).length_eq]
        rw [asInts_iff.mp e3, List.length_map] at z
        exact z
    · cases e2
theorem snd_gcd {es : E} (he : Snd T φ es) : Snd T φ (.gcd es) := by
  refine Snd.mk1 (fun _ _ => rfl) (fun _ _ => rfl) (fun _ _ _ => rfl) fun c X ex hX q => ?_
  cases ex <;> first | (cases q; done) | skip
  rename_i fn args kws pos
  match fn, args, kws, q with
  | .Name x p, y :: ys, [], q =>
    have q' : (x == ("gcd" : Str) && glB c x && chkA T es c (y :: ys) && T.gcd) = true := q
    simp only [Bool.and_eq_true, beq_iff_eq] at q'
    obtain ⟨⟨⟨rfl, q1⟩, q2⟩, hm⟩ := q'
    obtain ⟨g1, g2⟩ := hX.gl q1
    obtain ⟨pa, hs⟩ := he.args c X _ hX q2
    obtain ⟨_, _, _, qy, _⟩ := chkA_cons q2
    have st := star_cons qy ys X.env
    refine tri ?_ (fun _ => rfl) (fun _ _ _ q => nomatch q)
    refine (pe_callBfun cr_gcd g1 (hX.gcd hm) pa g2 st (hpl_of (any_tail (hs _) st))).imp fun σ H Q ⟨G0, H0, G, ρ, r, S, e, k⟩ => ?_
    rw [ev] at e
    obtain ⟨ds, e1, e2⟩ := Option.bind_eq_some_iff.mp e
    refine ⟨G0, H0, G, ρ, ds, S, e1, fun vs G1 H1 w r1 => ?_⟩
    unfold dgcd at e2
    split at e2
    · cases e2
      obtain ⟨v, v', rfl, r2, r3⟩ := reps2 r1
      exact ⟨_, _, by rw [rep_int r2, rep_int r3], k _ G1 H1 w (.fz (.int _))⟩
    · cases e2
end
end PL
set_option Elab.async false
set_option linter.all false
set_option maxRecDepth 100000
namespace PL
open PySem PySem.Spec L2

theorem tyX_of {K : PySem.W.Frag} {G H : Hp} {d : D} {v : V} (r : Rep K G d v) (s : Same G H) : TyX K H v (.type (tyName d)) := by
  cases r with
  | non => exact .base .non
  | bl b => exact .base (.bl b)
  | int i => exact .base (.int i)
  | str cs z => exact .base (.str _)
  | lst g z rs => exact .base (.lst (s _ _ g))
  | tup g z rs =>
    rcases PL.Same.seqT s g with (g | ⟨o, g⟩) | ⟨o, its, n, h1, h2, _⟩
    · exact .base (.tup g)
    · exact .fTuple g
    · exact .kTuple h1 h2
  | scr h =>
    rcases s.seq h with (g | ⟨o, g⟩) | ⟨o, its, n, h1, h2, _⟩
    · exact .base (.lst g)
    · exact .base (.frz g)
    · exact .kList h1 h2
theorem kit_all : ∀ n ∈ ["NoneType", "bool", "int", "str", "list", "tuple"], ∀ ty ∈ knownT, kitB n ty = some (n == ty || (n == "bool" && ty == "int")) := by decide +kernel
theorem kit_disi {K : PySem.W.Frag} {ty : String} {d : D} {b : Bool} (h : disi ty d = some b) : PySem.W.kitOne K (.type (tyName d)) (.type ty) = some b := by
  unfold disi at h
  split at h
  · next hz =>
    cases h
    refine kit_ty (kit_all _ ?_ _ (by simpa using hz.1))
    cases d <;> simp [tyName]
    exact hz.2 rfl
  · cases h

section
variable {T : Tab} {φ : String → List D → Option R} {c : Ctxt} {X : Cx} {e a b k : E}
theorem boot_ty {ty : String} (h : knownT.contains ty = true) : bootBuiltins (ty : Str) = some (.type ty) ∧ (ty : Str) ≠ "__name__" := by
  simp only [knownT, List.contains_eq_mem, List.mem_cons, List.not_mem_nil, or_false, decide_eq_true_eq] at h
  rcases h with rfl | rfl | rfl | rfl | rfl <;> exact ⟨by decide +kernel, by decide⟩
theorem snd_isi (ty : String) (ha : Snd T φ a) : Snd T φ (.isi a ty) := by
  refine Snd.mk1 (fun _ _ => rfl) (fun _ _ => rfl) (fun _ _ _ => rfl) fun c X ex hX q => ?_
  cases ex <;> first | (cases q; done) | skip
  rename_i fn args kws pos
  match fn, args, kws, q with
  | .Name x p, [y, .Name z pz], [], q =>
    have q' : (x == ("isinstance" : Str) && glB c x && z == (ty : Str) && glB c z && chkE T a c y && T.bts.contains "isinstance" && T.bts.contains ty && knownT.contains ty) = true := q
    simp only [Bool.and_eq_true, beq_iff_eq] at q'
    obtain ⟨⟨⟨⟨⟨⟨⟨rfl, q1⟩, rfl⟩, q2⟩, q3⟩, q4⟩, q5⟩, q6⟩ := q'
    obtain ⟨g1, g2⟩ := hX.gl q1
    obtain ⟨g3, g4⟩ := hX.gl q2
    have hm1 := hX.bts "isinstance" (by simpa using q4)
    have hm2 := hX.bts ty (by simpa using q5)
    obtain ⟨hb, hn⟩ := boot_ty q6
    have p2 : PE X (.Name (ty : Str) pz) (tC (.ty ty)) := pe_bltn g3 hm2 hb rfl hn g4
    have st := star_cons q3 [.Name (ty : Str) pz] X.env
    refine tri ?_ (fun _ => rfl) (fun _ _ _ q => nomatch q)
    refine (pe_callB call_isi g1 hm1 (by decide +kernel) (pa_cons (ha.val c X y hX q3).1.z (pa_cons p2 pa_nil (by rfl)) st) (by decide) g2 st (hpl_of (by rfl))).imp fun σ H Q ⟨G0, H0, G, ρ, r, S, e, k⟩ => ?_
    rw [ev] at e
    obtain ⟨d, ed, e⟩ := Option.bind_eq_some_iff.mp e
    obtain ⟨t, et, rfl⟩ := Option.map_eq_some_iff.mp e
    exact ⟨G0, H0, G, ρ, d, S, ed, fun v G1 H1 w r1 => ⟨v, .ty ty, _, _, t, rfl, .ty ty, tyX_of r1 w.sub, kit_disi et, k _ G1 H1 w (.fz (.bl _))⟩⟩

theorem range_reps {K : PySem.W.Frag} {G : Hp} (a b : Int) : Reps K G ((List.range (b - a).toNat).map fun (k : Nat) => D.int (a + (k : Int))) (rgV a b) := Reps.map_rep (fun k => .int _) _
theorem rangeD_cases {ds xs : List D} (h : rangeD ds = some xs) : (∃ j : Int, ds = [.int j] ∧ (-(2 ^ 62) ≤ j ∧ j < 2 ^ 62) ∧ xs = (List.range (j - 0).toNat).map fun (k : Nat) => D.int (0 + (k : Int))) ∨
    ∃ i j : Int, ds = [.int i, .int j] ∧ (-(2 ^ 62) ≤ i ∧ i < 2 ^ 62 ∧ -(2 ^ 62) ≤ j ∧ j < 2 ^ 62) ∧ xs = (List.range (j - i).toNat).map fun (k : Nat) => D.int (i + (k : Int)) := by
  unfold rangeD at h
  split at h
  · split at h
    · next hz =>
      cases h
      refine .inl ⟨_, rfl, hz, ?_⟩
      rw [Int.sub_zero]
      simp only [Int.zero_add]
    · cases h
  · split at h
    · next hz =>
      cases h
      exact .inr ⟨_, _, rfl, hz, rfl⟩
    · cases h
  · cases h

/-! ### walks -/
theorem wk_list {K : PySem.W.Frag} {G : Hp} {p : Addr} {xs : List D} {vs : List V} (h : G p = some (.lst vs)) (hz : xs.length ≤ sizeLine) (r : Reps K G xs vs) : Wk K G (Itl K p) xs := by
  refine ⟨hz, YAt vs, ?_, fun i H x H' hi s y => ?_⟩
  · rw [r.length]
    exact walk_list.mono (fun H s => .inl (.inl (s _ _ h))) fun i H x H' _ _ y => y
  · obtain ⟨rfl, e⟩ := y
    obtain ⟨d, e1, e2⟩ := r.get' e
    exact ⟨d, e1, fun G1 s1 s2 => ⟨G1, Grow.refl s2, e2.mono s1⟩⟩
theorem wk_tup {K : PySem.W.Frag} {G : Hp} {p : Addr} {xs : List D} {vs : List V} (h : SqT K G p vs) (hz : xs.length ≤ sizeLine) (r : Reps K G xs vs) : Wk K G (Itt K p) xs := by
  refine ⟨hz, YAt vs, ?_, fun i H x H' hi s y => ?_⟩
  · rw [r.length]
    exact walk_tup.mono (fun H s => PL.Same.seqT s h) fun i H x H' _ _ y => y
  · obtain ⟨rfl, e⟩ := y
    obtain ⟨d, e1, e2⟩ := r.get' e
    exact ⟨d, e1, fun G1 s1 s2 => ⟨G1, Grow.refl s2, e2.mono s1⟩⟩
theorem wk_range {K : PySem.W.Frag} {G : Hp} (lo : Int) (n : Nat) (hz : n ≤ sizeLine) : Wk K G (Itr lo n) ((List.range n).map fun (k : Nat) => D.int (lo + (k : Int))) := by
  refine ⟨by rw [List.length_map, List.length_range]; exact hz, YFn fun i => .int (lo + i), ?_, fun i H x H' hi s y => ?_⟩
  · rw [List.length_map, List.length_range]
    exact walk_range.mono (fun _ _ => True.intro) fun i H x H' _ _ y => y
  · obtain ⟨rfl, e⟩ := y
    subst e
    rw [List.length_map, List.length_range] at hi
    refine ⟨.int (lo + i), by simp [hi], fun G1 s1 s2 => ⟨G1, Grow.refl s2, .int _⟩⟩
theorem wk_str {K : PySem.W.Frag} {G : Hp} (cs : List Nat) (hz : cs.length ≤ sizeLine) : Wk K G (Its ⟨cs.toArray⟩) (cs.map fun c => D.str [c]) := by
  refine ⟨by rw [List.length_map]; exact hz, fun i H v H' => H' = H ∧ ∃ c, cs[i]? = some c ∧ v = .str ⟨#[c]⟩, ?_, fun i H x H' hi s y => ?_⟩
  · have w : Walk (Its ⟨cs.toArray⟩) _ _ _ := walk_str (z := ⟨cs.toArray⟩)
    have e : (⟨cs.toArray⟩ : Str).cps.size = (cs.map fun c => D.str [c]).length := by simp
    rw [e] at w
    refine w.mono (fun _ _ => True.intro) fun i H x H' _ _ y => ?_
    obtain ⟨h, c, h1, h2⟩ := y
    exact ⟨h, c, by simpa using h1, h2⟩
  · obtain ⟨rfl, c, e, rfl⟩ := y
    refine ⟨.str [c], by rw [List.getElem?_map, e]; rfl, fun G1 s1 s2 => ⟨G1, Grow.refl s2, .str [c] ?_⟩⟩
    rw [sizeLine_eq]
    simp
theorem wk_rev {K : PySem.W.Frag} {G : Hp} {p : Addr} {xs : List D} {vs : List V} (h : G p = some (.lst vs)) (hz : xs.length ≤ sizeLine) (r : Reps K G xs vs) : Wk K G (Itv K p vs.length) xs.reverse := by
  refine ⟨by rw [List.length_reverse]; exact hz, fun i H x H' => H' = H ∧ vs[vs.length - 1 - i]? = some x, ?_, fun i H x H' hi s y => ?_⟩
  · rw [List.length_reverse, r.length]
    exact walk_rev.mono (fun H s => .inl (.inl (s _ _ h))) fun i H x H' _ _ y => y
  · obtain ⟨rfl, e⟩ := y
    obtain ⟨d, e1, e2⟩ := r.get' e
    rw [List.length_reverse] at hi
    refine ⟨d, ?_, fun G1 s1 s2 => ⟨G1, Grow.refl s2, e2.mono s1⟩⟩
    rw [List.getElem?_reverse hi, r.length]
    exact e1
theorem enumD_len : ∀ (k : Nat) (xs : List D), (enumD k xs).length = xs.length
  | _, [] => rfl
  | k, x :: xs => by rw [enumD, List.length_cons, enumD_len (k + 1) xs, List.length_cons]
theorem enumD_get : ∀ (k : Nat) (xs : List D) (i : Nat) (d : D), xs[i]? = some d → (enumD k xs)[i]? = some (.tup [.int ((k + i : Nat) : Int), d])
  | _, [], _, _, h => by simp at h
  | k, x :: xs, 0, d, h => by
    simp at h
    subst h
    rw [enumD]
    simp
  | k, x :: xs, i + 1, d, h => by
    rw [enumD]
    have := enumD_get (k + 1) xs i d (by simpa using h)
    simp only [List.getElem?_cons_succ]
    rw [this]
    congr 3
    rw [show k + 1 + i = k + (i + 1) by omega]
theorem pair_new {K : PySem.W.Frag} {G1 H : Hp} {T : Addr} {x y : V} {d e : D} (s : Same G1 H) (hT : H T = none) (r1 : Rep K G1 d x) (r2 : Rep K G1 e y) : ∃ G', Grow G1 H G' (upd H T (.tup [x, y])) ∧ Rep K G' (.tup [d, e]) (.ref T) := by
  refine ⟨_, Grow.add s hT, .tup (.inl (.inl upd_same)) (by rw [sizeLine_eq]; simp) ?_⟩
  have m := same_upd (o := .tup [x, y]) (same_none s hT)
  exact .cons (r1.mono m) (.cons (r2.mono m) .nil)
theorem wk_enum {K : PySem.W.Frag} {G : Hp} {p : Addr} {xs : List D} {vs : List V} (h : G p = some (.lst vs)) (hz : xs.length ≤ sizeLine) (r : Reps K G xs vs) : Wk K G (Ite K p) (enumD 0 xs) := by
  refine ⟨by rw [enumD_len]; exact hz, YPair (fun i => some (.int (i : Nat))) (fun i => vs[i]?), ?_, fun i H x H' hi s y => ?_⟩
  · rw [enumD_len, r.length]
    exact walk_enum.mono (fun H s => .inl (.inl (s _ _ h))) fun i H x H' _ _ y => y
  · obtain ⟨T, u, w, rfl, hT, rfl, e1, e2⟩ := y
    cases e1
    obtain ⟨d, e3, e4⟩ := r.get' e2
    refine ⟨_, enumD_get 0 xs i d e3, fun G1 s1 s2 => ?_⟩
    rw [Nat.zero_add]
    exact pair_new s2 hT (.int _) (e4.mono s1)
theorem zipD_len : ∀ (xs ys : List D), (zipD xs ys).length = min xs.length ys.length
  | [], ys => by simp [zipD]
  | x :: xs, [] => by simp [zipD]
  | x :: xs, y :: ys => by
    rw [zipD, List.length_cons, zipD_len xs ys, List.length_cons, List.length_cons]
    omega
theorem zipD_get : ∀ (xs ys : List D) (i : Nat) (d e : D), xs[i]? = some d → ys[i]? = some e → (zipD xs ys)[i]? = some (.tup [d, e])
  | [], _, _, _, _, h, _ => by simp at h
  | x :: xs, [], _, _, _, _, h => by simp at h
  | x :: xs, y :: ys, 0, d, e, h1, h2 => by
    simp at h1 h2
    subst h1 h2
    rw [zipD]
    simp
  | x :: xs, y :: ys, i + 1, d, e, h1, h2 => by
    rw [zipD, List.getElem?_cons_succ]
    exact zipD_get xs ys i d e (by simpa using h1) (by simpa using h2)
theorem wk_zip {K : PySem.W.Frag} {G : Hp} {p q : Addr} {xs ys : List D} {vs us : List V} (h : G p = some (.lst vs)) (hz : xs.length ≤ sizeLine) (r : Reps K G xs vs) (h' : G q = some (.lst us)) (r' : Reps K G ys us) : Wk K G (Itz K p q) (zipD xs ys) := by
  refine ⟨by rw [zipD_len]; omega, YPair (fun i => vs[i]?) (fun i => us[i]?), ?_, fun i H x H' hi s y => ?_⟩
  · refine (walk_zip (n := (zipD xs ys).length) (by rw [zipD_len, r.length, r'.length])).mono (fun H s => ⟨.inl (.inl (s _ _ h)), .inl (.inl (s _ _ h'))⟩) fun i H x H' _ _ y => y
  · obtain ⟨T, u, w, rfl, hT, rfl, e1, e2⟩ := y
    obtain ⟨d, e3, e4⟩ := r.get' e1
    obtain ⟨d', e5, e6⟩ := r'.get' e2
    exact ⟨_, zipD_get xs ys i d d' e3 e5, fun G1 s1 s2 => pair_new s2 hT (e4.mono s1) (e6.mono s1)⟩

theorem chkA_one {es : E} {y : Expr} (h : chkA T es c [y] = true) : ∃ a, es = .cons a .nil ∧ chkE T a c y = true := by
  obtain ⟨a, b, rfl, h1, h2⟩ := chkA_cons h
  cases b <;> first | (cases h2; done) | skip
  exact ⟨a, rfl, h1⟩
theorem chkA_two {es : E} {y z : Expr} (h : chkA T es c [y, z] = true) : ∃ a b, es = .cons a (.cons b .nil) ∧ chkE T a c y = true ∧ chkE T b c z = true := by
  obtain ⟨a, b, rfl, h1, h2⟩ := chkA_cons h
  obtain ⟨b, rfl, h3⟩ := chkA_one h2
  exact ⟨a, b, rfl, h1, h3⟩
theorem evs_len : ∀ {es : E} {ys : List Expr} {ρ : Env} {ds : List D}, chkA T es c ys = true → evs φ es ρ = some ds → ds.length = ys.length := by
  intro es
  induction es with
  | nil =>
    intro ys ρ ds h e
    cases ys with
    | nil =>
      rw [evs] at e
      cases e
      rfl
    | cons _ _ => cases h
  | cons a b iha ihb =>
    intro ys ρ ds h e
    cases ys with
    | nil => cases h
    | cons y ys =>
      have h' : (chkE T a c y && chkA T b c ys) = true := h
      rw [Bool.and_eq_true] at h'
      rw [evs] at e
      obtain ⟨d, e1, e2⟩ := Option.bind_eq_some_iff.mp e
      obtain ⟨r, e3, rfl⟩ := Option.map_eq_some_iff.mp e2
      rw [List.length_cons, List.length_cons, ihb h'.2 e3]
  | _ =>
    intro ys ρ ds h e
    cases h
theorem Snd.mkI (ha : ∀ c es, chkA T e c es = false) (ho : ∀ c o, chkO T e c o = false) (hv : ∀ c o, chkE T e c o = false)
    (h : ∀ (c : Ctxt) (X : Cx) (tg ex : Expr), XOk T φ c X → chkI T e c tg ex = true → PI X tg ex (RI X.K (evi φ e)) ∧ ∀ x, foldedSetIterable ex X.env x = pure x) : Snd T φ e :=
  ⟨fun c X es _ q => (by rw [hv] at q; exact nomatch q), fun c X es _ q => (by rw [ha] at q; exact nomatch q), fun c X es _ q => (by rw [ho] at q; exact nomatch q), h⟩
theorem snd_rng {es : E} (he : Snd T φ es) : Snd T φ (.rng es) := by
  refine Snd.mkI (fun _ _ => rfl) (fun _ _ => rfl) (fun _ ex => by cases ex <;> rfl) fun c X tg ex hX q => ?_
  cases ex <;> first | (cases q; done) | skip
  rename_i fn args kws pos
  match fn, args, kws, q with
  | .Name x p, [y], [], q =>
    have q' : (x == ("range" : Str) && glB c x && chkA T es c [y] && T.bts.contains "range") = true := q
    simp only [Bool.and_eq_true, beq_iff_eq] at q'
    obtain ⟨⟨⟨rfl, q1⟩, q2⟩, q3⟩ := q'
    obtain ⟨g1, g2⟩ := hX.gl q1
    have hm := hX.bts "range" (by simpa using q3)
    obtain ⟨pa, hs⟩ := he.args c X _ hX q2
    obtain ⟨_, _, qy⟩ := chkA_one q2
    refine ⟨(pi_range1 g1 hm pa (star_cons qy [] X.env)).imp fun σ H Q ⟨G0, H0, G, ρ, ys, S, e, k⟩ => ?_, fun _ => rfl⟩
    rw [evi] at e
    obtain ⟨ds, e1, e⟩ := Option.bind_eq_some_iff.mp e
    obtain ⟨xs, e2, e⟩ := Option.bind_eq_some_iff.mp e
    split at e
    · next hz =>
      cases e
      refine ⟨G0, H0, G, ρ, ds, S, e1, fun vs G1 H1 w r1 => ?_⟩
      rcases rangeD_cases e2 with ⟨j, rfl, hb, rfl⟩ | ⟨i, j, rfl, _, _⟩
      · obtain ⟨v, rfl, r2⟩ := reps1 r1
        refine ⟨j, by rw [rep_int r2], hb.1, hb.2, k _ G1 H1 w ?_⟩
        rw [show (j - 0).toNat = j.toNat by rw [Int.sub_zero]]
        rw [List.length_map, List.length_range] at hz
        rw [Int.sub_zero] at hz
        exact wk_range 0 j.toNat hz
      · exact absurd (evs_len q2 e1) (by simp)
    · cases e
  | .Name x p, [y, y'], [], q =>
    have q' : (x == ("range" : Str) && glB c x && chkA T es c [y, y'] && T.bts.contains "range") = true := q
    simp only [Bool.and_eq_true, beq_iff_eq] at q'
    obtain ⟨⟨⟨rfl, q1⟩, q2⟩, q3⟩ := q'
    obtain ⟨g1, g2⟩ := hX.gl q1
    have hm := hX.bts "range" (by simpa using q3)
    obtain ⟨pa, hs⟩ := he.args c X _ hX q2
    obtain ⟨_, _, _, qy, qz⟩ := chkA_two q2
    refine ⟨(pi_range2 g1 hm pa (by rw [star_cons qy, star_cons qz]; rfl) (star_cons qz [] X.env)).imp fun σ H Q ⟨G0, H0, G, ρ, ys, S, e, k⟩ => ?_, fun _ => rfl⟩
    rw [evi] at e
    obtain ⟨ds, e1, e⟩ := Option.bind_eq_some_iff.mp e
    obtain ⟨xs, e2, e⟩ := Option.bind_eq_some_iff.mp e
    split at e
    · next hz =>
      cases e
      refine ⟨G0, H0, G, ρ, ds, S, e1, fun vs G1 H1 w r1 => ?_⟩
      rcases rangeD_cases e2 with ⟨j, rfl, hb, rfl⟩ | ⟨i, j, rfl, hb, rfl⟩
      · exact absurd (evs_len q2 e1) (by simp)
      · obtain ⟨v, v', rfl, r2, r3⟩ := reps2 r1
        refine ⟨i, j, by rw [rep_int r2, rep_int r3], hb, k _ G1 H1 w ?_⟩
        rw [List.length_map, List.length_range] at hz
        exact wk_range i _ hz
    · cases e
theorem rg_of {i j : Int} {xs : List D} (hb : -(2 ^ 62) ≤ i ∧ i < 2 ^ 62 ∧ -(2 ^ 62) ≤ j ∧ j < 2 ^ 62) (h : xs = (List.range (j - i).toNat).map fun (k : Nat) => D.int (i + (k : Int))) (hz : xs.length ≤ sizeLine) : RgOk i j := by
  subst h
  rw [List.length_map, List.length_range, sizeLine_eq] at hz
  exact ⟨hb.1, hb.2.1, hb.2.2.1, hb.2.2.2, hz⟩
theorem snd_lrg1 (ha : Snd T φ a) : Snd T φ (.lrg1 a) := by
  refine Snd.mk1 (fun _ _ => rfl) (fun _ _ => rfl) (fun _ _ _ => rfl) fun c X ex hX q => ?_
  cases ex <;> first | (cases q; done) | skip
  rename_i fn args kws pos
  match fn, args, kws, q with
  | .Name x p, [.Call (.Name x' p') [y] [] pos'], [], q =>
    have q' : (x == ("list" : Str) && glB c x && x' == ("range" : Str) && glB c x' && chkE T a c y && T.bts.contains "list" && T.bts.contains "range") = true := q
    simp only [Bool.and_eq_true, beq_iff_eq] at q'
    obtain ⟨⟨⟨⟨⟨⟨rfl, q1⟩, rfl⟩, q2⟩, q3⟩, q4⟩, q5⟩ := q'
    obtain ⟨g1, g2⟩ := hX.gl q1
    obtain ⟨g3, g4⟩ := hX.gl q2
    have hm := hX.bts "list" (by simpa using q4)
    have hm2 := hX.bts "range" (by simpa using q5)
    refine tri ?_ (fun _ => rfl) (fun _ _ _ q => nomatch q)
    refine (pe_listRg hX.calm g1 hm (prg_1 g3 hm2 (ha.val c X y hX q3).1.z (star_cons q3 [] X.env))).imp fun σ H Q ⟨G0, H0, G, ρ, r, S, e, k⟩ => ?_
    rw [ev] at e
    obtain ⟨d, e1, e⟩ := Option.bind_eq_some_iff.mp e
    obtain ⟨xs, e2, e⟩ := Option.bind_eq_some_iff.mp e
    split at e
    · next hz =>
      cases e
      refine ⟨G0, H0, G, ρ, d, S, e1, fun v G1 H1 w r1 => ?_⟩
      rcases rangeD_cases e2 with ⟨j, ej, hb, ex⟩ | ⟨i, j, ej, _, _⟩
      · have ej' : d = .int j := by simpa using ej
        subst ej'
        refine ⟨j, rep_int r1, rg_of ⟨by omega, by omega, hb.1, hb.2⟩ ex hz, ?_⟩
        subst ex
        exact new_lst w.sub hz (range_reps 0 j) (on w k)
      · simp at ej
    · cases e
theorem snd_lrg2 (ha : Snd T φ a) (hb : Snd T φ b) : Snd T φ (.lrg2 a b) := by
  refine Snd.mk1 (fun _ _ => rfl) (fun _ _ => rfl) (fun _ _ _ => rfl) fun c X ex hX q => ?_
  cases ex <;> first | (cases q; done) | skip
  rename_i fn args kws pos
  match fn, args, kws, q with
  | .Name x p, [.Call (.Name x' p') [y, z] [] pos'], [], q =>
    have q' : (x == ("list" : Str) && glB c x && x' == ("range" : Str) && glB c x' && chkE T a c y && chkE T b c z && T.bts.contains "list" && T.bts.contains "range") = true := q
    simp only [Bool.and_eq_true, beq_iff_eq] at q'
    obtain ⟨⟨⟨⟨⟨⟨⟨rfl, q1⟩, rfl⟩, q2⟩, q3⟩, q3'⟩, q4⟩, q5⟩ := q'
    obtain ⟨g1, g2⟩ := hX.gl q1
    obtain ⟨g3, g4⟩ := hX.gl q2
    have hm := hX.bts "list" (by simpa using q4)
    have hm2 := hX.bts "range" (by simpa using q5)
    refine tri ?_ (fun _ => rfl) (fun _ _ _ q => nomatch q)
    refine (pe_listRg hX.calm g1 hm (prg_2 g3 hm2 (ha.val c X y hX q3).1.z (hb.val c X z hX q3').1.z (star_cons q3 [z] X.env) (star_cons q3' [] X.env) (hpl_of (by rw [star_cons q3']; rfl)))).imp fun σ H Q ⟨G0, H0, G, ρ, r, S, e, k⟩ => ?_
    rw [ev] at e
    obtain ⟨d, e1, e⟩ := Option.bind_eq_some_iff.mp e
    obtain ⟨d', e1', e⟩ := Option.bind_eq_some_iff.mp e
    obtain ⟨xs, e2, e⟩ := Option.bind_eq_some_iff.mp e
    split at e
    · next hz =>
      cases e
      refine ⟨G0, H0, G, ρ, d, S, e1, fun v G1 H1 w r1 => ⟨G0, H0, G1, ρ, d', S.grow w, e1', fun v' G2 H2 w2 r2 => ?_⟩⟩
      rcases rangeD_cases e2 with ⟨j, ej, _, _⟩ | ⟨i, j, ej, hb, ex⟩
      · simp at ej
      · have ej' : d = .int i ∧ d' = .int j := by simpa using ej
        obtain ⟨rfl, rfl⟩ := ej'
        refine ⟨i, j, rep_int r1, rep_int r2, rg_of hb ex hz, ?_⟩
        subst ex
        exact new_lst w2.sub hz (range_reps i j) (on (w.trans w2) k)
    · cases e

theorem snd_enm (ha : Snd T φ a) : Snd T φ (.enm a) := by
  refine Snd.mkI (fun _ _ => rfl) (fun _ _ => rfl) (fun _ ex => by cases ex <;> rfl) fun c X tg ex hX q => ?_
  cases tg <;> first | (cases ex <;> cases q; done) | skip
  rename_i elts kk tpos
  cases ex <;> first | (cases q; done) | skip
  rename_i fn args kws pos
  match fn, args, kws, q with
  | .Name x p, [y], [], q =>
    have q' : (x == ("enumerate" : Str) && glB c x && chkE T a c y && T.bts.contains "enumerate") = true := q
    simp only [Bool.and_eq_true, beq_iff_eq] at q'
    obtain ⟨⟨⟨rfl, q1⟩, q2⟩, q3⟩ := q'
    obtain ⟨g1, g2⟩ := hX.gl q1
    have hm := hX.bts "enumerate" (by simpa using q3)
    have st := star_cons q2 [] X.env
    have pa := pa_cons (ha.val c X y hX q2).1.z pa_nil st
    refine ⟨⟨fun pins s σ H Q I ⟨G0, H0, G, ρ, ys, S, e, k⟩ => ?_⟩, fun _ => rfl⟩
    rw [evi] at e
    obtain ⟨d, e1, e⟩ := Option.bind_eq_some_iff.mp e
    unfold enumI at e
    split at e
    · cases e
      exact (pi_enum g1 hm pa st).run pins s σ H Q I ⟨G0, H0, G, ρ, _, S, e1, fun v G1 H1 w r1 => by
        obtain ⟨p, vs, rfl, h1, z, r2⟩ := rep_lst r1
        exact ⟨p, vs, rfl, .inl (.inl (w.sub _ _ h1)), k _ G1 H1 w (wk_enum h1 z r2)⟩⟩
    · cases e
theorem snd_zp (ha : Snd T φ a) (hb : Snd T φ b) : Snd T φ (.zp a b) := by
  refine Snd.mkI (fun _ _ => rfl) (fun _ _ => rfl) (fun _ ex => by cases ex <;> rfl) fun c X tg ex hX q => ?_
  cases tg <;> first | (cases ex <;> cases q; done) | skip
  rename_i elts kk tpos
  cases ex <;> first | (cases q; done) | skip
  rename_i fn args kws pos
  match fn, args, kws, q with
  | .Name x p, [y, z], [], q =>
    have q' : (x == ("zip" : Str) && glB c x && chkE T a c y && chkE T b c z && T.bts.contains "zip") = true := q
    simp only [Bool.and_eq_true, beq_iff_eq] at q'
    obtain ⟨⟨⟨⟨rfl, q1⟩, q2⟩, q2'⟩, q3⟩ := q'
    obtain ⟨g1, g2⟩ := hX.gl q1
    have hm := hX.bts "zip" (by simpa using q3)
    have st := star_cons q2' [] X.env
    have st2 := star_cons q2 [z] X.env
    have pa := pa_cons (ha.val c X y hX q2).1.z (pa_cons (hb.val c X z hX q2').1.z pa_nil st) st2
    refine ⟨⟨fun pins s σ H Q I ⟨G0, H0, G, ρ, ys, S, e, k⟩ => ?_⟩, fun _ => rfl⟩
    rw [evi] at e
    obtain ⟨d, e1, e⟩ := Option.bind_eq_some_iff.mp e
    obtain ⟨d', e1', e⟩ := Option.bind_eq_some_iff.mp e
    unfold zipI at e
    split at e
    · cases e
      exact (pi_zip g1 hm pa st2 (hpl_of (by rw [st]; rfl))).run pins s σ H Q I ⟨G0, H0, G, ρ, _, S, e1, fun v G1 H1 w r1 => ⟨G0, H0, G1, ρ, _, S.grow w, e1', fun v' G2 H2 w2 r1' => by
        obtain ⟨p, vs, rfl, h1, z, r2⟩ := rep_lst (r1.mono w2.g)
        obtain ⟨p', vs', rfl, h1', z', r2'⟩ := rep_lst r1'
        exact ⟨p, p', vs, vs', rfl, .inl (.inl (w2.sub _ _ h1)), .inl (.inl (w2.sub _ _ h1')), k _ G2 H2 (w.trans w2) (wk_zip h1 z r2 h1' r2')⟩⟩⟩
    · cases e
theorem snd_rvd (ha : Snd T φ a) : Snd T φ (.rvd a) := by
  refine Snd.mkI (fun _ _ => rfl) (fun _ _ => rfl) (fun _ ex => by cases ex <;> rfl) fun c X tg ex hX q => ?_
  cases ex <;> first | (cases q; done) | skip
  rename_i fn args kws pos
  match fn, args, kws, q with
  | .Name x p, [y], [], q =>
    have q' : (x == ("reversed" : Str) && glB c x && chkE T a c y && T.bts.contains "reversed") = true := q
    simp only [Bool.and_eq_true, beq_iff_eq] at q'
    obtain ⟨⟨⟨rfl, q1⟩, q2⟩, q3⟩ := q'
    obtain ⟨g1, g2⟩ := hX.gl q1
    have hm := hX.bts "reversed" (by simpa using q3)
    have st := star_cons q2 [] X.env
    have pa := pa_cons (ha.val c X y hX q2).1.z pa_nil st
    refine ⟨⟨fun pins s σ H Q I ⟨G0, H0, G, ρ, ys, S, e, k⟩ => ?_⟩, fun _ => rfl⟩
    rw [evi] at e
    obtain ⟨d, e1, e⟩ := Option.bind_eq_some_iff.mp e
    unfold revI at e
    split at e
    · cases e
      exact (pi_reversed g1 hm pa st).run pins s σ H Q I ⟨G0, H0, G, ρ, _, S, e1, fun v G1 H1 w r1 => by
        obtain ⟨p, vs, rfl, h1, z, r2⟩ := rep_lst r1
        exact ⟨p, vs, rfl, .inl (.inl (w.sub _ _ h1)), k _ G1 H1 w (wk_rev h1 z r2)⟩⟩
    · cases e
end
end PL
set_option Elab.async false
set_option linter.all false
set_option maxRecDepth 100000
namespace PL
open PySem PySem.Spec L2
section
variable {X : Cx}
mutual
theorem noDict_toPy : ∀ d : D, (toPy d).hasDict = false
  | .non => rfl
  | .bl _ => rfl
  | .int _ => rfl
  | .str _ => rfl
  | .lst xs => noDict_toPys xs
  | .tup xs => noDict_toPys xs
  | .scr ns => by
    show PyData.hasDictAll (ns.map .int) = false
    induction ns with
    | nil => rfl
    | cons n ns ih => exact ih
  | .dct _ _ => rfl
theorem noDict_toPys : ∀ d : List D, PyData.hasDictAll (toPys d) = false
  | [] => rfl
  | x :: xs => by
    show (PyData.hasDict (toPy x) || PyData.hasDictAll (toPys xs)) = false
    rw [noDict_toPy x, noDict_toPys xs]
    rfl
end
def rRepr (K : PySem.W.Frag) : List V → Hp → VK → Prop := fun vs H Q => ∃ (G : Hp) (d : D) (v : V), vs = [v] ∧ Same G H ∧ Rep K G d v ∧ rprOk d = true ∧ Q (.str (toPy d).shown) H
theorem cr_repr (hg : X.A.guards = some []) (hu : X.A.units + 200 < cLine) : CallR X (.builtin "repr") (rRepr X.K) := by
  intro pins s σ H vs us Q I rv ⟨G, d, v, e, sm, r, ok, q⟩
  subst e
  unfold rprOk at ok
  simp only [Bool.and_eq_true, decide_eq_true_eq] at ok
  obtain ⟨⟨⟨k0, k1⟩, k2⟩, k3⟩ := ok
  cases rv with
  | cons r1 r2 =>
    cases r2
    obtain ⟨as, rd⟩ := Dp.reads I _ _ _ (r.dp sm) r1
    obtain ⟨p, rfl⟩ : ∃ p, v = .ref p := by
      cases r with
      | lst _ _ _ => exact ⟨_, rfl⟩
      | tup _ _ _ => exact ⟨_, rfl⟩
      | _ => cases k0
    cases r1
    refine repr_of_reads' rd k1 (PyData.noDict_hsm (noDict_toPy d)) hg (by omega) (fun _ _ e => e) (fun h' u tk k => ?_) k3
    exact ⟨.str (toPy d).shown, H, I.kept k, ⟨_, rfl⟩, q⟩
end
end PL
set_option Elab.async false
set_option linter.all false
set_option maxRecDepth 100000
namespace PL
open PySem PySem.Spec L2

section
variable {T : Tab} {φ : String → List D → Option R} {c : Ctxt} {X : Cx} {e a b k : E}
theorem snd_cons (ha : Snd T φ a) (hb : Snd T φ b) : Snd T φ (.cons a b) := by
  refine ⟨fun c X ex _ q => (by cases ex <;> cases q), fun c X es hX q => ?_, fun c X o hX q => ?_, fun c X t ex hX q => ?_⟩
  · cases es with
    | nil => cases q
    | cons x xs =>
      have q' : (chkE T a c x && chkA T b c xs) = true := q
      simp only [Bool.and_eq_true] at q'
      obtain ⟨p, st⟩ := hb.args c X xs hX q'.2
      refine ⟨(pa_cons (ha.val c X x hX q'.1).1.z p (star_cons q'.1 xs X.env)).imp fun σ H Q ⟨G0, H0, G, ρ, ds, S, e, k⟩ => ?_, fun env => ?_⟩
      · rw [evs] at e
        obtain ⟨d, e1, e2⟩ := Option.bind_eq_some_iff.mp e
        obtain ⟨r, e3, rfl⟩ := Option.map_eq_some_iff.mp e2
        exact ⟨G0, H0, G, ρ, d, S, e1, fun v G1 H1 w r1 => ⟨G0, H0, G1, ρ, r, S.grow w, e3, fun vs G2 H2 w2 r2 => k _ G2 H2 (w.trans w2) (.cons (r1.mono w2.g) r2)⟩⟩
      · rw [star_cons q'.1]
        exact st env
  · cases o with
    | none => cases b <;> cases q
    | some x =>
      cases b <;> first | (cases q; done) | skip
      have q' : chkE T a c x = true := q
      refine ⟨fun pins s σ H Q I ⟨G0, H0, G, ρ, k, S, e, h⟩ => (po_some (ha.val c X x hX q').1.z).run pins s σ H Q I ?_⟩
      rw [evo] at e
      unfold toI at e
      split at e
      · next i e1 =>
        cases e
        exact ⟨G0, H0, G, ρ, .int i, S, e1, fun v G1 H1 w r => ⟨i, rep_int r, h G1 H1 w⟩⟩
      · cases e
  · cases b <;> first | (cases ex <;> cases q; done) | skip
    have q' : chkE T a c ex = true := by
      cases ex <;> exact q
    have pe := (ha.val c X ex hX q').1.z
    refine ⟨⟨fun pins s σ H Q I ⟨G0, H0, G, ρ, ys, S, e, k⟩ => ?_⟩, fun x => notSet q' X.env x⟩
    rw [evi] at e
    obtain ⟨d, e1, e⟩ := Option.bind_eq_some_iff.mp e
    unfold itemsD at e
    split at e
    · cases e
      exact (pi_list pe).run pins s σ H Q I ⟨G0, H0, G, ρ, _, S, e1, fun v G1 H1 w r1 => by
        obtain ⟨p, vs, rfl, h1, z, r2⟩ := rep_lst r1
        exact ⟨p, rfl, ⟨vs, .inl (.inl (w.sub _ _ h1))⟩, k _ G1 H1 w (wk_list h1 z r2)⟩⟩
    · cases e
      exact (pi_tup pe).run pins s σ H Q I ⟨G0, H0, G, ρ, _, S, e1, fun v G1 H1 w r1 => by
        obtain ⟨p, vs, rfl, h1, z, r2⟩ := rep_tup r1
        exact ⟨p, rfl, ⟨vs, PL.Same.seqT w.sub h1⟩, k _ G1 H1 w (wk_tup h1 z r2)⟩⟩
    · cases e
      exact (pi_str pe).run pins s σ H Q I ⟨G0, H0, G, ρ, _, S, e1, fun v G1 H1 w r1 => by
        obtain ⟨e2, z⟩ := rep_str r1
        exact ⟨_, e2, k _ G1 H1 w (wk_str _ z)⟩⟩
    · cases e

/-! ### targets -/
def namesG : List Nat → TGs
  | [] => gNil
  | i :: is => gCons (gName i) (namesG is)
def tgG (K : PySem.W.Frag) : Tg → TG
  | .n i => gName i
  | .t is => gTup K is.length (namesG is)
theorem names_pg (hX : XOk T φ c X) : ∀ {is : List Nat} {es : List Expr}, namesB c is es = true → PGs X es (namesG is) ∧ (assignEach es X.env).length = is.length ∧ (assignEach es X.env).findIdx? (·.1) = none
  | [], [], _ => ⟨pgs_nil, rfl, rfl⟩
  | [], _ :: _, h => by cases h
  | _ :: _, [], h => by cases h
  | i :: is, x :: es, h => by
    cases x <;> first | (cases h; done) | skip
    rename_i x pos
    have h' : (locB c i x && namesB c is es) = true := h
    rw [Bool.and_eq_true] at h'
    obtain ⟨h1, h2, h3⟩ := hX.loc h'.1
    obtain ⟨p, l, f⟩ := names_pg hX h'.2
    refine ⟨pgs_cons (pg_name (by rw [hX.nm]; exact hX.nd) h1 h2 h3) p rfl, ?_, ?_⟩
    · show (assignEach es X.env).length + 1 = _
      rw [l]
      rfl
    · show List.findIdx? (·.1) ((false, _) :: assignEach es X.env) = none
      rw [List.findIdx?_cons]
      simp [f]
theorem tg_pg (hX : XOk T φ c X) {tg : Tg} {ex : Expr} (h : tgB c tg ex = true) : PG X ex (tgG X.K tg) := by
  cases tg with
  | n i =>
    cases ex <;> first | (cases h; done) | skip
    rename_i x pos
    obtain ⟨h1, h2, h3⟩ := hX.loc (show locB c i x = true from h)
    exact pg_name (by rw [hX.nm]; exact hX.nd) h1 h2 h3
  | t is =>
    cases ex <;> first | (cases h; done) | skip
    rename_i es n pos
    obtain ⟨p, l, f⟩ := names_pg hX (show namesB c is es = true from h)
    exact pg_tup hX.calm p l f
/-- two states that agree but at the places vs -/
def Agree (vs : List Nat) (σ σ' : St) : Prop := σ.length = σ'.length ∧ ∀ i, i ∉ vs → σ[i]? = σ'[i]?
theorem wipe_get (σ : St) : ∀ (vs : List Nat) (i : Nat), (wipe σ vs)[i]? = if i ∈ vs ∧ i < σ.length then some none else σ[i]?
  | [], i => by simp [wipe]
  | v :: vs, i => by
    unfold wipe
    by_cases h : v = i
    · subst h
      by_cases hl : v < σ.length
      · rw [List.getElem?_set_self (by rw [wipe_length]; exact hl), if_pos ⟨List.mem_cons_self, hl⟩]
      · rw [if_neg (fun q => hl q.2), List.getElem?_eq_none (by rw [List.length_set, wipe_length]; omega), List.getElem?_eq_none (by omega)]
    · rw [List.getElem?_set_ne h, wipe_get σ vs i]
      have hne : i ≠ v := fun q => h q.symm
      simp [hne]
theorem wipe_agree {vs : List Nat} {σ σ' : St} (h : Agree vs σ σ') : wipe σ vs = wipe σ' vs := by
  refine List.ext_getElem? fun i => ?_
  rw [wipe_get, wipe_get, h.1]
  by_cases hi : i ∈ vs
  · by_cases hl : i < σ'.length
    · rw [if_pos ⟨hi, hl⟩, if_pos ⟨hi, hl⟩]
    · rw [if_neg (fun q => hl q.2), if_neg (fun q => hl q.2), List.getElem?_eq_none (by rw [h.1]; omega), List.getElem?_eq_none (by omega)]
  · rw [if_neg (fun q => hi q.1), if_neg (fun q => hi q.1)]
    exact h.2 i hi
theorem agree_refl (vs : List Nat) (σ : St) : Agree vs σ σ := ⟨rfl, fun _ _ => rfl⟩
theorem agree_set {vs : List Nat} {σ σ' : St} {j : Nat} (h : Agree vs σ σ') (hj : j ∈ vs) (x : Option V) : Agree vs (σ.set j x) σ' := by
  refine ⟨by rw [List.length_set]; exact h.1, fun i hi => ?_⟩
  rw [List.getElem?_set_ne (fun q : j = i => hi (q ▸ hj))]
  exact h.2 i hi
theorem agree_wipe (vs : List Nat) (σ : St) : Agree vs (wipe σ vs) σ := by
  refine ⟨wipe_length σ vs, fun i hi => ?_⟩
  rw [wipe_get, if_neg (fun q => hi q.1)]
theorem names_set {K : PySem.W.Frag} {G0 H0 G H : Hp} {σ0 : St} {ow : List Nat} {Q : St → Hp → Prop} : ∀ {is : List Nat} {ds : List D} {vs : List V} {ρ ρ' : Env} {σ : St}, Sim K G0 H0 G H ρ σ → Reps K G ds vs → setAll is ds ρ = some ρ' → (∀ i ∈ is, i ∈ ow) → Agree ow σ σ0 →
    (∀ σ', Sim K G0 H0 G H ρ' σ' → Agree ow σ' σ0 → Q σ' H) → namesG is vs σ H Q
  | [], [], vs, ρ, ρ', σ, S, r, e, ho, ha, k => by
    cases r
    cases e
    exact ⟨rfl, k σ S ha⟩
  | [], _ :: _, _, _, _, _, _, _, e, _, _, _ => by cases e
  | _ :: _, [], _, _, _, _, _, _, e, _, _, _ => by cases e
  | i :: is, d :: ds, vs, ρ, ρ', σ, S, r, e, ho, ha, k => by
    cases r with
    | cons a b =>
      refine ⟨_, _, rfl, ?_⟩
      exact names_set (S.put a i) b e (fun j hj => ho j (List.mem_cons_of_mem _ hj)) (agree_set ha (ho i List.mem_cons_self) _) k
theorem setAll_len : ∀ {is : List Nat} {ds : List D} {ρ ρ' : Env}, setAll is ds ρ = some ρ' → is.length = ds.length
  | [], [], _, _, _ => rfl
  | [], _ :: _, _, _, e => by cases e
  | _ :: _, [], _, _, e => by cases e
  | i :: is, d :: ds, ρ, ρ', e => by
    rw [List.length_cons, List.length_cons, setAll_len (is := is) (ds := ds) e]
theorem tg_set {K : PySem.W.Frag} {G0 H0 G H : Hp} {σ σ0 : St} {Q : St → Hp → Prop} {tg : Tg} {d : D} {v : V} {ρ ρ' : Env} (S : Sim K G0 H0 G H ρ σ) (r : Rep K G d v) (e : asg tg d ρ = some ρ') (ha : Agree tg.own σ σ0)
    (k : ∀ σ', Sim K G0 H0 G H ρ' σ' → Agree tg.own σ' σ0 → Q σ' H) : tgG K tg v σ H Q := by
  cases tg with
  | n i =>
    cases e
    exact k _ (S.put r i) (agree_set ha List.mem_cons_self _)
  | t is =>
    cases d <;> first | (cases e; done) | skip
    obtain ⟨p, vs, rfl, h1, z, r2⟩ := rep_tup r
    have e' : setAll is _ ρ = some ρ' := e
    exact ⟨p, vs, rfl, PL.Same.seqT S.gr.sub h1, by rw [← r2.length, setAll_len e'], names_set S r2 e' (fun _ h => h) ha k⟩
theorem wipe_sim {K : PySem.W.Frag} {G0 H0 G H : Hp} : ∀ (vs : List Nat) {ρ : Env} {σ : St}, Sim K G0 H0 G H ρ σ → Sim K G0 H0 G H (wipeE ρ vs) (wipe σ vs)
  | [], _, _, S => S
  | v :: vs, ρ, σ, S => by
    have S' := wipe_sim vs S
    unfold wipeE wipe
    obtain ⟨gr, len, fp, h1, h2, h3⟩ := S'
    refine ⟨gr, by simpa using len, fp, fun i d lv e => ?_, h2, h3⟩
    by_cases hi : v = i
    · subst hi
      have hl : v < (wipeE ρ vs).length := by
        have := (List.getElem?_eq_some_iff.mp e).1
        simpa using this
      rw [List.getElem?_set_self hl] at e
      cases e
    · rw [List.getElem?_set_ne hi] at e ⊢
      exact h1 i d lv e

/-! ### list comprehensions -/
theorem XOk.blk (h : XOk T φ c X) (s : Shared) (H : Hp) (scope : Scope) (C : Addr) (cl : List (Str × Addr)) (fp : List Addr) : XOk T φ (blkCt c scope) (X.blk s H scope (compEnvC scope cl C X.env) fp) :=
  ⟨h.nm, by
    show relS scope X.env.scope = relS scope c.sc
    rw [h.sc], rfl, h.nd, h.calm, rfl, h.hu, h.fns, h.bts, h.cons, h.gcd, h.rp⟩
theorem own_map : ∀ (N : List Str) (is : List Nat), (ownOf N is).map (·.2) = is
  | _, [] => rfl
  | N, i :: is => by
    show i :: (ownOf N is).map (·.2) = _
    rw [own_map N is]

theorem isTT_eq {e : E} (h : isTT e = true) : e = .con (.bl true) := by
  unfold isTT at h
  split at h
  · rfl
  · cases h
theorem lcGo_len {tgt : D → Env → Option Env} {cnd : Env → Option Bool} {elt : Env → Option D} : ∀ {ys : List D} {ρ : Env} {xs : List D}, lcGo tgt cnd elt ys ρ = some xs → xs.length ≤ ys.length
  | [], ρ, xs, e => by
    cases e
    exact Nat.le_refl _
  | y :: ys, ρ, xs, e => by
    unfold lcGo at e
    obtain ⟨ρ1, _, e⟩ := Option.bind_eq_some_iff.mp e
    obtain ⟨b, _, e⟩ := Option.bind_eq_some_iff.mp e
    cases b with
    | false => exact Nat.le_succ_of_le (lcGo_len (ys := ys) e)
    | true =>
      obtain ⟨x, _, e⟩ := Option.bind_eq_some_iff.mp e
      obtain ⟨r, e1, rfl⟩ := Option.map_eq_some_iff.mp e
      exact Nat.succ_le_succ (lcGo_len (ys := ys) e1)
theorem grow_appended {G H : Hp} {D : Addr} {vs ws : List V} {G1 H1 : Hp} (w : Grow G1 H1 G H) (hG : G D = none) (h1 : H1 D = none) : Grow G1 H1 G (upd H D (.lst ws)) :=
  ⟨w.s, w.g, fun b o e => by
    rw [upd_ne (ne_of_none e h1)]
    exact w.h _ _ e, fun b o e => by
    rw [upd_ne (ne_of_none e hG)]
    exact w.sub _ _ e, w.new⟩
theorem lc_read {K : PySem.W.Frag} {N : List Str} {tg : Tg} {it cnd elt : E} {σ : St} {H : Hp} {Q : VK} (h : RD K (ev φ (.lc tg it cnd elt)) σ H Q) :
    tLc (RI K (evi φ it)) (tgG K tg) (RT K (evT φ cnd)) (RZ K fun ρ => (ev φ elt ρ).bind PL.frz) ((ownOf N tg.own).map (·.2)) σ H Q := by
    obtain ⟨G0, H0, G, ρ, r, S, e, k⟩ := h
    rw [ev] at e
    obtain ⟨ys, e1, e⟩ := Option.bind_eq_some_iff.mp e
    obtain ⟨xs, e2, rfl⟩ := Option.map_eq_some_iff.mp e
    refine ⟨G0, H0, G, ρ, ys, S, e1, fun J G1 H1 w1 ⟨hz, Y, wk, hY⟩ => fun D hD => ?_⟩
    rw [own_map]
    have hxs := lcGo_len e2
    have SW : Sim K G0 H0 G1 H1 (wipeE ρ tg.own) (wipe σ tg.own) := wipe_sim tg.own (S.grow w1)
    have hG1 : G1 D = none := same_none w1.sub hD
    refine lc_it wk (fun i Hc => ∃ Gc vs done rest, Grow G1 H1 Gc Hc ∧ Gc D = none ∧ Hc D = some (.lst vs) ∧ Reps K Gc done vs ∧ xs = done ++ rest ∧
        lcGo (asg tg) (evT φ cnd) (fun ρ => (ev φ elt ρ).bind PL.frz) (ys.drop i) (wipeE ρ tg.own) = some rest) ?_ (fun i Hc _ ⟨Gc, vs, done, rest, g, _⟩ => g.g.trans g.sub) (fun i x Hc H' hi ⟨Gc, vs, done, rest, g, hGD, hHD, rd, ex, er⟩ y => ?_) (fun Hc ⟨Gc, vs, done, rest, g, hGD, hHD, rd, ex, er⟩ => ?_)
    · exact ⟨G1, [], [], xs, Grow.own w1.sub hD, hG1, upd_same, .nil, rfl, by rw [List.drop_zero]; exact e2⟩
    · obtain ⟨d, ed, hyy⟩ := hY i Hc x H' hi (g.g.trans g.sub) y
      obtain ⟨G2, w2, r2⟩ := hyy Gc g.g g.sub
      have edrop : ys.drop i = d :: ys.drop (i + 1) := by
        rw [List.drop_eq_getElem_cons hi]
        rw [List.getElem?_eq_getElem hi] at ed
        rw [Option.some.inj ed]
      rw [edrop] at er
      unfold lcGo at er
      obtain ⟨ρ1, ea, er⟩ := Option.bind_eq_some_iff.mp er
      obtain ⟨b, eb, er⟩ := Option.bind_eq_some_iff.mp er
      have S2 : Sim K G0 H0 G2 H' (wipeE ρ tg.own) (wipe σ tg.own) := (SW.grow g).grow w2
      have hG2 : G2 D = none := by
        cases q : G2 D with
        | none => rfl
        | some o => exact absurd hGD (w2.new D (by rw [q]; simp) (by rw [hHD]; simp))
      have hH2 : H' D = some (.lst vs) := w2.h _ _ hHD
      refine tg_set S2 r2 ea (agree_wipe tg.own σ) fun σ2 S3 ag => ⟨wipe_agree ag |>.trans rfl, ?_⟩
      refine ⟨G0, H0, G2, ρ1, b, S3, eb, fun G3 H3 w3 => ?_⟩
      have hG3 : G3 D = none := by
        cases q : G3 D with
        | none => rfl
        | some o => exact absurd hG2 (w3.new D (by rw [q]; simp) (by rw [hH2]; simp))
      have hH3 : H3 D = some (.lst vs) := w3.h _ _ hH2
      have g3 : Grow G1 H1 G3 H3 := g.trans (w2.trans w3)
      cases b with
      | false => exact ⟨G3, vs, done, rest, g3, hG3, hH3, (rd.mono w2.g).mono w3.g, ex, er⟩
      | true =>
        obtain ⟨u, eu, er⟩ := Option.bind_eq_some_iff.mp er
        obtain ⟨rest', er', rfl⟩ := Option.map_eq_some_iff.mp er
        refine ⟨G0, H0, G3, ρ1, u, S3.grow w3, eu, fun yv G4 H4 w4 r4 => ?_⟩
        have hG4 : G4 D = none := by
          cases q : G4 D with
          | none => rfl
          | some o => exact absurd hG3 (w4.new D (by rw [q]; simp) (by rw [hH3]; simp))
        have hH4 : H4 D = some (.lst vs) := w4.h _ _ hH3
        have rd4 : Reps K G4 done vs := ((rd.mono w2.g).mono w3.g).mono w4.g
        refine ⟨vs, hH4, ?_, G4, vs ++ [yv], done ++ [u], rest', grow_appended (vs := vs) (g3.trans w4) hG4 hD, hG4, upd_same, rd4.append (.cons r4 .nil), by rw [ex, List.append_assoc]; rfl, er'⟩
        have : done.length < xs.length := by
          rw [ex, List.length_append, List.length_cons]
          omega
        rw [← rd4.length]
        omega
    · rw [List.drop_length] at er
      unfold lcGo at er
      cases er
      rw [List.append_nil] at ex
      subst ex
      exact k (.ref D) Gc Hc (w1.trans g) (.top (same_none w1.h hD) hGD hHD (Nat.le_trans hxs hz) rd)

theorem lc_main {tg : Tg} {it cnd elt : E} {t i el : Expr} {ifs : List Expr} {scope : Scope} {pos : Pos} (hX : XOk T φ c X) (hi : Snd T φ it) (hel : Snd T φ elt) (q1 : chkI T it c t i = true) (q2 : blkC c.N c.sc scope (ownOf c.N tg.own) = true)
    (q3 : tgB (blkCt c scope) tg t = true) (q5 : chkE T elt (blkCt c scope) el = true)
    (pts : ∀ (s : Shared) (H : Hp) (C : Addr) (cl : List (Str × Addr)) (fp : List Addr), PTs (X.blk s H scope (compEnvC scope cl C X.env) fp) ifs (RT X.K (evT φ cnd))) :
    PE X (.ListComp el [⟨t, i, ifs, 0⟩] scope pos) (RD X.K (ev φ (.lc tg it cnd elt))) ∧ PT X (.ListComp el [⟨t, i, ifs, 0⟩] scope pos) (RT X.K (evT φ (.lc tg it cnd elt))) ∧ ∀ op vs p, Expr.ListComp el [⟨t, i, ifs, 0⟩] scope pos = .BoolOp op vs p → PW X (.ListComp el [⟨t, i, ifs, 0⟩] scope pos) (RT X.K (evT φ (.lc tg it cnd elt))) := by
    obtain ⟨pi, hs⟩ := hi.iter c X t i hX q1
    have ok : BlkOk X.N X.env.scope scope (ownOf c.N tg.own) := by
      rw [hX.nm, hX.sc]
      exact blkOk_by q2
    refine tri ?_ (fun _ => rfl) (fun _ _ _ q => nomatch q)
    exact (pe_lc (g := tgG X.K tg) (tt := RT X.K (evT φ cnd)) (te := RZ X.K fun ρ => (ev φ elt ρ).bind PL.frz) hX.calm (by rw [hX.nm]; exact hX.nd) pi ok (fun s H C cl fp => tg_pg (hX.blk s H scope C cl fp) q3) pts (fun s H C cl fp => (hel.val _ _ el (hX.blk s H scope C cl fp) q5).1.z) hs).imp fun σ H Q h => lc_read h
theorem snd_lc {tg : Tg} {it cnd elt : E} (hi : Snd T φ it) (hcn : Snd T φ cnd) (hel : Snd T φ elt) : Snd T φ (.lc tg it cnd elt) := by
  refine Snd.mk1 (fun _ _ => rfl) (fun _ _ => rfl) (fun _ _ _ => rfl) fun c X ex hX q => ?_
  cases ex <;> first | (cases q; done) | skip
  rename_i el gens scope pos
  match gens, q with
  | [⟨t, i, [], a⟩], q =>
    have q' : (a == 0 && chkI T it c t i && blkC c.N c.sc scope (ownOf c.N tg.own) && tgB (blkCt c scope) tg t && isTT cnd && chkE T elt (blkCt c scope) el) = true := q
    simp only [Bool.and_eq_true, beq_iff_eq] at q'
    obtain ⟨⟨⟨⟨⟨rfl, q1⟩, q2⟩, q3⟩, q4⟩, q5⟩ := q'
    refine lc_main hX hi hel q1 q2 q3 q5 fun s H C cl fp => ?_
    have := isTT_eq q4
    subst this
    exact ⟨fun pins s σ H Q I ⟨G0, H0, G, ρ, b, S, e, k⟩ => pts_nil.run pins s σ H Q I (by
      rw [evT, ev] at e
      cases e
      exact k G H (Grow.refl S.gr.sub))⟩
  | [⟨t, i, [p], a⟩], q =>
    have q' : (a == 0 && chkI T it c t i && blkC c.N c.sc scope (ownOf c.N tg.own) && tgB (blkCt c scope) tg t && chkE T cnd (blkCt c scope) p && chkE T elt (blkCt c scope) el) = true := q
    simp only [Bool.and_eq_true, beq_iff_eq] at q'
    obtain ⟨⟨⟨⟨⟨rfl, q1⟩, q2⟩, q3⟩, q4⟩, q5⟩ := q'
    exact lc_main hX hi hel q1 q2 q3 q5 fun s H C cl fp => pts_one (hcn.val _ _ p (hX.blk s H scope C cl fp) q4).2.1

  | [⟨t, i, p :: p' :: ps, a⟩], q =>
    exfalso
    have q' : (a == 0 && chkI T it c t i && blkC c.N c.sc scope (ownOf c.N tg.own) && tgB (blkCt c scope) tg t && false && chkE T elt (blkCt c scope) el) = true := q
    simp at q'
theorem snd_rpr {a : E} (ha : Snd T φ a) : Snd T φ (.rpr a) := by
  refine Snd.mk1 (fun _ _ => rfl) (fun _ _ => rfl) (fun _ _ _ => rfl) fun c X ex hX q => ?_
  cases ex <;> first | (cases q; done) | skip
  rename_i fn args kws pos
  match fn, args, kws, q with
  | .Name x p, [y], [], q =>
    have q' : (x == ("repr" : Str) && glB c x && chkE T a c y && T.bts.contains "repr" && T.rp) = true := q
    simp only [Bool.and_eq_true, beq_iff_eq] at q'
    obtain ⟨⟨⟨⟨rfl, q1⟩, q2⟩, hm⟩, hp⟩ := q'
    obtain ⟨g1, g2⟩ := hX.gl q1
    obtain ⟨pa, hs⟩ := (snd_cons ha snd_nil).args c X [y] hX (by
      show (chkE T a c y && true) = true
      rw [q2]
      rfl)
    have st := star_cons q2 [] X.env
    have hpl := hpl_of (pos := pos) (any_tail (hs _) st)
    refine tri ?_ (fun _ => rfl) (fun _ _ _ q => nomatch q)
    refine (pe_callB (cr_repr (hX.rp hp) hX.hu) g1 (hX.bts "repr" (by simpa using hm)) (by decide +kernel) pa (by decide) g2 st hpl).imp fun σ H Q ⟨G0, H0, G, ρ, r, S, e, k⟩ => ?_
    rw [ev] at e
    obtain ⟨d, e1, e2⟩ := Option.bind_eq_some_iff.mp e
    refine ⟨G0, H0, G, ρ, [d], S, by
      show ((ev φ a ρ).bind frz).bind _ = _
      rw [e1]
      rfl, fun vs G1 H1 w r1 => ?_⟩
    unfold drpr at e2
    split at e2
    · next ok =>
      cases e2
      obtain ⟨v, rfl, r2⟩ := reps1 r1
      refine ⟨G1, d, v, rfl, w.sub, r2, ok, ?_⟩
      refine k _ G1 H1 w (.fz ?_)
      unfold rprOk at ok
      simp only [Bool.and_eq_true, decide_eq_true_eq] at ok
      exact .str (rprT d) ok.2
    · cases e2
theorem snd_srs {a : E} (ha : Snd T φ a) : Snd T φ (.srs a) := by
  refine Snd.mk1 (fun _ _ => rfl) (fun _ _ => rfl) (fun _ _ _ => rfl) fun c X ex hX q => ?_
  cases ex <;> first | (cases q; done) | skip
  rename_i fn args kws pos
  match fn, args, kws, q with
  | .Name x p, [.Call (.Name y py) [z] [] pc], [], q =>
    have q' : (x == ("sorted" : Str) && glB c x && y == ("set" : Str) && glB c y && chkE T a c z && T.bts.contains "sorted" && T.bts.contains "set") = true := q
    simp only [Bool.and_eq_true, beq_iff_eq] at q'
    obtain ⟨⟨⟨⟨⟨⟨rfl, q1⟩, rfl⟩, q3⟩, q2⟩, hm⟩, hm2⟩ := q'
    obtain ⟨g1, g2⟩ := hX.gl q1
    obtain ⟨g3, g4⟩ := hX.gl q3
    obtain ⟨pa, hs⟩ := (snd_cons ha snd_nil).args c X [z] hX (by
      show (chkE T a c z && true) = true
      rw [q2]
      rfl)
    have st := star_cons q2 [] X.env
    have hpl := hpl_of (pos := pc) (any_tail (hs _) st)
    refine tri ?_ (fun _ => rfl) (fun _ _ _ q => nomatch q)
    have inner := pe_callTy (p := py) (cr_setOfI hX.calm) g3 (hX.bts "set" (by simpa using hm2)) (by decide +kernel) pa (by decide) g4 st hpl
    refine (pe_callB (cr_sortedSet hX.calm) g1 (hX.bts "sorted" (by simpa using hm)) (by decide +kernel) (pa_cons inner pa_nil) (by decide) g2).imp fun σ H Q ⟨G0, H0, G, ρ, r, S, e, k⟩ => ?_
    rw [ev] at e
    obtain ⟨d, e1, e2⟩ := Option.bind_eq_some_iff.mp e
    refine ⟨G0, H0, G, ρ, [d], S, by
      show ((ev φ a ρ).bind frz).bind _ = _
      rw [e1]
      rfl, fun vs G1 H1 w r1 => ?_⟩
    obtain ⟨v, rfl, r2⟩ := reps1 r1
    unfold dsrs at e2
    split at e2
    · obtain ⟨ns, e3, e4⟩ := Option.bind_eq_some_iff.mp e2
      split at e4
      · next few =>
        cases e4
        obtain ⟨l, rfl, h⟩ := rep_ints r2 e3 w.sub
        refine ⟨l, ns, rfl, h, few, fun p c hp hc => ?_⟩
        refine ⟨p, _, c, rfl, upd_same, by omega, fun ms p2 up mem len hn => ?_⟩
        have em : ms = srtS ns := up_eq up (up_srtS ns) fun j => by
          rw [mem_srtS, mem j, decide_eq_true_eq]
        subst em
        have w2 : Grow G H G1 (upd H1 p (SetO X.w p (fun j => decide (j ∈ ns)) c)) := w.trans ⟨w.sub, Same.refl _, same_upd hp, w.sub.trans (same_upd hp), fun _ x _ => x⟩
        refine new_lst w2.sub ?_ (Reps.ints _) (on w2 k) p2 hn
        rw [List.length_map, len, sizeLine_eq]
        omega
      · cases e4
    · cases e2
theorem sound (e : E) : Snd T φ e := by
  induction e with
  | var i => exact snd_var i
  | con d => exact snd_con d
  | glo x d => exact snd_glo x d
  | nil => exact snd_nil
  | cons a b ha hb => exact snd_cons ha hb
  | tup es h => exact snd_tup h
  | lst es h => exact snd_lst h
  | bin op a b ha hb => exact snd_bin op ha hb
  | neg a h => exact snd_neg h
  | band a b ha hb => exact snd_band ha hb
  | bor a b ha hb => exact snd_bor ha hb
  | bnot a h => exact snd_bnot h
  | cmp op a b ha hb => exact snd_cmp op ha hb
  | cmp2 op op' a b c ha hb hc => exact snd_cmp2 op op' ha hb hc
  | ite c a b hc ha hb => exact snd_ite hc ha hb
  | idx a b ha hb => exact snd_idx ha hb
  | slc a lo hi ha hl hh => exact snd_slc ha hl hh
  | rev a h => exact snd_rev h
  | call f es h => exact snd_call f h
  | blt f es h => exact snd_blt f h
  | gcd es h => exact snd_gcd h
  | isi a ty h => exact snd_isi ty h
  | met m a es ha hes => exact ⟨fun c X ex _ q => (by cases ex <;> cases q), fun c X es _ q => (nomatch q), fun c X es _ q => (nomatch q), fun c X t ex _ q => (by cases ex <;> cases q)⟩
  | lc tg it cnd elt h1 h2 h3 => exact snd_lc h1 h2 h3
  | lrg1 a h => exact snd_lrg1 h
  | lrg2 a b h1 h2 => exact snd_lrg2 h1 h2
  | srs a h => exact snd_srs h
  | rpr a h => exact snd_rpr h
  | rng es h => exact snd_rng h
  | enm a h => exact snd_enm h
  | zp a b ha hb => exact snd_zp ha hb
  | rvd a h => exact snd_rvd h
end
end PL
set_option Elab.async false
set_option linter.all false
set_option maxRecDepth 100000
namespace PL
open PySem PySem.Spec L2

/-! ### statements -/
inductive S where
  | pass
  | set (i : Nat) (e : E)
  | unp (is : List Nat) (e : E)
  | par (is : List Nat) (es : E)
  | aug (i : Nat) (op : Operator) (e : E)
  | app (i : Nat) (e : E)
  | sti (i : Nat) (k e : E)
  | ret (e : E) | retN
  | iff (c : E) (a b : S)
  | whl (c : E) (b : S)
  | fr (tg : Tg) (it : E) (b : S)
  | brk | ctn
  | nop | seq (a b : S)
inductive Out where
  | nx (ρ : Env) | brk (ρ : Env) | ctn (ρ : Env) | ret (r : R)
def fvs : E → List Nat
  | .var i => [i]
  | .con _ | .glo _ _ | .nil => []
  | .cons a b | .bin _ a b | .band a b | .bor a b | .cmp _ a b | .idx a b | .lrg2 a b | .zp a b => fvs a ++ fvs b
  | .tup a | .lst a | .neg a | .bnot a | .rev a | .call _ a | .blt _ a | .gcd a | .isi a _ | .lrg1 a | .srs a | .rpr a | .rng a | .enm a | .rvd a => fvs a
  | .cmp2 _ _ a b c | .ite a b c | .slc a b c | .lc _ a b c => fvs a ++ fvs b ++ fvs c
  | .met _ a b => fvs a ++ fvs b
def keepR (r : R) : Bool := scal r.1 || (match r with
  | (.lst xs, .top) => xs.all scal
  | _ => false)
def daug : Operator → D → D → Option D
  | .Add, .int i, .int j => some (.int (i + j))
  | .Sub, .int i, .int j => some (.int (i - j))
  | .Mult, .int i, .int j => if mulOk i j then some (.int (i * j)) else none
  | _, _, _ => none
def isRng : E → Bool
  | .rng _ => true
  | _ => false
section
variable (φ : String → List D → Option R) (fuel : Nat)
noncomputable def evF (e : E) (ρ : Env) : Option (R × Env) := (ev φ e (fzAt (fvs e) ρ)).map fun r => (r, if keepR r = true then ρ else fzAt (fvs e) ρ)
noncomputable def evTF (e : E) (ρ : Env) : Option Bool := tru (ev φ e (fzAt (fvs e) ρ))
def frGo (tgt : D → Env → Option Env) (body : Env → Option Out) : List D → Env → Option Out
  | [], ρ => some (.nx ρ)
  | y :: ys, ρ => (tgt y ρ).bind fun ρ1 => (body ρ1).bind fun o => match o with
    | .nx ρ2 => frGo tgt body ys ρ2
    | .ctn ρ2 => frGo tgt body ys ρ2
    | .brk ρ2 => some (.nx ρ2)
    | .ret r => some (.ret r)
def whGo (c : Env → Option Bool) (body : Env → Option Out) : Nat → Env → Option Out
  | 0, _ => none
  | n + 1, ρ => (c ρ).bind fun t => if t then (body ρ).bind fun o => match o with
    | .nx ρ2 => whGo c body n ρ2
    | .ctn ρ2 => whGo c body n ρ2
    | .brk ρ2 => some (.nx ρ2)
    | .ret r => some (.ret r) else some (.nx ρ)
def ownR (i : Nat) (ρ : Env) : Option (List D) := match ρ[i]? with
  | some (some (.lst xs, .top)) => some xs
  | _ => none
noncomputable def sx : S → Env → Option Out
  | .pass, ρ => some (.nx ρ)
  | .set i e, ρ => (evF φ e ρ).map fun p => .nx (p.2.set i (some p.1))
  | .unp is e, ρ => (evF φ e ρ).bind fun p => (frz p.1).bind fun d => (asg (.t is) d p.2).map .nx
  | .par is es, ρ => (evs φ es (fzAt (fvs es) ρ)).bind fun ds => (setAll is ds (fzAt (fvs es) ρ)).map .nx
  | .aug i op e, ρ => match ρ[i]? with
    | some (some (x, .fz)) => (evF φ e ρ).bind fun p => (frz p.1).bind fun y => (daug op x y).map fun z => .nx (p.2.set i (some (z, .fz)))
    | _ => none
  | .app i e, ρ => (evF φ e ρ).bind fun p => (ownR i p.2).bind fun xs => (frz p.1).bind fun d => if xs.length < sizeLine then some (.nx (p.2.set i (some (.lst (xs ++ [d]), .top)))) else none
  | .sti i k e, ρ => (evF φ e ρ).bind fun p => (ownR i p.2).bind fun xs => (frz p.1).bind fun d => (ev φ k (fzAt (fvs k) p.2)).bind fun q => match q with
    | (.int j, .fz) => (ixN xs.length j).map fun n => .nx (p.2.set i (some (.lst (xs.set n d), .top)))
    | _ => none
  | .ret e, ρ => match e with
    | .var i => match ρ[i]? with
      | some (some r) => some (.ret r)
      | _ => none
    | e => (evF φ e ρ).map fun p => .ret p.1
  | .retN, _ => some (.ret (.non, .fz))
  | .iff c a b, ρ => (evTF φ c ρ).bind fun t => if t then sx a ρ else sx b ρ
  | .whl c b, ρ => whGo (evTF φ c) (sx b) fuel ρ
  | .fr tg it b, ρ => (evi φ it (fzAt (fvs it) ρ)).bind fun ys => frGo (asg tg) (sx b) ys (if isRng it = true then ρ else fzAt (fvs it) ρ)
  | .brk, ρ => some (.brk ρ)
  | .ctn, ρ => some (.ctn ρ)
  | .nop, ρ => some (.nx ρ)
  | .seq a b, ρ => (sx a ρ).bind fun o => match o with
    | .nx ρ1 => sx b ρ1
    | o => some o
end

/-! ### the check -/
def isComp : Expr → Bool
  | .ListComp .. => true
  | .SetComp .. => true
  | .DictComp .. => true
  | _ => false
def swB (c : Ctxt) (x : Str) (px : Pos) : Expr → Bool
  | .ListComp _ _ scope lp => (match c.sc.names.lookup x with
    | some .local => true
    | _ => false) && px.line == lp.line && !(scope.names.any fun (n, k) => n == x && (k == .local || k == .cell))
  | _ => false
def cellB (c : Ctxt) (x : Str) : Bool := match c.sc.names.lookup x with
  | some .cell => true
  | _ => false
def isTupE : Expr → Bool
  | .Tuple .. => true
  | _ => false
section
variable (T : Tab)
mutual
def chk1 : S → Ctxt → Stmt → Bool
  | .pass, _, .Pass _ => true
  | .set i e, c, .Assign [.Name x px] v _ => locB c i x && chkE T e c v && (swB c x px v || cellB c x || !isComp v)
  | .unp is e, c, .Assign [.Tuple ts k tp] v _ => tgB c (.t is) (.Tuple ts k tp) && chkE T e c v && !isTupE v
  | .par [i, j] es, c, .Assign [.Tuple [.Name x px, .Name y py] _ _] (.Tuple [a, b] _ _) _ => (decide (c.N[i]? = some x) && decide (c.N[j]? = some y) && i != j && x != y) && (match c.sc.names.lookup x with
      | some .local => true
      | _ => false) && (match c.sc.names.lookup y with
      | some .local => true
      | _ => false) && py.line == px.line && chkA T es c [a, b] && !([a, b].all (foldedForSure 8)) && !([a, b].all (constantsAlone 8))
  | .aug i op e, c, .AugAssign (.Name x _) o v _ => locB c i x && o == op && chkE T e c v
  | .app i e, c, .Expr (.Call (.Attribute (.Name x _) m pa) [y] [] pc) _ => visB c i x && m == ("append" : Str) && pa.endLine == pc.line && chkE T e c y
  | .sti i k e, c, .Assign [.Subscript (.Name x _) y _] v _ => visB c i x && chkE T k c y && chkE T e c v && !isComp v
  | .ret e, c, .Return (some v) _ => chkE T e c v
  | .retN, _, .Return none _ => true
  | .iff k a b, c, .If t x y _ => chkE T k c t && chkS a c x && chkS b c y
  | .whl k b, c, .While t x [] _ => chkE T k c t && chkS b c x
  | .fr tg it b, c, .For t i x [] _ => chkI T it c t i && tgB c tg t && chkS b c x
  | .brk, _, .Break _ => true
  | .ctn, _, .Continue _ => true
  | _, _, _ => false
def chkS : S → Ctxt → List Stmt → Bool
  | .nop, _, [] => true
  | .seq a b, c, x :: xs => chk1 a c x && chkS b c xs
  | _, _, _ => false
end
end

/-! ### soundness -/
def Fin (K : PySem.W.Frag) (G0 H0 : Hp) (D : Ends) : Out → Prop
  | .nx ρ => ∀ σ G H, Sim K G0 H0 G H ρ σ → D.nx σ H
  | .brk ρ => ∀ σ G H, Sim K G0 H0 G H ρ σ → D.bk σ H
  | .ctn ρ => ∀ σ G H, Sim K G0 H0 G H ρ σ → D.ct σ H
  | .ret r => ∀ v G H, Bs G0 H0 G H → Res K G H0 H r v → D.rt v H
def RS (K : PySem.W.Frag) (f : Env → Option Out) : TS := fun D σ H => ∃ G0 H0 G ρ o, Sim K G0 H0 G H ρ σ ∧ f ρ = some o ∧ Fin K G0 H0 D o
def RF (K : PySem.W.Frag) (f : Env → Option (R × Env)) : TE := fun σ H Q => ∃ G0 H0 G ρ r ρ', Sim K G0 H0 G H ρ σ ∧ f ρ = some (r, ρ') ∧ ∀ v G' H', SimR K G0 H0 G' H' ρ' σ r v → Q v H'
section
variable {T : Tab} {φ : String → List D → Option R} {fuel : Nat} {c : Ctxt} {X : Cx}
theorem Reps.scal {K : PySem.W.Frag} {G G' : Hp} : ∀ {ds : List D} {vs : List V}, ds.all PL.scal = true → Reps K G ds vs → Reps K G' ds vs
  | [], _, _, .nil => .nil
  | d :: ds, _, h, .cons a b => by
    rw [List.all_cons, Bool.and_eq_true] at h
    exact .cons (a.scal h.1) (Reps.scal h.2 b)
theorem keep_res {K : PySem.W.Frag} {G G' H H' : Hp} {r : R} {v : V} (h : keepR r = true) (s : Same G H) (q : Res K G' H H' r v) : Res K G H H' r v := by
  obtain ⟨d, lv⟩ := r
  obtain ⟨as, o, ha⟩ := q
  unfold keepR at h
  rw [Bool.or_eq_true] at h
  cases lv with
  | fz =>
    rcases h with h | h
    · exact .fz (o.2.scal h)
    · cases d <;> cases h
  | top =>
    obtain ⟨p, xs, vs, e1, e2, e3, e4, e5, e6⟩ := o
    simp only at e1 e2
    subst e1 e2
    obtain ⟨g0, h0, h1⟩ := ha p (by rw [e3]; exact List.mem_cons_self)
    rcases h with h | h
    · cases h
    · exact .top h0 (same_none s h0) e4 e5 (e6.scal h)
  | dc =>
    obtain ⟨p, xs, ks, vs, e1, e2, _⟩ := o
    simp only at e1
    subst e1
    rcases h with h | h <;> cases h
theorem rf_rd {K : PySem.W.Frag} {e : E} {σ : St} {H : Hp} {Q : VK} (h : RF K (evF φ e) σ H Q) : RD K (ev φ e) σ H Q := by
  obtain ⟨G0, H0, G, ρ, r, ρ', S, e1, k⟩ := h
  obtain ⟨r', e2, e3⟩ := Option.map_eq_some_iff.mp e1
  obtain ⟨G1, S1⟩ := S.fzs (fvs e)
  refine ⟨G0, H0, G1, _, r', S1, e2, fun v G' H' w q => ?_⟩
  have e4 : r' = r := (Prod.mk.inj e3).1
  have e5 : (if keepR r' = true then ρ else fzAt (fvs e) ρ) = ρ' := (Prod.mk.inj e3).2
  subst e4
  by_cases hk : keepR r' = true
  · rw [if_pos hk] at e5
    subst e5
    exact k v G H' (S.res ⟨S.gr.sub, Same.refl _, w.h, S.gr.sub.trans w.h, fun _ x _ => x⟩ (keep_res hk S.gr.sub q))
  · rw [if_neg hk] at e5
    subst e5
    exact k v G' H' (S1.res w q)
theorem pe_f {e : E} {ex : Expr} (h : PE X ex (RD X.K (ev φ e))) : PE X ex (RF X.K (evF φ e)) := h.imp fun _ _ _ => rf_rd
theorem pt_f {e : E} {ex : Expr} (h : PT X ex (RT X.K (evT φ e))) : PT X ex (fun σ H Q => ∃ G0 H0 G ρ b, Sim X.K G0 H0 G H ρ σ ∧ evTF φ e ρ = some b ∧ ∀ H', Sim X.K G0 H0 G H' ρ σ → Q b H') := h.imp fun σ H Q ⟨G0, H0, G, ρ, b, S, e1, k⟩ => by
  obtain ⟨G1, S1⟩ := S.fzs (fvs e)
  exact ⟨G0, H0, G1, _, b, S1, e1, fun G' H' w => k H' (S.after w.h)⟩
/-- a result made known, where it stands -/
theorem SimR.frz {K : PySem.W.Frag} {G0 H0 G H : Hp} {ρ : Env} {σ : St} {r : R} {v : V} {d : D} (S : SimR K G0 H0 G H ρ σ r v) (e : PL.frz r = some d) : ∃ G', Sim K G0 H0 G' H ρ σ ∧ Rep K G' d v ∧ Same G G' := by
  obtain ⟨d', lv⟩ := r
  cases lv with
  | dc => cases e
  | fz =>
    cases e
    exact ⟨G, S.sim, S.res.of_fz, Same.refl _⟩
  | top =>
    cases e
    -- store it in one more slot, freeze that, forget it
    obtain ⟨gr, len, fp, as, h1, h2, h3, ⟨p, xs, vs, e1, e2, e3, e4, e5, e6⟩, h5, h6⟩ := S
    simp only at e1 e2
    subst e1 e2
    obtain ⟨g0, h0, hh⟩ := h5 p (by rw [e3]; exact List.mem_cons_self)
    have s : Same G (upd G p (.lst vs)) := same_upd g0
    refine ⟨upd G p (.lst vs), ⟨⟨gr.g.trans s, gr.h, fun b x e => ?_, fun b hb hq => ?_⟩, len, fp, fun i d lv e => ?_, fun i a ha => ?_, h3⟩, .lst upd_same e5 (e6.mono s), s⟩
    · by_cases hb : b = p
      · subst hb
        rw [upd_same] at e
        cases e
        exact e4
      · rw [upd_ne hb] at e
        exact gr.sub _ _ e
    · by_cases hbp : b = p
      · subst hbp
        exact absurd h0 hq
      · rw [upd_ne hbp] at hb
        exact gr.new b hb hq
    · obtain ⟨v, ev, o⟩ := h1 i d lv e
      exact ⟨v, ev, o.mono s fun a _ => rfl⟩
    · obtain ⟨q1, q2, q3⟩ := h2 i a ha
      refine ⟨?_, q2, q3⟩
      have hap : a ≠ p := fun z => h6 i a ha (by rw [e3, z]; exact List.mem_cons_self)
      rw [upd_ne hap]
      exact q1
end
end PL
set_option Elab.async false
set_option linter.all false
set_option maxRecDepth 100000
namespace PL
open PySem PySem.Spec L2

section
variable {K : PySem.W.Frag} {G0 H0 G H : Hp} {ρ : Env} {σ : St}
theorem ownR_some {i : Nat} {xs : List D} (h : ownR i ρ = some xs) : ρ[i]? = some (some (.lst xs, .top)) := by
  unfold ownR at h
  split at h
  · next e =>
    cases h
    exact e
  · cases h
theorem Sim.owned (S : Sim K G0 H0 G H ρ σ) {i : Nat} {xs : List D} (e : ρ[i]? = some (some (.lst xs, .top))) : ∃ p vs, σ[i]? = some (some (.ref p)) ∧ H p = some (.lst vs) ∧ xs.length ≤ sizeLine ∧ Reps K G xs vs ∧
    ∀ ys us, ys.length ≤ sizeLine → Reps K G ys us → Sim K G0 H0 G (upd H p (.lst us)) (ρ.set i (some (.lst ys, .top))) σ := by
  obtain ⟨gr, len, fp, h1, h2, h3⟩ := S
  obtain ⟨v, ev, p, xs', vs, e1, e2, e3, e4, e5, e6⟩ := h1 i _ _ e
  cases e1
  subst e2
  obtain ⟨g0, hh0, hh⟩ := h2 i p (by rw [e3]; exact List.mem_cons_self)
  refine ⟨p, vs, ev, e4, e5, e6, fun ys us hz r => ⟨⟨gr.g, fun b x q => ?_, fun b x q => ?_, gr.new⟩, by simpa using len, fp, fun j d lv ej => ?_, fun j a ha => ?_, h3⟩⟩
  · rw [upd_ne (ne_of_none q hh0)]
    exact gr.h _ _ q
  · rw [upd_ne (ne_of_none q g0)]
    exact gr.sub _ _ q
  · by_cases hj : j = i
    · subst hj
      have hl : j < ρ.length := (List.getElem?_eq_some_iff.mp e).1
      rw [List.getElem?_set_self hl] at ej
      cases ej
      exact ⟨_, ev, p, ys, us, rfl, rfl, e3, upd_same, hz, r⟩
    · rw [List.getElem?_set_ne (Ne.symm hj)] at ej
      obtain ⟨v', ev', o⟩ := h1 j d lv ej
      refine ⟨v', ev', o.mono (Same.refl _) fun a ha => upd_ne fun z => hj (h3 j i a ha ?_)⟩
      rw [e3, z]
      exact List.mem_cons_self
  · obtain ⟨q1, q2, q3⟩ := h2 j a ha
    refine ⟨q1, q2, ?_⟩
    by_cases hap : a = p
    · subst hap
      rw [upd_same]
      simp
    · rw [upd_ne hap]
      exact q3
end

section
variable {T : Tab} {φ : String → List D → Option R} {fuel : Nat} {c : Ctxt} {X : Cx}
structure Snd1 (T : Tab) (φ : String → List D → Option R) (fuel : Nat) (s : S) : Prop where
  one : ∀ (c : Ctxt) (X : Cx) (st : Stmt), XOk T φ c X → c.sc.kind = .function → chk1 T s c st = true → PS X st (RS X.K (sx φ fuel s))
  blk : ∀ (c : Ctxt) (X : Cx) (sts : List Stmt), XOk T φ c X → c.sc.kind = .function → chkS T s c sts = true → PSs X sts (RS X.K (sx φ fuel s))
theorem Snd1.mk1 {s : S} (hb : ∀ c sts, chkS T s c sts = false) (h : ∀ (c : Ctxt) (X : Cx) (st : Stmt), XOk T φ c X → c.sc.kind = .function → chk1 T s c st = true → PS X st (RS X.K (sx φ fuel s))) : Snd1 T φ fuel s :=
  ⟨h, fun c X sts _ _ q => (by rw [hb] at q; exact nomatch q)⟩
theorem s_pass : Snd1 T φ fuel .pass := by
  refine Snd1.mk1 (fun _ _ => rfl) fun c X st hX hk q => ?_
  cases st <;> first | (cases q; done) | skip
  refine ps_pass.imp fun D σ H ⟨G0, H0, G, ρ, o, S, e, k⟩ => ?_
  rw [sx] at e
  cases e
  exact k σ G H S
theorem s_brk : Snd1 T φ fuel .brk := by
  refine Snd1.mk1 (fun _ _ => rfl) fun c X st hX hk q => ?_
  cases st <;> first | (cases q; done) | skip
  refine ps_break.imp fun D σ H ⟨G0, H0, G, ρ, o, S, e, k⟩ => ?_
  rw [sx] at e
  cases e
  exact k σ G H S
theorem s_ctn : Snd1 T φ fuel .ctn := by
  refine Snd1.mk1 (fun _ _ => rfl) fun c X st hX hk q => ?_
  cases st <;> first | (cases q; done) | skip
  refine ps_continue.imp fun D σ H ⟨G0, H0, G, ρ, o, S, e, k⟩ => ?_
  rw [sx] at e
  cases e
  exact k σ G H S
theorem s_retN : Snd1 T φ fuel .retN := by
  refine Snd1.mk1 (fun _ _ => rfl) fun c X st hX hk q => ?_
  cases st <;> first | (cases q; done) | skip
  rename_i v p
  cases v <;> first | (cases q; done) | skip
  refine ps_retN.imp fun D σ H ⟨G0, H0, G, ρ, o, S, e, k⟩ => ?_
  rw [sx] at e
  cases e
  exact k .non G H S.gr (.fz .non)
theorem s_nop : Snd1 T φ fuel .nop := by
  refine ⟨fun c X st _ _ q => (by cases st <;> cases q), fun c X sts hX hk q => ?_⟩
  cases sts with
  | cons _ _ => cases q
  | nil =>
    refine pss_nil.imp fun D σ H ⟨G0, H0, G, ρ, o, S, e, k⟩ => ?_
    rw [sx] at e
    cases e
    exact k σ G H S
theorem s_seq {a b : S} (ha : Snd1 T φ fuel a) (hb : Snd1 T φ fuel b) : Snd1 T φ fuel (.seq a b) := by
  refine ⟨fun c X st _ _ q => (by cases st <;> cases q), fun c X sts hX hk q => ?_⟩
  cases sts with
  | nil => cases q
  | cons x xs =>
    have q' : (chk1 T a c x && chkS T b c xs) = true := q
    rw [Bool.and_eq_true] at q'
    refine (pss_cons (ha.one c X x hX hk q'.1) (hb.blk c X xs hX hk q'.2)).imp fun D σ H ⟨G0, H0, G, ρ, o, S, e, k⟩ => ?_
    rw [sx] at e
    obtain ⟨o1, e1, e2⟩ := Option.bind_eq_some_iff.mp e
    refine ⟨G0, H0, G, ρ, o1, S, e1, ?_⟩
    cases o1 with
    | nx ρ1 => exact fun σ' G' H' S' => ⟨G0, H0, G', ρ1, o, S', e2, k⟩
    | brk ρ1 =>
      cases e2
      exact k
    | ctn ρ1 =>
      cases e2
      exact k
    | ret r =>
      cases e2
      exact k
theorem s_ret (e : E) : Snd1 T φ fuel (.ret e) := by
  refine Snd1.mk1 (fun _ _ => rfl) fun c X st hX hk q => ?_
  cases st <;> first | (cases q; done) | skip
  rename_i v p
  cases v <;> first | (cases q; done) | skip
  rename_i ex
  have q' : chkE T e c ex = true := q
  have gen : ∀ {ρ : Env} {o : Out} {G0 H0 G H : Hp} {σ : St} {D : Ends}, (evF φ e ρ).map (fun p => Out.ret p.1) = some o → Sim X.K G0 H0 G H ρ σ → Fin X.K G0 H0 D o → tRet (RF X.K (evF φ e)) D σ H := by
    intro ρ o G0 H0 G H σ D e1 S k
    obtain ⟨⟨r, ρ'⟩, e2, rfl⟩ := Option.map_eq_some_iff.mp e1
    exact ⟨G0, H0, G, ρ, r, ρ', S, e2, fun v G' H' S' => k v G' H' S'.gr S'.res⟩
  have base := ps_ret (pos := p) (pe_f ((sound (T := T) (φ := φ) e).val c X ex hX q').1)
  cases e <;> first
    | (refine base.imp fun D σ H ⟨G0, H0, G, ρ, o, S, e1, k⟩ => gen (by simp only [sx] at e1; exact e1) S k)
    | skip
  rename_i i
  cases ex <;> first | (cases q'; done) | skip
  rename_i x px
  obtain ⟨h1, h2, h3, h4⟩ := hX.vis (show visB c i x = true from q')
  refine (ps_ret (pos := p) (pe_var h1 h2 h3 h4)).imp fun D σ H ⟨G0, H0, G, ρ, o, S, e1, k⟩ => ?_
  simp only [sx] at e1
  split at e1
  · next r e2 =>
    cases e1
    obtain ⟨v, ev, SR⟩ := S.move e2
    exact ⟨v, ev, k v G H SR.gr SR.res⟩
  · cases e1
theorem s_iff {k : E} {a b : S} (ha : Snd1 T φ fuel a) (hb : Snd1 T φ fuel b) : Snd1 T φ fuel (.iff k a b) := by
  refine Snd1.mk1 (fun _ _ => rfl) fun c X st hX hk q => ?_
  cases st <;> first | (cases q; done) | skip
  rename_i t x y p
  have q' : (chkE T k c t && chkS T a c x && chkS T b c y) = true := q
  simp only [Bool.and_eq_true] at q'
  obtain ⟨⟨q1, q2⟩, q3⟩ := q'
  refine (ps_if (pt_f ((sound (T := T) (φ := φ) k).val c X t hX q1).2.1) (ha.blk c X x hX hk q2) (hb.blk c X y hX hk q3)).imp fun D σ H ⟨G0, H0, G, ρ, o, S, e, kk⟩ => ?_
  rw [sx] at e
  obtain ⟨t, e1, e2⟩ := Option.bind_eq_some_iff.mp e
  refine ⟨G0, H0, G, ρ, t, S, e1, fun H' S' => ?_⟩
  cases t with
  | true => exact ⟨G0, H0, G, ρ, o, S', e2, kk⟩
  | false => exact ⟨G0, H0, G, ρ, o, S', e2, kk⟩

theorem kindOf_eq (hX : XOk T φ c X) (x : Str) : X.env.kindOf x = c.sc.names.lookup x := by
  show X.env.scope.names.lookup x = _
  rw [hX.sc]
theorem noSwap {e : E} {ex : Expr} (h : chkE T e c ex = true) (hn : isComp ex = false) (t : Option Expr) (l : Nat) (env : PySem.Env) : swapsWith ex t l env = pure false := by
  cases ex <;> first | (cases hn; done) | rfl
theorem swap_cell {x : Str} {px : Pos} {l : Nat} (hX : XOk T φ c X) (hc : cellB c x = true) {ex : Expr} : swapsWith ex (some (.Name x px)) l X.env = pure false := by
  have hk : (X.env.kindOf x == some .local) = false := by
    rw [kindOf_eq hX]
    unfold cellB at hc
    split at hc
    · next e => rw [e]; rfl
    · cases hc
  cases ex <;> first | rfl | skip
  all_goals (unfold swapsWith; simp [hk])
theorem lc_parts {tg : Tg} {it cnd elt : E} {el : Expr} {gens : List Comprehension} {scope : Scope} {pos : Pos} (q : chkE T (.lc tg it cnd elt) c (.ListComp el gens scope pos) = true) :
    ∃ t i ifs, gens = [⟨t, i, ifs, 0⟩] ∧ chkI T it c t i = true ∧ blkC c.N c.sc scope (ownOf c.N tg.own) = true ∧ tgB (blkCt c scope) tg t = true ∧ ((ifs = [] ∧ isTT cnd = true) ∨ ∃ p, ifs = [p] ∧ chkE T cnd (blkCt c scope) p = true) ∧ chkE T elt (blkCt c scope) el = true := by
  match gens, q with
  | [⟨t, i, [], a⟩], q =>
    have q' : (a == 0 && chkI T it c t i && blkC c.N c.sc scope (ownOf c.N tg.own) && tgB (blkCt c scope) tg t && isTT cnd && chkE T elt (blkCt c scope) el) = true := q
    simp only [Bool.and_eq_true, beq_iff_eq] at q'
    obtain ⟨⟨⟨⟨⟨rfl, q1⟩, q2⟩, q3⟩, q4⟩, q5⟩ := q'
    exact ⟨t, i, [], rfl, q1, q2, q3, .inl ⟨rfl, q4⟩, q5⟩
  | [⟨t, i, [p], a⟩], q =>
    have q' : (a == 0 && chkI T it c t i && blkC c.N c.sc scope (ownOf c.N tg.own) && tgB (blkCt c scope) tg t && chkE T cnd (blkCt c scope) p && chkE T elt (blkCt c scope) el) = true := q
    simp only [Bool.and_eq_true, beq_iff_eq] at q'
    obtain ⟨⟨⟨⟨⟨rfl, q1⟩, q2⟩, q3⟩, q4⟩, q5⟩ := q'
    exact ⟨t, i, [p], rfl, q1, q2, q3, .inr ⟨p, rfl, q4⟩, q5⟩
  | [⟨t, i, p :: p' :: ps, a⟩], q =>
    exfalso
    have q' : (a == 0 && chkI T it c t i && blkC c.N c.sc scope (ownOf c.N tg.own) && tgB (blkCt c scope) tg t && false && chkE T elt (blkCt c scope) el) = true := q
    simp at q'
theorem lc_pts {cnd : E} {ifs : List Expr} {scope : Scope} (hX : XOk T φ c X) (h : (ifs = [] ∧ isTT cnd = true) ∨ ∃ p, ifs = [p] ∧ chkE T cnd (blkCt c scope) p = true) :
    ∀ (s : Shared) (H : Hp) (C : Addr) (cl : List (Str × Addr)) (fp : List Addr), PTs (X.blk s H scope (compEnvC scope cl C X.env) fp) ifs (RT X.K (evT φ cnd)) := by
  intro s H C cl fp
  rcases h with ⟨rfl, h⟩ | ⟨p, rfl, h⟩
  · have := isTT_eq h
    subst this
    exact ⟨fun pins s σ H Q I ⟨G0, H0, G, ρ, b, S, e, k⟩ => pts_nil.run pins s σ H Q I (by
      rw [evT, ev] at e
      cases e
      exact k G H (Grow.refl S.gr.sub))⟩
  · exact pts_one ((sound (T := T) (φ := φ) cnd).val _ _ p (hX.blk s H scope C cl fp) h).2.1
theorem s_set (i : Nat) (e : E) : Snd1 T φ fuel (.set i e) := by
  refine Snd1.mk1 (fun _ _ => rfl) fun c X st hX hk q => ?_
  cases st <;> first | (cases q; done) | skip
  rename_i tgs v p
  match tgs, q with
  | [.Name x px], q =>
    have q' : (locB c i x && chkE T e c v && (swB c x px v || cellB c x || !isComp v)) = true := q
    simp only [Bool.and_eq_true] at q'
    obtain ⟨⟨q1, q2⟩, q3⟩ := q'
    obtain ⟨h1, h2, h3⟩ := hX.loc q1
    have nd : X.N.Nodup := by rw [hX.nm]; exact hX.nd
    have out : ∀ {G0 H0 G H : Hp} {ρ : Env} {σ : St} {o : Out} {D : Ends}, Sim X.K G0 H0 G H ρ σ → sx φ fuel (.set i e) ρ = some o → Fin X.K G0 H0 D o → RF X.K (evF φ e) σ H (fun x H1 => gName i x σ H1 D.nx) := by
      intro G0 H0 G H ρ σ o D S e1 k
      rw [sx] at e1
      obtain ⟨⟨r, ρ'⟩, e2, rfl⟩ := Option.map_eq_some_iff.mp e1
      exact ⟨G0, H0, G, ρ, r, ρ', S, e2, fun v G' H' S' => k _ G' H' (S'.store i)⟩
    have plain : swapsWith v (some (.Name x px)) p.line X.env = pure false → PS X (.Assign [.Name x px] v p) (RS X.K (sx φ fuel (.set i e))) := fun hs =>
      (ps_set nd h1 h2 (pe_f ((sound (T := T) (φ := φ) e).val c X v hX q2).1) hs h3).imp fun D σ H ⟨G0, H0, G, ρ, o, S, e1, k⟩ => out S e1 k
    rw [Bool.or_eq_true, Bool.or_eq_true] at q3
    rcases q3 with (q3 | q3) | q3
    · cases v <;> first | (cases q3; done) | skip
      rename_i el gens scope lp _
      have q3' : ((match c.sc.names.lookup x with
        | some .local => true
        | _ => false) && px.line == lp.line && !(scope.names.any fun (n, k) => n == x && (k == .local || k == .cell))) = true := q3
      simp only [Bool.and_eq_true, Bool.not_eq_true'] at q3'
      obtain ⟨⟨q4, q5⟩, q6⟩ := q3'
      have hl : X.env.scope.names.lookup x = some .local := by
        rw [hX.sc]
        split at q4
        · next e => exact e
        · cases q4
      have hsw : swapsWith (.ListComp el gens scope lp) (some (.Name x px)) p.line X.env = pure true := sw_true (by rw [hX.sc]; exact hk) hl q5 q6
      cases e <;> first | (cases q2; done) | skip
      rename_i tg it cnd elt _
      obtain ⟨t, ii, ifs, rfl, c1, c2, c3, c4, c5⟩ := lc_parts q2
      obtain ⟨pi, hs⟩ := (sound (T := T) (φ := φ) it).iter c X t ii hX c1
      have ok : BlkOk X.N X.env.scope scope (ownOf c.N tg.own) := by
        rw [hX.nm, hX.sc]
        exact blkOk_by c2
      exact (ps_setLc (g := tgG X.K tg) (tt := RT X.K (evT φ cnd)) (te := RZ X.K fun ρ => (ev φ elt ρ).bind PL.frz) hX.calm nd h1 hl hsw pi ok (fun s H C cl fp => tg_pg (hX.blk s H scope C cl fp) c3) (lc_pts hX c4)
        (fun s H C cl fp => ((sound (T := T) (φ := φ) elt).val _ _ el (hX.blk s H scope C cl fp) c5).1.z) hs).imp fun D σ H ⟨G0, H0, G, ρ, o, S, e1, k⟩ => lc_read (rf_rd (out S e1 k))
    · exact plain (swap_cell hX q3)
    · exact plain (noSwap q2 (by simpa using q3) _ _ _)

theorem swapsSole {ex : Expr} (h : isComp ex = false) (t : Expr) (l : Nat) (env : PySem.Env) : swapsWithSole [t] ex l env = pure false := by
  cases ex <;> first | (cases h; done) | rfl
theorem swapsTup {ex : Expr} {ts : List Expr} {k : Nat} {tp : Pos} (l : Nat) (env : PySem.Env) : swapsWithSole [.Tuple ts k tp] ex l env = pure false := by
  cases ex <;> rfl
theorem swappedNone {ex : Expr} (h : isTupE ex = false) (ts : List Expr) (env : PySem.Env) : swappedStores ts ex env = pure none := by
  cases ex <;> first | (cases h; done) | skip
  all_goals
    unfold swappedStores
    cases ts with
    | nil => rfl
    | cons t ts =>
      cases ts with
      | nil => cases t <;> rfl
      | cons _ _ => cases t <;> rfl
theorem s_unp (is : List Nat) (e : E) : Snd1 T φ fuel (.unp is e) := by
  refine Snd1.mk1 (fun _ _ => rfl) fun c X st hX hk q => ?_
  cases st <;> first | (cases q; done) | skip
  rename_i tgs v p
  match tgs, q with
  | [.Tuple ts kk tp], q =>
    have q' : (tgB c (.t is) (.Tuple ts kk tp) && chkE T e c v && !isTupE v) = true := q
    simp only [Bool.and_eq_true, Bool.not_eq_true'] at q'
    obtain ⟨⟨q1, q2⟩, q3⟩ := q'
    refine (ps_asg (pe_f ((sound (T := T) (φ := φ) e).val c X v hX q2).1) (tg_pg hX q1) (swapsTup _ _) (swappedNone q3 _ _) (by rfl)).imp fun D σ H ⟨G0, H0, G, ρ, o, S, e1, k⟩ => ?_
    rw [sx] at e1
    obtain ⟨⟨r, ρ'⟩, e2, e1⟩ := Option.bind_eq_some_iff.mp e1
    obtain ⟨d, e3, e1⟩ := Option.bind_eq_some_iff.mp e1
    obtain ⟨ρ2, e4, rfl⟩ := Option.map_eq_some_iff.mp e1
    refine ⟨G0, H0, G, ρ, r, ρ', S, e2, fun v G' H' S' => ?_⟩
    obtain ⟨G2, S2, r2, _⟩ := S'.frz e3
    exact tg_set S2 r2 e4 (agree_refl _ σ) fun σ' S3 _ => k σ' G2 H' S3
theorem daug_cases {op : Operator} {x y z : D} (h : daug op x y = some z) : ∃ i j, x = .int i ∧ y = .int j ∧ ((op = .Add ∧ z = .int (i + j)) ∨ (op = .Sub ∧ z = .int (i - j)) ∨ (op = .Mult ∧ mulOk i j = true ∧ z = .int (i * j))) := by
  unfold daug at h
  split at h
  · cases h
    exact ⟨_, _, rfl, rfl, .inl ⟨rfl, rfl⟩⟩
  · cases h
    exact ⟨_, _, rfl, rfl, .inr (.inl ⟨rfl, rfl⟩)⟩
  · split at h
    · next hz =>
      cases h
      exact ⟨_, _, rfl, rfl, .inr (.inr ⟨rfl, hz, rfl⟩)⟩
    · cases h
  · cases h
theorem iop_mulW : OpR X (inplaceOp .Mult) (rI CMulW fun i j => .int (i * j)) := opI fun _ _ _ _ _ _ _ hc q => PyProof.Rows.imul_int q hc.ok
theorem s_aug (i : Nat) (op : Operator) (e : E) : Snd1 T φ fuel (.aug i op e) := by
  refine Snd1.mk1 (fun _ _ => rfl) fun c X st hX hk q => ?_
  cases st <;> first | (cases q; done) | skip
  rename_i t o v p
  cases t <;> first | (cases q; done) | skip
  rename_i x px
  have q' : (locB c i x && o == op && chkE T e c v) = true := q
  simp only [Bool.and_eq_true, beq_iff_eq] at q'
  obtain ⟨⟨q1, rfl⟩, q2⟩ := q'
  obtain ⟨h1, h2, h3⟩ := hX.loc q1
  have nd : X.N.Nodup := by rw [hX.nm]; exact hX.nd
  have pe := pe_f ((sound (T := T) (φ := φ) e).val c X v hX q2).1
  refine ⟨fun pins s σ H D I ⟨G0, H0, G, ρ, o', S, e1, k⟩ => ?_⟩
  rw [sx] at e1
  split at e1
  · next d ed =>
    obtain ⟨⟨r, ρ'⟩, e2, e1⟩ := Option.bind_eq_some_iff.mp e1
    obtain ⟨y, e3, e1⟩ := Option.bind_eq_some_iff.mp e1
    obtain ⟨z, e4, rfl⟩ := Option.map_eq_some_iff.mp e1
    obtain ⟨u, eu, ru⟩ := S.var ed
    obtain ⟨m, n, rfl, rfl, ho⟩ := daug_cases e4
    have run : ∀ {ti : TIp}, PIp X o ti → (∀ {H : Hp} {Q : VK}, (∀ v, (∀ G, Rep X.K G z v) → Q v H) → ti (.int m) (.int n) H Q) → wpAny (model X.prog X.w) X.A (exec (.AugAssign (.Name x px) o v p) X.env) (SP X pins D) X.xe s := by
      intro ti hp hr
      refine (ps_aug nd h1 h2 pe hp h3).run pins s σ H D I ⟨u, eu, G0, H0, G, ρ, r, ρ', S, e2, fun w G' H' S' => ?_⟩
      obtain ⟨G2, S2, r2, _⟩ := S'.frz e3
      rw [rep_int ru, rep_int r2]
      exact hr fun v' rz => k _ G2 H' (S2.put (rz G2) i)
    rcases ho with ⟨rfl, rfl⟩ | ⟨rfl, rfl⟩ | ⟨rfl, hz, rfl⟩
    · exact run ip_add fun kk => ⟨_, _, rfl, rfl, kk _ fun _ => .int _⟩
    · exact run ip_sub fun kk => ⟨_, _, rfl, rfl, kk _ fun _ => .int _⟩
    · rcases cmul_of hz with hc | hc
      · exact run (ti := rI CMul fun i j => .int (i * j)) iop_mul fun kk => ⟨_, _, rfl, rfl, hc, kk _ fun _ => .int _⟩
      · exact run (ti := rI CMulW fun i j => .int (i * j)) iop_mulW fun kk => ⟨_, _, rfl, rfl, hc, kk _ fun _ => .int _⟩
  · cases e1

theorem fz_owned {j : Nat} {d : D} : ∀ {is : List Nat} {ρ : Env}, (fzAt is ρ)[j]? = some (some (d, .top)) → ρ[j]? = some (some (d, .top)) := by
  intro is
  induction is with
  | nil => exact fun h => h
  | cons i is ih =>
    intro ρ h
    have h' : (fzAt is (match ρ[i]? with
      | some (some r) => ρ.set i (some (frz1 r))
      | _ => ρ))[j]? = some (some (d, .top)) := h
    have h2 := ih h'
    split at h2
    · next r e =>
      by_cases hij : i = j
      · subst hij
        have hl : i < ρ.length := (List.getElem?_eq_some_iff.mp e).1
        rw [List.getElem?_set_self hl] at h2
        obtain ⟨d', lv⟩ := r
        cases lv <;> cases h2
      · rw [List.getElem?_set_ne hij] at h2
        exact h2
    · exact h2
theorem evF_owned {e : E} {ρ ρ' : Env} {r : R} {j : Nat} {d : D} (h : evF φ e ρ = some (r, ρ')) (o : ρ'[j]? = some (some (d, .top))) : ρ[j]? = some (some (d, .top)) := by
  obtain ⟨r', _, e2⟩ := Option.map_eq_some_iff.mp h
  have e5 : (if keepR r' = true then ρ else fzAt (fvs e) ρ) = ρ' := (Prod.mk.inj e2).2
  split at e5
  · rw [e5]
    exact o
  · subst e5
    exact fz_owned o
theorem s_app (i : Nat) (e : E) : Snd1 T φ fuel (.app i e) := by
  refine Snd1.mk1 (fun _ _ => rfl) fun c X st hX hk q => ?_
  cases st <;> first | (cases q; done) | skip
  rename_i v p
  match v, q with
  | .Call (.Attribute (.Name x px) m pa) [y] [] pc, q =>
    have q' : (visB c i x && m == ("append" : Str) && pa.endLine == pc.line && chkE T e c y) = true := q
    simp only [Bool.and_eq_true] at q'
    obtain ⟨⟨⟨q1, qm⟩, ql⟩, q2⟩ := q'
    have qm := eq_of_beq qm
    subst qm
    obtain ⟨h1, h2, h3, h4⟩ := hX.vis q1
    have pe := pe_f ((sound (T := T) (φ := φ) e).val c X y hX q2).1
    have st := star_cons q2 [] X.env
    refine (ps_expr (pe_bm PySem.F.plainAttrs_list PySem.F.slot_list_append PySem.F.type_list_append mt_append (pe_var h1 h2 h3 h4) (pa_cons pe pa_nil st) (by rfl) (by rw [st]; rfl) ql st (by rfl)) (by rfl)).imp fun D σ H ⟨G0, H0, G, ρ, o, S, e1, k⟩ => ?_
    rw [sx] at e1
    obtain ⟨⟨r, ρ'⟩, e2, e1⟩ := Option.bind_eq_some_iff.mp e1
    obtain ⟨xs, e3, e1⟩ := Option.bind_eq_some_iff.mp e1
    obtain ⟨d, e4, e1⟩ := Option.bind_eq_some_iff.mp e1
    split at e1
    · next hz =>
      cases e1
      have ei := ownR_some e3
      obtain ⟨p0, vs0, ev0, hp0, _⟩ := S.owned (evF_owned e2 ei)
      refine ⟨_, ev0, .inl ⟨rfl, vs0, .inl (.inl hp0)⟩, G0, H0, G, ρ, r, ρ', S, e2, fun v' G' H' S' => ?_⟩
      obtain ⟨G2, S2, r2, _⟩ := S'.frz e4
      obtain ⟨p1, vs, ev1, hp, hl, rs, upd⟩ := S2.owned ei
      rw [ev0] at ev1
      cases ev1
      refine ⟨p0, vs, v', rfl, rfl, hp, by rw [← rs.length]; exact hz, ?_⟩
      exact k _ G2 _ (upd _ _ (by rw [List.length_append]; exact hz) (rs.append (.cons r2 .nil)))
    · cases e1
theorem s_sti (i : Nat) (kx e : E) : Snd1 T φ fuel (.sti i kx e) := by
  refine Snd1.mk1 (fun _ _ => rfl) fun c X st hX hk q => ?_
  cases st <;> first | (cases q; done) | skip
  rename_i tgs v p
  match tgs, q with
  | [.Subscript (.Name x px) y ps], q =>
    have q' : (visB c i x && chkE T kx c y && chkE T e c v && !isComp v) = true := q
    simp only [Bool.and_eq_true, Bool.not_eq_true'] at q'
    obtain ⟨⟨⟨q1, q2⟩, q3⟩, q4⟩ := q'
    obtain ⟨h1, h2, h3, h4⟩ := hX.vis q1
    have pe := pe_f ((sound (T := T) (φ := φ) e).val c X v hX q3).1
    have pk := ((sound (T := T) (φ := φ) kx).val c X y hX q2).1
    have ha : ∀ u, assign (.Subscript (.Name x px) y ps) X.env u = (do
      let ov ← holding [u] (eval (.Name x px) X.env)
      let iv ← holding [u, ov] (eval y X.env)
      standAt ps
      holding [u, ov, iv] (setItem ov iv u)
      release [u, ov, iv] []) := by
      intro u
      clear pk
      cases y <;> first
        | rfl
        | (exfalso
           rw [noSlice] at q2
           cases q2)
    have sw2 : swappedStores [.Subscript (.Name x px) y ps] v X.env = pure none := by
      unfold swappedStores
      cases v <;> rfl
    refine (ps_asg pe (pg_sub (pe_var h1 h2 h3 h4) pk set_list ha) (swapsSole q4 _ _ _) sw2 (by rfl)).imp fun D σ H ⟨G0, H0, G, ρ, o, S, e1, k⟩ => ?_
    rw [sx] at e1
    obtain ⟨⟨r, ρ'⟩, e2, e1⟩ := Option.bind_eq_some_iff.mp e1
    obtain ⟨xs, e3, e1⟩ := Option.bind_eq_some_iff.mp e1
    obtain ⟨d, e4, e1⟩ := Option.bind_eq_some_iff.mp e1
    obtain ⟨⟨qd, ql⟩, e5, e1⟩ := Option.bind_eq_some_iff.mp e1
    split at e1
    · next j e6 =>
      obtain ⟨n, e7, rfl⟩ := Option.map_eq_some_iff.mp e1
      have e6' : qd = .int j ∧ ql = .fz := Prod.mk.inj e6
      obtain ⟨rfl, rfl⟩ := e6'
      have ei := ownR_some e3
      refine ⟨G0, H0, G, ρ, r, ρ', S, e2, fun v' G' H' S' => ?_⟩
      obtain ⟨G2, S2, r2, _⟩ := S'.frz e4
      obtain ⟨p1, vs, ev1, hp, hl, rs, upd⟩ := S2.owned ei
      obtain ⟨G3, S3⟩ := S2.fzs (fvs kx)
      refine ⟨_, ev1, G0, H0, G3, _, _, S3, e5, fun w G4 H4 w4 q => ?_⟩
      have S4 := S2.after w4.h
      obtain ⟨p2, vs2, ev2, hp2, hl2, rs2, upd2⟩ := S4.owned ei
      rw [ev1] at ev2
      cases ev2
      refine ⟨p1, vs2, j, n, rfl, rep_int q.of_fz, hp2, by rw [← rs2.length]; exact e7, ?_⟩
      exact k _ G2 _ (upd2 _ _ (by rw [List.length_set]; exact hl2) (Reps.set r2 n rs2))
    · cases e1

/-! ### loops -/
theorem s_whl {k : E} {b : S} (hb : Snd1 T φ fuel b) : Snd1 T φ fuel (.whl k b) := by
  refine Snd1.mk1 (fun _ _ => rfl) fun c X st hX hk q => ?_
  cases st <;> first | (cases q; done) | skip
  rename_i t x el p
  cases el <;> first | (cases q; done) | skip
  have q' : (chkE T k c t && chkS T b c x) = true := q
  rw [Bool.and_eq_true] at q'
  have hp : PassesOwn (model X.prog X.w) X.A X.env X.xe := by
    rw [hX.xe]
    exact PassesOwn.never
  refine (ps_while hp (pt_f ((sound (T := T) (φ := φ) k).val c X t hX q'.1).2.1) (hb.blk c X x hX hk q'.2)).imp fun D σ H ⟨G0, H0, G, ρ, o, S, e, kk⟩ => ?_
  rw [sx] at e
  refine ⟨fun n σ H => ∃ G ρ, Sim X.K G0 H0 G H ρ σ ∧ whGo (evTF φ k) (sx φ fuel b) n ρ = some o, ⟨fuel, G, ρ, S, e⟩, fun n σ H ⟨G, ρ, S, e⟩ => ?_⟩
  cases n with
  | zero => cases e
  | succ n =>
    unfold whGo at e
    obtain ⟨t, e1, e2⟩ := Option.bind_eq_some_iff.mp e
    refine ⟨G0, H0, G, ρ, t, S, e1, fun H' S' => ?_⟩
    cases t with
    | false =>
      cases e2
      exact kk σ G H' S'
    | true =>
      obtain ⟨o1, e3, e4⟩ := Option.bind_eq_some_iff.mp e2
      refine ⟨fun σ H => ∃ G ρ, Sim X.K G0 H0 G H ρ σ ∧ whGo (evTF φ k) (sx φ fuel b) n ρ = some o, fun σ' H' h => ⟨n, Nat.lt_succ_self n, h⟩, G0, H0, G, ρ, o1, S', e3, ?_⟩
      cases o1 with
      | nx ρ2 => exact fun σ2 G2 H2 S2 => ⟨G2, ρ2, S2, e4⟩
      | ctn ρ2 => exact fun σ2 G2 H2 S2 => ⟨G2, ρ2, S2, e4⟩
      | brk ρ2 =>
        cases e4
        exact kk
      | ret r =>
        cases e4
        exact kk
/-- range(..): its walk asks nothing of the heap -/
def RIr (K : PySem.W.Frag) (f : Env → Option (List D)) : TI := fun σ H R => ∃ G0 H0 G ρ ys, Sim K G0 H0 G H ρ σ ∧ f ρ = some ys ∧ ∀ J H', Same H H' → (∀ G, Wk K G J ys) → R J H'
theorem rng_iter {es : E} {tg ex : Expr} (hX : XOk T φ c X) (q : chkI T (.rng es) c tg ex = true) : PI X tg ex (RIr X.K (evi φ (.rng es))) ∧ ∀ x, foldedSetIterable ex X.env x = pure x := by
  have he := sound (T := T) (φ := φ) es
  cases ex <;> first | (cases q; done) | skip
  rename_i fn args kws pos
  match fn, args, kws, q with
  | .Name x p, [y], [], q =>
    have q' : (x == ("range" : Str) && glB c x && chkA T es c [y] && T.bts.contains "range") = true := q
    simp only [Bool.and_eq_true, beq_iff_eq] at q'
    obtain ⟨⟨⟨rfl, q1⟩, q2⟩, q3⟩ := q'
    obtain ⟨g1, g2⟩ := hX.gl q1
    have hm := hX.bts "range" (by simpa using q3)
    obtain ⟨pa, hs⟩ := he.args c X _ hX q2
    obtain ⟨_, _, qy⟩ := chkA_one q2
    refine ⟨(pi_range1 g1 hm pa (star_cons qy [] X.env)).imp fun σ H Q ⟨G0, H0, G, ρ, ys, S, e, k⟩ => ?_, fun _ => rfl⟩
    rw [evi] at e
    obtain ⟨ds, e1, e⟩ := Option.bind_eq_some_iff.mp e
    obtain ⟨xs, e2, e⟩ := Option.bind_eq_some_iff.mp e
    split at e
    · next hz =>
      cases e
      refine ⟨G0, H0, G, ρ, ds, S, e1, fun vs G1 H1 w r1 => ?_⟩
      rcases rangeD_cases e2 with ⟨j, rfl, hb, rfl⟩ | ⟨i, j, rfl, _, _⟩
      · obtain ⟨v, rfl, r2⟩ := reps1 r1
        refine ⟨j, by rw [rep_int r2], hb.1, hb.2, k _ H1 w.h fun G => ?_⟩
        rw [show (j - 0).toNat = j.toNat by rw [Int.sub_zero]]
        rw [List.length_map, List.length_range] at hz
        rw [Int.sub_zero] at hz
        exact wk_range 0 j.toNat hz
      · exact absurd (evs_len q2 e1) (by simp)
    · cases e
  | .Name x p, [y, y'], [], q =>
    have q' : (x == ("range" : Str) && glB c x && chkA T es c [y, y'] && T.bts.contains "range") = true := q
    simp only [Bool.and_eq_true, beq_iff_eq] at q'
    obtain ⟨⟨⟨rfl, q1⟩, q2⟩, q3⟩ := q'
    obtain ⟨g1, g2⟩ := hX.gl q1
    have hm := hX.bts "range" (by simpa using q3)
    obtain ⟨pa, hs⟩ := he.args c X _ hX q2
    obtain ⟨_, _, _, qy, qz⟩ := chkA_two q2
    refine ⟨(pi_range2 g1 hm pa (by rw [star_cons qy, star_cons qz]; rfl) (star_cons qz [] X.env)).imp fun σ H Q ⟨G0, H0, G, ρ, ys, S, e, k⟩ => ?_, fun _ => rfl⟩
    rw [evi] at e
    obtain ⟨ds, e1, e⟩ := Option.bind_eq_some_iff.mp e
    obtain ⟨xs, e2, e⟩ := Option.bind_eq_some_iff.mp e
    split at e
    · next hz =>
      cases e
      refine ⟨G0, H0, G, ρ, ds, S, e1, fun vs G1 H1 w r1 => ?_⟩
      rcases rangeD_cases e2 with ⟨j, rfl, hb, rfl⟩ | ⟨i, j, rfl, hb, rfl⟩
      · exact absurd (evs_len q2 e1) (by simp)
      · obtain ⟨v, v', rfl, r2, r3⟩ := reps2 r1
        refine ⟨i, j, by rw [rep_int r2, rep_int r3], hb, k _ H1 w.h fun G => ?_⟩
        rw [List.length_map, List.length_range] at hz
        exact wk_range i _ hz
    · cases e
/-- another beginning -/
theorem Sim.rebase {K : PySem.W.Frag} {G0 H0 G H Gw : Hp} {ρ : Env} {σ : St} (S : Sim K G0 H0 G H ρ σ) (a : Same G0 Gw) (b : Same Gw G) : Sim K Gw H0 G H ρ σ :=
  ⟨⟨b, S.gr.h, S.gr.sub, fun p h1 h2 => PL.Same.ne a (S.gr.new p h1 h2)⟩, S.len, S.fp⟩
theorem Sim.unbase {K : PySem.W.Frag} {G0 H0 G H Gw : Hp} {ρ : Env} {σ : St} (S : Sim K Gw H0 G H ρ σ) (a : Same G0 Gw) (n : ∀ p, Gw p ≠ none → H0 p ≠ none → G0 p ≠ none) : Sim K G0 H0 G H ρ σ :=
  ⟨⟨a.trans S.gr.g, S.gr.h, S.gr.sub, fun p h1 h2 => n p (S.gr.new p h1 h2) h2⟩, S.len, S.fp⟩
theorem Fin.rebase {K : PySem.W.Frag} {G0 H0 Gw : Hp} {D : Ends} {o : Out} (f : Fin K G0 H0 D o) (a : Same G0 Gw) (n : ∀ p, Gw p ≠ none → H0 p ≠ none → G0 p ≠ none) : Fin K Gw H0 D o := by
  cases o with
  | nx ρ => exact fun σ G H S => f σ G H (S.unbase a n)
  | brk ρ => exact fun σ G H S => f σ G H (S.unbase a n)
  | ctn ρ => exact fun σ G H S => f σ G H (S.unbase a n)
  | ret r => exact fun v G H b q => f v G H ⟨a.trans b.g, b.h, b.sub, fun p h1 h2 => n p (b.new p h1 h2) h2⟩ q
/-- the loop, from where its walk has begun -/
theorem for_run {tg : Tg} {b : S} {J : It} {ys : List D} {G0 H0 G H : Hp} {ρ : Env} {σ : St} {o : Out} {D : Ends} {K : PySem.W.Frag} (wk : Wk K G0 J ys) (S : Sim K G0 H0 G H ρ σ) (e : frGo (asg tg) (sx φ fuel b) ys ρ = some o) (kk : Fin K G0 H0 D o) :
    ∃ W : Nat → Nat → St → Hp → Prop, (∃ m, W 0 m σ H) ∧ ∀ i m σ H, W i m σ H →
      (J.stop i H ∧ D.nx σ H) ∨ (J.go i H ∧ ∃ N : St → Hp → Prop, (∀ σ' H', N σ' H' → ∃ m', m' < m ∧ W (i + 1) m' σ' H') ∧ ∀ x H', J.yld i H x H' → tgG K tg x σ H' fun σ2 H2 => RS K (sx φ fuel b) { D with nx := N, ct := N, bk := D.nx } σ2 H2) := by
  obtain ⟨hz, Y, w, hY⟩ := wk
  refine ⟨fun i m σ H => m = ys.length - i ∧ i ≤ ys.length ∧ ∃ G ρ, Sim K G0 H0 G H ρ σ ∧ frGo (asg tg) (sx φ fuel b) (ys.drop i) ρ = some o, ⟨ys.length, by simp, Nat.zero_le _, G, ρ, S, by rw [List.drop_zero]; exact e⟩, ?_⟩
  rintro i m σ H ⟨rfl, hi, G, ρ, S, e⟩
  have sw := S.gr.g
  by_cases hlt : i < ys.length
  · refine .inr ⟨w.goes i H hlt (sw.trans S.gr.sub), fun σ' H' => ∃ G ρ, Sim K G0 H0 G H' ρ σ' ∧ frGo (asg tg) (sx φ fuel b) (ys.drop (i + 1)) ρ = some o, fun σ' H' h => ⟨ys.length - (i + 1), by omega, rfl, hlt, h⟩, fun x H' y => ?_⟩
    obtain ⟨d, ed, hyy⟩ := hY i H x H' hlt (sw.trans S.gr.sub) (w.yields i H x H' hlt (sw.trans S.gr.sub) y)
    obtain ⟨G2, w2, r2⟩ := hyy G sw S.gr.sub
    have edrop : ys.drop i = d :: ys.drop (i + 1) := by
      rw [List.drop_eq_getElem_cons hlt]
      rw [List.getElem?_eq_getElem hlt] at ed
      rw [Option.some.inj ed]
    rw [edrop] at e
    unfold frGo at e
    obtain ⟨ρ1, e1, e⟩ := Option.bind_eq_some_iff.mp e
    obtain ⟨o1, e2, e⟩ := Option.bind_eq_some_iff.mp e
    refine tg_set (S.grow w2) r2 e1 (agree_refl _ σ) fun σ3 S3 _ => ?_
    refine ⟨G0, H0, G2, ρ1, o1, S3, e2, ?_⟩
    cases o1 with
    | nx ρ2 => exact fun σ4 G4 H4 S4 => ⟨G4, ρ2, S4, e⟩
    | ctn ρ2 => exact fun σ4 G4 H4 S4 => ⟨G4, ρ2, S4, e⟩
    | brk ρ2 =>
      cases e
      exact kk
    | ret r =>
      cases e
      exact kk
  · have ei : i = ys.length := by omega
    subst ei
    rw [List.drop_length] at e
    unfold frGo at e
    cases e
    exact .inl ⟨w.stops H (sw.trans S.gr.sub), kk σ G H S⟩
theorem s_fr {tg : Tg} {it : E} {b : S} (hb : Snd1 T φ fuel b) : Snd1 T φ fuel (.fr tg it b) := by
  refine Snd1.mk1 (fun _ _ => rfl) fun c X st hX hk q => ?_
  cases st <;> first | (cases q; done) | skip
  rename_i t i x el p
  cases el <;> first | (cases q; done) | skip
  have q' : (chkI T it c t i && tgB c tg t && chkS T b c x) = true := q
  simp only [Bool.and_eq_true] at q'
  obtain ⟨⟨q1, q2⟩, q3⟩ := q'
  have hp : PassesOwn (model X.prog X.w) X.A X.env X.xe := by
    rw [hX.xe]
    exact PassesOwn.never
  have pg := tg_pg hX q2
  have pb := hb.blk c X x hX hk q3
  by_cases hr : isRng it = true
  · have : ∃ es, it = .rng es := by
      cases it <;> first | (cases hr; done) | exact ⟨_, rfl⟩
    obtain ⟨es, rfl⟩ := this
    obtain ⟨pi, hs⟩ := rng_iter hX q1
    refine (ps_for hp hX.calm pi pg pb hs).imp fun D σ H ⟨G0, H0, G, ρ, o, S, e, kk⟩ => ?_
    rw [sx] at e
    obtain ⟨ys, e1, e2⟩ := Option.bind_eq_some_iff.mp e
    rw [if_pos hr] at e2
    obtain ⟨G1, S1⟩ := S.fzs (fvs (.rng es))
    exact ⟨G0, H0, G1, _, ys, S1, e1, fun J H' sm wk => for_run (wk G0) (S.after sm) e2 kk⟩
  · obtain ⟨pi, hs⟩ := (sound (T := T) (φ := φ) it).iter c X t i hX q1
    refine (ps_for hp hX.calm pi pg pb hs).imp fun D σ H ⟨G0, H0, G, ρ, o, S, e, kk⟩ => ?_
    rw [sx] at e
    obtain ⟨ys, e1, e2⟩ := Option.bind_eq_some_iff.mp e
    rw [if_neg hr] at e2
    obtain ⟨G1, S1⟩ := S.fzs (fvs it)
    refine ⟨G0, H0, G1, _, ys, S1, e1, fun J G2 H2 w wk => ?_⟩
    have S2 := S1.grow w
    exact for_run wk (S2.rebase S2.gr.g (Same.refl _)) e2 (kk.rebase S2.gr.g S2.gr.new)

def isStar : Expr → Bool
  | .Starred .. => true
  | _ => false
theorem swap2 {x y : Str} {px py p1 p2 : Pos} {k1 k2 : Nat} {a b : Expr} {env : PySem.Env} (bk : env.blockKind = .function) (kx : env.kindOf x = some .local) (ky : env.kindOf y = some .local) (q4 : (py.line == px.line) = true)
    (q6 : [a, b].all (foldedForSure 8) = false) (q7 : [a, b].all (constantsAlone 8) = false) (n4 : x ≠ y) (na : isStar a = false) (nb : isStar b = false) :
    swappedStores [.Tuple [.Name x px, .Name y py] k1 p1] (.Tuple [a, b] k2 p2) env = pure (some [x, y]) := by
  have n4'' : (y == x) = false := beq_eq_false_iff_ne.mpr (Ne.symm n4)
  have e1 : [x, y].eraseDups = [x, y] := by
    simp [List.eraseDups_cons, n4'']
  have q4' : py.line = px.line := by simpa using q4
  have e3 : ([a, b].any fun | .Starred .. => true | _ => false) = false := by
    show (isStar a || (isStar b || false)) = false
    rw [na, nb]
    rfl
  unfold swappedStores
  simp only [e3, q6, q7, bk, List.filterMap_cons, List.filterMap_nil, kx, ky, List.head?_cons, Option.map_some, Option.getD_some, Expr.pos, q4', beq_self_eq_true, Bool.and_self, if_true, e1, List.length_cons, List.length_nil, bne_self_eq_false]
  refine Eq.trans (if_neg (by decide)) ?_
  refine Eq.trans (if_neg (fun h => Bool.noConfusion (h.symm.trans e3))) ?_
  rfl
theorem pairs_set {i j : Nat} {ds : List D} {ρ ρ' : Env} (h : setAll [i, j] ds ρ = some ρ') : ∃ d e, ds = [d, e] ∧ ρ' = (ρ.set i (some (d, .fz))).set j (some (e, .fz)) := by
  match ds, h with
  | [d, e], h =>
    cases h
    exact ⟨d, e, rfl, rfl⟩
theorem s_par2 (i j : Nat) (es : E) : Snd1 T φ fuel (.par [i, j] es) := by
  refine Snd1.mk1 (fun _ _ => rfl) fun c X st hX hk q => ?_
  cases st <;> first | (cases q; done) | skip
  rename_i tgs v p
  match tgs, v, q with
  | [.Tuple [.Name x px, .Name y py] k1 p1], .Tuple [a, b] k2 p2, q =>
      have q' : ((decide (c.N[i]? = some x) && decide (c.N[j]? = some y) && i != j && x != y) && (match c.sc.names.lookup x with
        | some .local => true
        | _ => false) && (match c.sc.names.lookup y with
        | some .local => true
        | _ => false) && py.line == px.line && chkA T es c [a, b] && !([a, b].all (foldedForSure 8)) && !([a, b].all (constantsAlone 8))) = true := q
      simp only [Bool.and_eq_true, Bool.not_eq_true'] at q'
      obtain ⟨⟨⟨⟨⟨⟨q1, q2⟩, q3⟩, q4⟩, q5⟩, q6⟩, q7⟩ := q'
      simp only [decide_eq_true_eq, bne_iff_ne] at q1
      obtain ⟨⟨⟨n1, n2⟩, n3⟩, n4⟩ := q1
      have lx : X.env.scope.names.lookup x = some .local := by
        rw [hX.sc]
        split at q2
        · next e => exact e
        · cases q2
      have ly : X.env.scope.names.lookup y = some .local := by
        rw [hX.sc]
        split at q3
        · next e => exact e
        · cases q3
      obtain ⟨pa, hs⟩ := (sound (T := T) (φ := φ) es).args c X _ hX q5
      obtain ⟨_, _, _, ca, cb⟩ := chkA_two q5
      have na : isStar a = false := by
        cases a <;> first | rfl | (exfalso; rw [noStar] at ca; cases ca)
      have nb : isStar b = false := by
        cases b <;> first | rfl | (exfalso; rw [noStar] at cb; cases cb)
      have bk : X.env.blockKind = .function := by
        unfold PySem.Env.blockKind
        rw [hX.sc, hk]
        rfl
      have sw := swap2 (px := px) (py := py) (p1 := p1) (p2 := p2) (k1 := k1) (k2 := k2) bk lx ly q4 q6 q7 n4 na nb
      refine (ps_par hX.calm (by rw [hX.nm]; exact hX.nd) (by rw [hX.nm]; exact n1) (by rw [hX.nm]; exact n2) n3 lx ly pa sw (swapsTup _ _)).imp fun D σ H ⟨G0, H0, G, ρ, o, S, e, kk⟩ => ?_
      rw [sx] at e
      obtain ⟨ds, e1, e⟩ := Option.bind_eq_some_iff.mp e
      obtain ⟨ρ', e2, rfl⟩ := Option.map_eq_some_iff.mp e
      obtain ⟨d, d', rfl, rfl⟩ := pairs_set e2
      obtain ⟨G1, S1⟩ := S.fzs (fvs es)
      refine ⟨G0, H0, G1, _, _, S1, e1, fun vs G2 H2 w r => ?_⟩
      obtain ⟨u, u', rfl, r1, r2⟩ := reps2 r
      exact ⟨u, u', rfl, kk _ G2 H2 (((S1.grow w).put r1 i).put r2 j)⟩

theorem s_par (is : List Nat) (es : E) : Snd1 T φ fuel (.par is es) := by
  match is with
  | [i, j] => exact s_par2 i j es
  | [] => exact Snd1.mk1 (fun _ _ => rfl) fun c X st hX hk q => (by cases st <;> cases q)
  | [i] => exact Snd1.mk1 (fun _ _ => rfl) fun c X st hX hk q => (by cases st <;> cases q)
  | i :: j :: k :: r => exact Snd1.mk1 (fun _ _ => rfl) fun c X st hX hk q => (by cases st <;> cases q)
theorem sound_s (s : S) : Snd1 T φ fuel s := by
  induction s with
  | pass => exact s_pass
  | set i e => exact s_set i e
  | unp is e => exact s_unp is e
  | par is es => exact s_par is es
  | aug i op e => exact s_aug i op e
  | app i e => exact s_app i e
  | sti i k e => exact s_sti i k e
  | ret e => exact s_ret e
  | retN => exact s_retN
  | iff c a b ha hb => exact s_iff ha hb
  | whl c b hb => exact s_whl hb
  | fr tg it b hb => exact s_fr hb
  | brk => exact s_brk
  | ctn => exact s_ctn
  | nop => exact s_nop
  | seq a b ha hb => exact s_seq ha hb
end
end PL
set_option Elab.async false
set_option linter.all false
set_option maxRecDepth 100000
namespace PL
open PySem PySem.Spec L2

/-! ### programs -/
structure Fn where
  np : Nat
  N : List Str
  body : S
abbrev Prog := List (String × Fn)
def ent (F : Fn) (ds : List D) : Env := ds.map (fun d => some (d, Lv.fz)) ++ List.replicate (F.N.length - ds.length) none
def out : Out → Option R
  | .ret r => some r
  | .nx _ => some (.non, .fz)
  | _ => none
noncomputable def run (Ps : Prog) (fuel : Nat) : Nat → String → List D → Option R
  | 0, _, _ => none
  | n + 1, f, ds => (Ps.lookup f).bind fun F => if ds.length = F.np then (sx (run Ps fuel n) fuel F.body (ent F ds)).bind out else none
theorem run_len {Ps : Prog} {fuel : Nat} {f : String} {F : Fn} (h : Ps.lookup f = some F) : ∀ {n : Nat} {ds : List D} {r : R}, run Ps fuel n f ds = some r → ds.length = F.np
  | 0, _, _, e => nomatch e
  | n + 1, ds, r, e => by
    unfold run at e
    rw [h] at e
    by_cases q : ds.length = F.np
    · exact q
    · rw [Option.bind_some, if_neg q] at e
      cases e

def ctOf (F : Fn) (st : Stmt) : Ctxt := ⟨F.N, defScope st, fun _ => true⟩
def Tab.wr (T : Tab) (b : Bool) : Tab := ⟨T.fns, T.bts, T.cons, T.gcd, b⟩
/-- one def of the program: its text stands for F -/
structure FnT (T : Tab) (F : Fn) (st : Stmt) : Prop where
  S : FnScope F.N (F.N.take F.np) (defScope st)
  le : F.np ≤ F.N.length
  chk : chkS T F.body (ctOf F st) (defBody st) = true
/-- .. and stands behind the top -/
structure FnA (K : PySem.W.Frag) (mg : Str → Option Value) (f : String) (F : Fn) (st : Stmt) (a : Addr) (fd : FuncData) : Prop where
  U : Fun K f f st a fd
  g : mg (f : Str) = some (.ref a)
  b : Binds K fd (F.N.take F.np) []
structure Around0 (T : Tab) (Ps : Prog) (K : PySem.W.Frag) (mg : Str → Option Value) : Prop where
  fns : ∀ f n, (f, n) ∈ T.fns → ∃ F st a fd, Ps.lookup f = some F ∧ F.np = n ∧ FnT (T.wr false) F st ∧ FnA K mg f F st a fd
  bts : ∀ b, b ∈ T.bts → mg (b : Str) = none
  cons : ∀ x d, (x, d) ∈ T.cons → ∃ u v, mg (x : Str) = some u ∧ RelV v u ∧ ∀ G, Rep K G d v
  gcd : T.gcd = true → mg "gcd" = some (.builtin "math.gcd")
theorem reps_get {K : PySem.W.Frag} {G : Hp} {ds : List D} {vs : List V} (r : Reps K G ds vs) {k : Nat} {i : Nat} {d : D} {lv : Lv} (e : (ds.map (fun d => some (d, Lv.fz)) ++ List.replicate k (none : Option R))[i]? = some (some (d, lv))) : lv = .fz ∧ ∃ v, (vs.map some ++ List.replicate k (none : Option V))[i]? = some (some v) ∧ Rep K G d v := by
  have hl := r.length
  by_cases hi : i < ds.length
  · rw [List.getElem?_append_left (by simpa using hi), List.getElem?_map] at e
    obtain ⟨d', e1, e2⟩ := Option.map_eq_some_iff.mp e
    cases e2
    obtain ⟨v, e3, e4⟩ := r.get e1
    refine ⟨rfl, v, ?_, e4⟩
    rw [List.getElem?_append_left (by rw [List.length_map]; omega), List.getElem?_map, e3]
    rfl
  · rw [List.getElem?_append_right (by simpa using hi), List.getElem?_replicate] at e
    split at e <;> simp at e
section
variable {P : Program} {w : World} {K : PySem.W.Frag} {mg : Str → Option Value} {base : Heap} {T : Tab} {Ps : Prog} {fuel : Nat}
theorem sim_start {G H : Hp} {F : Fn} {ds : List D} {vs : List V} (s : Same G H) (r : Reps K G ds vs) : Sim K G H G H (ent F ds) (start F.N vs) := by
  have hl := r.length
  refine ⟨Bs.refl s, ?_, fun _ => [], fun i d lv e => ?_, fun _ _ h => (nomatch h), fun _ _ _ h => (nomatch h)⟩
  · unfold L2.start ent
    simp [hl]
  · unfold ent at e
    obtain ⟨rfl, v, e1, e2⟩ := reps_get r e
    refine ⟨v, ?_, rfl, e2⟩
    unfold L2.start
    rw [← hl]
    exact e1
theorem spec_len {n : Nat} {φ : List D → Option R} {vs : List V} {H : Hp} {Q : VK} {E : XK} (h : spec K φ n vs H Q E) : vs.length = n := by
  obtain ⟨G, ds, r, _, rs, e, _⟩ := h
  rw [← rs.length, e]
/-- what a body answers -/
theorem fin_body {G H : Hp} {o : Out} {r : R} {Q : VK} (s : Same G H) (e : out o = some r) (k : ∀ v G' H', Grow G H G' H' → Res K G' H H' r v → Q v H') : Fin K G H { nx := fun _ H' => Q .non H', rt := Q } o := by
  cases o with
  | nx ρ =>
    cases e
    exact fun σ G' H' S => k .non G' H' (S.gr.grow s) (.fz .non)
  | ret q =>
    cases e
    exact fun v G' H' b q => k v G' H' (b.grow s) q
  | brk ρ => cases e
  | ctn ρ => cases e
theorem xok_of {φ : String → List D → Option R} {X : Cx} {c : Ctxt} {n : Nat} (Y : Around0 T Ps K mg) (nm : X.N = c.N) (sc : X.env.scope = c.sc) (fnn : X.fn = c.fn) (nd : c.N.Nodup) (calm : X.calm = true) (xe : X.xe = fun _ _ => False) (hr : Room n X.A)
    (hK : X.K = K) (hmg : X.mg = mg) (hb : X.base = base) (hP : X.prog = P) (hw : X.w = w) {b : Bool} (rp : b = true → X.A.guards = some [])
    (ih : ∀ f F st a fd, Ps.lookup f = some F → FnT (T.wr false) F st → FnA K mg f F st a fd → (∀ ds r, φ f ds = some r → ds.length = F.np) ∧ FnOk P w K mg base CX0 n a fd (F.N.take F.np) (spec K (φ f) F.np)) : XOk (T.wr b) φ c X := by
  subst hK hmg hb hP hw
  refine ⟨nm, sc, fnn, nd, calm, xe, ?_, fun f m hf => ?_, Y.bts, Y.cons, Y.gcd, rp⟩
  · have := hr.un
    omega
  · obtain ⟨F, st, a, fd, h1, h2, h3, h4⟩ := Y.fns f m hf
    obtain ⟨i1, i2⟩ := ih f F st a fd h1 h3 h4
    subst h2
    exact ⟨n, a, fd, _, by rw [List.length_take]; exact Nat.min_eq_left h3.le, h4.g, h4.U.kp, h4.b, hr, i1, i2⟩
/-- THE PROGRAM: each def keeps its promise, at each depth -/
theorem ok_fn (Y : Around0 T Ps K mg) : ∀ (n : Nat) (f : String) (F : Fn) (st : Stmt) (a : Addr) (fd : FuncData), Ps.lookup f = some F → FnT (T.wr false) F st → FnA K mg f F st a fd →
    FnOk P w K mg base CX0 n a fd (F.N.take F.np) (spec K (run Ps fuel n f) F.np)
  | 0, f, F, st, a, fd, _, _, _ => ⟨fun vs H Q E ⟨G, ds, r, _, _, _, e, _⟩ => (nomatch e), fun _ _ _ _ _ _ _ _ _ _ _ _ _ ⟨G, ds, r, _, _, _, e, _⟩ => (nomatch e)⟩
  | n + 1, f, F, st, a, fd, h1, h2, h3 => by
    have ih := fun g G' st' a' fd' q1 q2 q3 => ok_fn Y n g G' st' a' fd' q1 q2 q3
    refine h3.U.ok h2.S (fun vs H Q E h => by rw [spec_len h, List.length_take, Nat.min_eq_left h2.le]) fun cdv A outer s H vs Q E hr h => ?_
    have hX : XOk (T.wr false) (run Ps fuel n) (ctOf F st) (cxOf CX0 P w K mg base F.N f (defScope st) a cdv A outer s H E).nox :=
      xok_of (n := n) (P := P) (w := w) (base := base) Y rfl rfl rfl h2.S.nd rfl rfl hr rfl rfl rfl rfl rfl (fun h => (nomatch h)) fun g G' st' a' fd' q1 q2 q3 => ⟨fun ds r e => run_len q1 e, ih g G' st' a' fd' q1 q2 q3⟩
    refine ⟨_, (sound_s (fuel := fuel) F.body).blk _ _ _ hX h2.S.kind h2.chk, ?_⟩
    obtain ⟨G, ds, r, sm, rs, hn, e, k⟩ := h
    unfold run at e
    rw [h1, Option.bind_some, if_pos hn] at e
    obtain ⟨o, e1, e2⟩ := Option.bind_eq_some_iff.mp e
    exact ⟨G, H, G, _, o, sim_start sm rs, e1, fin_body sm e2 k⟩
end
end PL
set_option Elab.async false
set_option linter.all false
set_option maxRecDepth 100000
namespace PL
open PySem PySem.Spec PyProof.Rows L2

/-! ### the law's own def, called at one place around (where repr may show) -/
section
variable {P : Program} {w : World} {K : PySem.W.Frag} {mg mb : Str → Option Value} {base : Heap} {A : Around} {outer : List PySem.Env} {s : Shared} {H : Hp}
theorem call_at {x qual : Str} {st : Stmt} {f : Addr} {fd : FuncData} {N ps : List Str} {k : Nat} {args : Args} {us : List Value} {vs : List V} {Q : VK} {E : XK} (U : Fun K x qual st f fd) (S : FnScope N ps (defScope st)) (room : Room (k + 1) A)
    (e0 : Env0 P w K mg base A outer s H) (bnd : BindsTo s fd args (ps.zip us)) (rv : Vals vs us) (len : vs.length = ps.length)
    (body : ∀ cd : Value, ∃ t, PSs (cxOf CX0 P w K mg base N qual (defScope st) f cd A outer s H E) (defBody st) t ∧ t { nx := fun _ H' => Q .non H', rt := Q } (L2.start N vs) H) :
    codeAny (model P w) A (.call (.ref f) args) (CR CX0 outer P w H s Q E) s := by
  obtain ⟨oc, od, kV, doc, pm, an, cd, ct, osl, rfl, lk, code⟩ := U.ex
  have inK : K.In s.heap := e0.mod.kin.keeps fun b o e => (e0.bs b o e).1
  have free : s.heap.NoLimit := e0.mod.nolimit.keeps fun b o e => (e0.bs b o e).1
  have kinds : ∀ y ∈ ps.zip us, (defScope st).names.lookup y.1 = some .local ∨ ((defScope st).names.lookup y.1 = some .cell ∧ ((cellsFrom (s.heap.objs.size + 1) (defScope st).names []).lookup y.1).isSome = true) := by
    rintro ⟨n, v⟩ hy
    have hp := S.par n (List.of_mem_zip hy).1
    exact hp.imp id fun q => ⟨q, PySem.W.cellsFrom_some _ _ _ (.inl q)⟩
  refine codeAny_call_function room.depth (inK _ _ lk) rfl S.co S.gen rfl (PySem.W.codeRec_of inK code) (bnd _ _ _ _ (wpAny_newFunctionEnv_cells S.kind kinds ?_))
  intro env he s1 made
  subst he
  refine ⟨free.keeps made.toInCall.keep, codeAny_func ?_⟩
  obtain ⟨t, ht, hq⟩ := body cd
  refine wpAny_mono (ht.run [] s1 (L2.start N vs) H _ (inv_start S room.hd e0 len rv made) hq) (fun fl s' hs => ?_) fun _ _ hs => hs
  cases fl with
  | ret u =>
    obtain ⟨v, σ', H', J, r, q⟩ := hs
    exact ⟨v, H', J.os, J.bare, J.base, J.hok, r, q⟩
  | next =>
    obtain ⟨σ', H', J, q⟩ := hs
    exact ⟨.non, H', J.os, J.bare, J.base, J.hok, rfl, q⟩
  | brk => exact (hs.elim fun _ h => h.elim fun _ h => h.2).elim
  | cont => exact (hs.elim fun _ h => h.elim fun _ h => h.2).elim

/-! ### the law at a script -/
/-- from a heap in which nothing but the script may be tracked -/
theorem head_core {s₁ : Shared} {fa a : Addr} {vs : List Value} (inK : K.In s₁.heap) (hns : s₁.heap.Ns mainGlobals mg) (hb : s₁.heap.Ns builtinsNs mb) (hbb : ∀ x : Str, x ≠ "__name__" → mb x = bootBuiltins x) (free : s₁.heap.NoLimit) (g0 : s₁.gens = #[])
    (ha : s₁.heap.get? a = some { cls := .type "list", data := .seq vs.toArray })
    (only : Only H) (ok : HOk P w H s₁.heap) (just : ∀ b, H b ≠ none → b = a) (own : H a ≠ none → K.lookup a = none)
    (F : ∀ base : Heap, K.In base → base.Ns mainGlobals mg → Env0 P w K mg base callerA [] s₁ H → codeAny (model P w) callerA (.call (.ref fa) ⟨[.ref a], []⟩) (CR CX0 [] P w H s₁ (fun v _ => v = .bl true) fun _ _ _ => False) s₁) :
    codeAny (model P w) callerA (.call (.ref fa) ⟨[.ref a], []⟩) (fun r s' => r = .ok (.ret (.bool true)) ∧ OldK s₁.heap s'.heap ∧ s'.os = s₁.os ∧ AllBare s'.gens) s₁ := by
  -- the heap without what is tracked
  have stays : ∀ {b : Addr} {o : Obj}, s₁.heap.get? b = some o → b ≠ a ∨ H b = none → (hidT s₁.heap H).get? b = some o := by
    intro b o e q
    refine hidT_get e ?_
    rcases q with q | q
    · exact Classical.byContradiction fun z => q (just b z)
    · exact q
  have names : ∀ {b : Addr} {m : Str → Option Value}, s₁.heap.Ns b m → (hidT s₁.heap H).Ns b m := by
    rintro b m ⟨o, es, ep, e, d, r⟩
    refine ⟨o, es, ep, stays e (.inl fun z => ?_), d, r⟩
    subst z
    rw [ha] at e
    cases e
    cases (show Data.seq vs.toArray _ = Data.dict es ep from d)
  have inB : K.In (hidT s₁.heap H) := fun b o e => stays (inK b o e) (by
    by_cases z : b = a
    · subst z
      refine .inr (Classical.byContradiction fun n => ?_)
      rw [own n] at e
      cases e
    · exact .inl z)
  obtain ⟨mc, c1, c2⟩ := free
  have e0 : Env0 P w K mg (hidT s₁.heap H) callerA [] s₁ H :=
    ⟨rfl, ⟨inB, names hns, ⟨mb, names hb, hbb⟩, ⟨mc, names c1, c2⟩⟩, fun b o e => of_hidT e, Nat.le_of_eq (hidT_size _ _), trivial, fun b z => (nomatch z), ok, .of_eq g0⟩
  refine codeAny_mono (F _ inB (names hns) e0) fun r s' h => ?_
  match r, h with
  | .ok (.ret u), ⟨v, H', os, bare, un, ok', rv, q⟩ =>
    have q : v = .bl true := q
    subst q
    have eu : u = Value.bool true := rv
    subst eu
    refine ⟨rfl, OldK.of_keep fun b o e => ?_, os, bare⟩
    rcases only b with z | ⟨ob, xs, z⟩
    · exact un.keep b o e z (fun m => (nomatch m)) (fun m => (nomatch m))
    · obtain ⟨e1, _⟩ := ok b _ z
      obtain ⟨e2, _⟩ := ok' b _ (un.frzs b ob _ z)
      rw [← Option.some.inj (e.symm.trans e1)] at e2
      exact e2
/-- .. and so from the heap behind the top -/
theorem head_law {s₁ : Shared} {fa a : Addr} {vs : List Value} {ns : List Int} (inK : K.In s₁.heap) (hns : s₁.heap.Ns mainGlobals mg) (hb : s₁.heap.Ns builtinsNs mb) (hbb : ∀ x : Str, x ≠ "__name__" → mb x = bootBuiltins x) (free : s₁.heap.NoLimit) (g0 : s₁.gens = #[])
    (ha : s₁.heap.get? a = some { cls := .type "list", data := .seq vs.toArray }) (its : IntsAre vs ns) (few : ns.length ≤ sizeLine)
    (F : ∀ (base : Heap) (H : Hp), SqL K H a (ns.map V.int) → K.In base → base.Ns mainGlobals mg → Env0 P w K mg base callerA [] s₁ H → codeAny (model P w) callerA (.call (.ref fa) ⟨[.ref a], []⟩) (CR CX0 [] P w H s₁ (fun v _ => v = .bl true) fun _ _ _ => False) s₁) :
    codeAny (model P w) callerA (.call (.ref fa) ⟨[.ref a], []⟩) (fun r s' => r = .ok (.ret (.bool true)) ∧ OldK s₁.heap s'.heap ∧ s'.os = s₁.os ∧ AllBare s'.gens) s₁ := by
  have rv := vals_ints its
  have len := its.length
  cases hk : K.lookup a with
  | some o =>
    have e := inK a o hk
    rw [ha] at e
    cases e
    have sq : SqL K (fun _ => none) a (ns.map V.int) := .inr ⟨_, vs.toArray, _, hk, rfl, rfl, rfl, by
      rw [List.size_toArray, len]
      exact few, by simpa using rv⟩
    exact head_core inK hns hb hbb free g0 ha (fun _ => .inl rfl) (fun b u z => (nomatch (show (none : Option HO) = some u from z))) (fun b z => absurd rfl z) (fun z => absurd rfl z) fun base => F base _ sq
  | none =>
    let H : Hp := upd (fun _ => none) a (.frz { cls := .type "list", data := .seq vs.toArray } (.lst (ns.map V.int)))
    have at_ : H a = some (.frz { cls := .type "list", data := .seq vs.toArray } (.lst (ns.map V.int))) := upd_same
    have off : ∀ b, b ≠ a → H b = none := fun b n => upd_ne n
    refine head_core (H := H) inK hns hb hbb free g0 ha (fun b => ?_) (fun b u z => ?_) (fun b z => Classical.byContradiction fun n => z (off b n)) (fun _ => hk) fun base => F base H (.inl (.inr ⟨_, at_⟩))
    · by_cases n : b = a
      · exact .inr ⟨_, _, n ▸ at_⟩
      · exact .inl (off b n)
    · by_cases n : b = a
      · subst n
        rw [at_] at z
        cases z
        exact ⟨ha, by
          rw [List.length_map]
          exact few, vs, _, rv, ha⟩
      · rw [off b n] at z
        cases z
end
end PL
set_option Elab.async false
set_option linter.all false
set_option maxRecDepth 100000
namespace PL
open PySem PySem.Spec PyProof.Rows L2

/-- what the law's def answers to a script -/
noncomputable def lawEv (Ps : Prog) (fuel m : Nat) (L : Fn) (ns : List Int) : Option R := (sx (run Ps fuel m) fuel L.body (ent L [.scr ns])).bind out
structure LawT (T : Tab) (L : Fn) (st : Stmt) (x : Str) : Prop where
  S : FnScope L.N [x] (defScope st)
  chk : chkS (T.wr true) L.body (ctOf L st) (defBody st) = true
theorem law_call' {P : Program} {w : World} {K : PySem.W.Frag} {mg : Str → Option Value} {base : Heap} {s : Shared} {H : Hp} {fa a : Addr} {fd : FuncData} {T : Tab} {Ps : Prog} {fuel m : Nat} {L : Fn} {st : Stmt} {x f qual : Str} {ns : List Int}
    (Y : Around0 T Ps K mg) (U : Fun K f qual st fa fd) (LT : LawT T L st x) (bnd : ∀ (s : Shared) (u : Value), BindsTo s fd ⟨[u], []⟩ [(x, u)]) (room : Room (m + 1) callerA) (e0 : Env0 P w K mg base callerA [] s H)
    (sq : SqL K H a (ns.map V.int)) (e : lawEv Ps fuel m L ns = some (.bl true, .fz)) :
    codeAny (model P w) callerA (.call (.ref fa) ⟨[.ref a], []⟩) (CR CX0 [] P w H s (fun v _ => v = .bl true) fun _ _ _ => False) s := by
  refine call_at (us := [.ref a]) (vs := [.ref a]) U LT.S room e0 (bnd s (.ref a)) (.cons rfl .nil) rfl fun cd => ?_
  have hX : XOk (T.wr true) (run Ps fuel m) (ctOf L st) (cxOf CX0 P w K mg base L.N qual (defScope st) fa cd callerA [] s H fun _ _ _ => False).nox :=
    xok_of (n := m) (P := P) (w := w) (base := base) Y rfl rfl rfl LT.S.nd rfl rfl (room.deeper _) rfl rfl rfl rfl rfl (fun _ => rfl) fun g G' st' a' fd' q1 q2 q3 => ⟨fun ds r e => run_len q1 e, ok_fn Y m g G' st' a' fd' q1 q2 q3⟩
  refine ⟨_, ((sound_s (fuel := fuel) L.body).blk _ _ _ hX LT.S.kind LT.chk).nox, ?_⟩
  obtain ⟨o, e1, e2⟩ := Option.bind_eq_some_iff.mp e
  refine ⟨H, H, H, _, o, sim_start (fun _ _ h => h) (.cons (.scr sq) .nil), e1, fin_body (Q := fun v _ => v = V.bl true) (fun _ _ h => h) e2 fun v G' H' w r => ?_⟩
  have r1 := r.of_fz
  cases r1
  rfl
/-- THE WALK: where the law's def answers True to each script, the row's walk is done -/
theorem law_walk {l : PySem.W.OpenLaw} {n m : Nat} {q : Program} {loose : List Str} {XP : (Str → Option Value) → Heap → Prop} {YP : World → Heap → Prop} {d : DefRec} {K : Params → PySem.W.Frag} {x : Str} {T : Tab} {Ps : Prog} {fuel : Nat} {L : Fn} {st : Stmt}
    (hn : l.most = some n) (hn2 : n ≤ sizeLine) (hdf : d.params.defaults = []) (room : Room (m + 1) callerA) (hY : ∀ (w : World) (h : Heap), YP w h → (K w.params).In h) (LT : LawT T L st x)
    (F : ∀ (w : World) (mg : Str → Option Value) (fa : Addr) (h : Heap), (K w.params).In h → h.Ns mainGlobals mg → mg d.name = some (.ref fa) →
      ∃ fd : FuncData, (∀ (s : Shared) (u : Value), BindsTo s fd ⟨[u], []⟩ [(x, u)]) ∧ Fun (K w.params) "law" "law" st fa fd ∧ Around0 T Ps (K w.params) mg)
    (law : ∀ ns : List Int, ns.length ≤ n → lawEv Ps fuel m L ns = some (.bl true, .fz)) :
    PySem.W.WalkO q loose XP YP l.row.toRowW d [] (fun f vs => PySem.call f vs) := by
  refine Att.attach_call hn hdf fun w s₀ s₁ mg mb fa o pm cd doc a vs ns G Y ho hd hcd hmg ha its few g0 => ?_
  obtain ⟨fd, bnd, U, A0⟩ := F w mg fa _ (hY w _ Y) G.T.g hmg
  exact head_law (hY w _ Y) G.T.g G.T.b G.T.builtins G.T.nolimit g0 ha its (Nat.le_trans few hn2) fun base H sq kb nb e0 => law_call' A0 U LT bnd room e0 sq (law ns few)
end PL

namespace PL
open PySem PySem.Spec PyProof.Rows L2
/-! ### what the top has written, put together -/
theorem fnA_mk {K : PySem.W.Frag} {h : Heap} {mg : Str → Option Value} (inK : K.In h) (ns : h.Ns mainGlobals mg) {f : String} {F : Fn} {st : Stmt} {a : Addr} {oc kV doc pm cd ct : Value} {od an : Option Addr} {sl : Array (Option Value)}
    (a1 : PySem.W.nsIn K mainGlobals (f : Str) = some (some (.ref a)))
    (l1 : K.lookup a = some ⟨oc, od, .func (PySem.W.fnOf (f : Str) (f : Str) (defArgs st) (defBody st) (defScope st) .none kV doc pm an cd ct), sl⟩)
    (c1 : PySem.W.codeIn K cd (f : Str) = true) (k1 : PySem.W.keepIn K (.ref a) = true)
    (b1 : ∀ (kV doc pm : Value) (an : Option Addr) (cd ct : Value) (us : List Value), us.length = (F.N.take F.np).length → bindArgs (PySem.W.fnOf (f : Str) (f : Str) (defArgs st) (defBody st) (defScope st) .none kV doc pm an cd ct) ⟨us, []⟩ = pure ((F.N.take F.np).zip us)) :
    ∃ a fd, FnA K mg f F st a fd := by
  have U : Fun K (f : Str) (f : Str) st a _ := fun_mk l1 c1 k1
  exact ⟨a, _, U, PySem.W.mg_of inK ns a1, U.binds b1⟩
def FnsOk (T : Tab) (Ps : Prog) (K : PySem.W.Frag) (mg : Str → Option Value) : List (String × Nat) → Prop
  | [] => True
  | (f, n) :: r => (∃ F st, Ps.lookup f = some F ∧ F.np = n ∧ FnT (T.wr false) F st ∧ ∃ a fd, FnA K mg f F st a fd) ∧ FnsOk T Ps K mg r
theorem FnsOk.at {T : Tab} {Ps : Prog} {K : PySem.W.Frag} {mg : Str → Option Value} : ∀ {l : List (String × Nat)}, FnsOk T Ps K mg l → ∀ f n, (f, n) ∈ l → ∃ F st a fd, Ps.lookup f = some F ∧ F.np = n ∧ FnT (T.wr false) F st ∧ FnA K mg f F st a fd
  | (g, m) :: r, ⟨⟨F, st, h1, h2, h3, a, fd, h4⟩, q⟩, f, n, hm => by
    rcases List.mem_cons.mp hm with e | hm
    · cases e
      exact ⟨F, st, a, fd, h1, h2, h3, h4⟩
    · exact q.at f n hm
def BtsOk (mg : Str → Option Value) : List String → Prop
  | [] => True
  | b :: r => mg (b : Str) = none ∧ BtsOk mg r
theorem BtsOk.at {mg : Str → Option Value} : ∀ {l : List String}, BtsOk mg l → ∀ b, b ∈ l → mg (b : Str) = none
  | g :: r, ⟨h1, q⟩, b, hm => by
    rcases List.mem_cons.mp hm with e | hm
    · subst e
      exact h1
    · exact q.at b hm
end PL
namespace PL
open PySem PySem.Spec PyProof.Rows L2
/-- a def of one parameter: how one argument binds -/
theorem FnA.one {K : PySem.W.Frag} {mg : Str → Option Value} {f : String} {F : Fn} {st : Stmt} {a : Addr} {fd : FuncData} {x : Str} (A : FnA K mg f F st a fd) (s : Shared) (u : Value) (e : F.N.take F.np = [x] := by rfl)
    (b : ∀ (kV doc pm : Value) (an : Option Addr) (cd ct : Value) (us : List Value), us.length = 1 → bindArgs (PySem.W.fnOf (f : Str) (f : Str) (defArgs st) (defBody st) (defScope st) .none kV doc pm an cd ct) ⟨us, []⟩ = pure ([x].zip us) := by exact fun _ _ _ _ _ _ us hl => match us, hl with | [_], _ => rfl) : BindsTo s fd ⟨[u], []⟩ [(x, u)] := by
  obtain ⟨oc, od, kV, doc, pm, an, cdv, ct, osl, rfl, lk, hcd⟩ := A.U.ex
  exact .of_eq (b _ _ _ _ _ _ [u] rfl)
end PL
set_option Elab.async false
set_option linter.all false
set_option maxRecDepth 100000
namespace PL
open PySem PySem.Spec L2

/-! ### evaluation, a rule for each form -/
def inLine (n : Nat) : Bool := decide (n ≤ sizeLine)
def inLine1 (n : Nat) : Bool := decide (n < sizeLine)
theorem inLine_iff {α : Type} {n : Nat} {x y : α} : (if n ≤ sizeLine then x else y) = if inLine n = true then x else y := by
  unfold inLine
  by_cases h : n ≤ sizeLine
  · rw [if_pos h, if_pos (decide_eq_true h)]
  · rw [if_neg h, if_neg (fun z => h (of_decide_eq_true z))]
theorem inLine1_iff {α : Type} {n : Nat} {x y : α} : (if n < sizeLine then x else y) = if inLine1 n = true then x else y := by
  unfold inLine1
  by_cases h : n < sizeLine
  · rw [if_pos h, if_pos (decide_eq_true h)]
  · rw [if_neg h, if_neg (fun z => h (of_decide_eq_true z))]
theorem inLine_of {n : Nat} (h : n ≤ 1000000) : inLine n = true := decide_eq_true (by
  rw [sizeLine_eq]
  omega)
theorem inLine1_of {n : Nat} (h : n ≤ 1000000) : inLine1 n = true := decide_eq_true (by
  rw [sizeLine_eq]
  omega)
def rngD (ds : List D) : Option (List D) := (rangeD ds).bind fun xs => if xs.length ≤ sizeLine then some xs else none
def lstR (xs : List D) : R := (.lst xs, .top)
@[simp] theorem lstR_def (xs : List D) : lstR xs = (.lst xs, .top) := by rw [lstR]
theorem rng_lst {ds : List D} : ((rangeD ds).bind fun xs => if xs.length ≤ sizeLine then some (D.lst xs, Lv.top) else none) = (rngD ds).map lstR := by
  unfold rngD
  cases rangeD ds with
  | none => rfl
  | some xs =>
    rw [Option.bind_some, Option.bind_some]
    split <;> rfl
def upD (a : Int) (n : Nat) : List D := (List.range n).map fun (k : Nat) => .int (a + (k : Int))
theorem upD_length (a : Int) (n : Nat) : (upD a n).length = n := by rw [upD, List.length_map, List.length_range]
theorem rngD_one (b : Int) (h : b ≤ 1000000) (h0 : -1000000 ≤ b) : rngD [.int b] = some (upD 0 b.toNat) := by
  unfold rngD upD
  simp only [rangeD]
  rw [if_pos ⟨by omega, by omega⟩, Option.bind_some, if_pos (by
    rw [List.length_map, List.length_range, sizeLine_eq]
    omega)]
  simp only [Int.zero_add]
theorem rngD_nat (n : Nat) (h : n ≤ 1000000) : rngD [.int (n : Int)] = some (upD 0 n) := by
  rw [rngD_one _ (by omega) (by omega), Int.toNat_natCast]
theorem rngD_two (a b : Int) (h1 : -1000000 ≤ a) (h2 : a ≤ 1000000) (h3 : -1000000 ≤ b) (h4 : b ≤ 1000000) : rngD [.int a, .int b] = some (upD a (b - a).toNat) := by
  unfold rngD upD
  simp only [rangeD]
  rw [if_pos ⟨by omega, by omega, by omega, by omega⟩, Option.bind_some, if_pos (by
    rw [List.length_map, List.length_range, sizeLine_eq]
    omega)]
def allB (l : List Bool) : Bool := l.all id
def anyB (l : List Bool) : Bool := l.any id
theorem allB_iff {α : Type} {l : List α} {p : α → Bool} : allB (l.map p) = true ↔ ∀ x, x ∈ l → p x = true := by
  unfold allB
  rw [List.all_map, List.all_eq_true]
  rfl
theorem anyB_iff {α : Type} {l : List α} {p : α → Bool} : anyB (l.map p) = true ↔ ∃ x, x ∈ l ∧ p x = true := by
  unfold anyB
  rw [List.any_map, List.any_eq_true]
  rfl
def mulLine (n : Nat) (k : Int) : Bool := decide (-(2 ^ 63) ≤ k ∧ k < 2 ^ 63 ∧ n * k.toNat ≤ sizeLine)
def dneg : D → Option R
  | .int i => some (.int (-i), .fz)
  | _ => none
def thn (f : Env → Option Out) : Out → Option Out
  | .nx ρ => f ρ
  | o => some o
def stD (ρ : Env) (i : Nat) (xs : List D) (d : D) : R → Option Out
  | (.int j, .fz) => (ixN xs.length j).map fun n => .nx (ρ.set i (some (.lst (xs.set n d), .top)))
  | _ => none
def ownO : Option (Option R) → Option (List D)
  | some (some (.lst xs, .top)) => some xs
  | _ => none
def varO : Option (Option R) → Option R
  | some (some (d, .fz)) => some (d, .fz)
  | _ => none
def retO : Option (Option R) → Option Out
  | some (some r) => some (.ret r)
  | _ => none
@[simp] theorem vo_fz (d : D) : varO (some (some (d, .fz))) = some (d, .fz) := rfl
@[simp] theorem ro_some (r : R) : retO (some (some r)) = some (.ret r) := rfl
def fzO : Option R → Option R
  | some r => some (frz1 r)
  | none => none
def fzIx : Nat → Env → Env
  | _, [] => []
  | 0, x :: ρ => fzO x :: ρ
  | i + 1, x :: ρ => x :: fzIx i ρ
theorem fzIx_eq : ∀ (i : Nat) (ρ : Env), (match ρ[i]? with
  | some (some r) => ρ.set i (some (frz1 r))
  | _ => ρ) = fzIx i ρ
  | _, [] => by simp [fzIx]
  | 0, x :: ρ => by cases x <;> simp [fzIx, fzO]
  | i + 1, x :: ρ => by
    have ih := fzIx_eq i ρ
    simp only [List.getElem?_cons_succ, fzIx, ← ih]
    cases ρ[i]? with
    | none => rfl
    | some y => cases y <;> rfl
theorem eqb_iff' {a b : D} {k : Bool} : (eqb a b = k) = ((k = true) ↔ a = b) := by
  refine propext ⟨fun h => ?_, fun h => (eqb_iff h).symm⟩
  subst h
  exact eqb_true
section
variable {φ : String → List D → Option R} {fuel : Nat}
@[simp] theorem q_var (i : Nat) (ρ : Env) : ev φ (.var i) ρ = varO ρ[i]? := by
  rw [ev]
  rfl
@[simp] theorem q_con (d : D) (ρ : Env) : ev φ (.con d) ρ = some (d, .fz) := by rw [ev]
@[simp] theorem q_glo (x : String) (d : D) (ρ : Env) : ev φ (.glo x d) ρ = some (d, .fz) := by rw [ev]
@[simp] theorem q_tup (es : E) (ρ : Env) : ev φ (.tup es) ρ = (evs φ es ρ).bind fun ds => if inLine ds.length then some (.tup ds, .fz) else none := by
  rw [ev]
  simp only [inLine_iff]
@[simp] theorem q_lst (es : E) (ρ : Env) : ev φ (.lst es) ρ = (evs φ es ρ).bind fun ds => if inLine ds.length then some (.lst ds, .top) else none := by
  rw [ev]
  simp only [inLine_iff]
@[simp] theorem q_bin (op : PySem.Operator) (a b : E) (ρ : Env) : ev φ (.bin op a b) ρ = ((ev φ a ρ).bind frz).bind fun x => ((ev φ b ρ).bind frz).bind fun y => dbin op x y := by rw [ev]
@[simp] theorem q_neg (a : E) (ρ : Env) : ev φ (.neg a) ρ = ((ev φ a ρ).bind frz).bind dneg := by
  rw [ev]
  rfl
@[simp] theorem q_band (a b : E) (ρ : Env) : ev φ (.band a b) ρ = ((ev φ a ρ).bind frz).bind fun x => (truth x).bind fun c => if c then ev φ b ρ else some (x, .fz) := by rw [ev]
@[simp] theorem q_bor (a b : E) (ρ : Env) : ev φ (.bor a b) ρ = ((ev φ a ρ).bind frz).bind fun x => (truth x).bind fun c => if c then some (x, .fz) else ev φ b ρ := by rw [ev]
@[simp] theorem q_bnot (a : E) (ρ : Env) : ev φ (.bnot a) ρ = (tru (ev φ a ρ)).map fun c => (.bl (!c), .fz) := by rw [ev]
@[simp] theorem q_cmp (op : PySem.CmpOp) (a b : E) (ρ : Env) : ev φ (.cmp op a b) ρ = ((ev φ a ρ).bind frz).bind fun x => ((ev φ b ρ).bind frz).bind fun y => (dcmp op x y).map fun c => (.bl c, .fz) := by rw [ev]
@[simp] theorem q_cmp2 (op op' : PySem.CmpOp) (a b c : E) (ρ : Env) : ev φ (.cmp2 op op' a b c) ρ = ((ev φ a ρ).bind frz).bind fun x => ((ev φ b ρ).bind frz).bind fun y => (dcmp op x y).bind fun k =>
    if k then ((ev φ c ρ).bind frz).bind fun z => (dcmp op' y z).map fun c => (.bl c, .fz) else some (.bl false, .fz) := by rw [ev]
@[simp] theorem q_ite (c a b : E) (ρ : Env) : ev φ (.ite c a b) ρ = (tru (ev φ c ρ)).bind fun k => if k then ev φ a ρ else ev φ b ρ := by rw [ev]
@[simp] theorem q_idx (a b : E) (ρ : Env) : ev φ (.idx a b) ρ = ((ev φ a ρ).bind frz).bind fun x => ((ev φ b ρ).bind frz).bind fun y => (didx x y).map fun d => (d, .fz) := by rw [ev]
@[simp] theorem q_slc (a lo hi : E) (ρ : Env) : ev φ (.slc a lo hi) ρ = ((ev φ a ρ).bind frz).bind fun x => (evo φ lo ρ).bind fun l => (evo φ hi ρ).bind fun h => dslc x l h := by rw [ev]
@[simp] theorem q_rev (a : E) (ρ : Env) : ev φ (.rev a) ρ = ((ev φ a ρ).bind frz).bind drev := by rw [ev]
@[simp] theorem q_call (f : String) (es : E) (ρ : Env) : ev φ (.call f es) ρ = (evs φ es ρ).bind (φ f) := by rw [ev]
@[simp] theorem q_blt (f : String) (es : E) (ρ : Env) : ev φ (.blt f es) ρ = (evs φ es ρ).bind (dblt f) := by rw [ev]
@[simp] theorem q_gcd (es : E) (ρ : Env) : ev φ (.gcd es) ρ = (evs φ es ρ).bind dgcd := by rw [ev]
@[simp] theorem q_isi (a : E) (ty : String) (ρ : Env) : ev φ (.isi a ty) ρ = ((ev φ a ρ).bind frz).bind fun x => (disi ty x).map fun b => (.bl b, .fz) := by rw [ev]
@[simp] theorem q_lc (tg : Tg) (it cnd elt : E) (ρ : Env) : ev φ (.lc tg it cnd elt) ρ = (evi φ it ρ).bind fun ys =>
      (lcGo (asg tg) (fun ρ => tru (ev φ cnd ρ)) (fun ρ => (ev φ elt ρ).bind frz) ys (wipeE ρ tg.own)).map fun xs => (.lst xs, .top) := by rw [ev]
@[simp] theorem q_lrg1 (a : E) (ρ : Env) : ev φ (.lrg1 a) ρ = ((ev φ a ρ).bind frz).bind fun x => (rngD [x]).map lstR := by
  rw [ev]
  congr
  funext x
  exact rng_lst
@[simp] theorem q_lrg2 (a b : E) (ρ : Env) : ev φ (.lrg2 a b) ρ = ((ev φ a ρ).bind frz).bind fun x => ((ev φ b ρ).bind frz).bind fun y => (rngD [x, y]).map lstR := by
  rw [ev]
  congr
  funext x
  congr
  funext y
  exact rng_lst
@[simp] theorem q_srs (a : E) (ρ : Env) : ev φ (.srs a) ρ = ((ev φ a ρ).bind frz).bind dsrs := by rw [ev]
@[simp] theorem q_rpr (a : E) (ρ : Env) : ev φ (.rpr a) ρ = ((ev φ a ρ).bind frz).bind drpr := by rw [ev]
@[simp] theorem q_snil (ρ : Env) : evs φ .nil ρ = some [] := by rw [evs]
@[simp] theorem q_scons (a b : E) (ρ : Env) : evs φ (.cons a b) ρ = ((ev φ a ρ).bind frz).bind fun x => (evs φ b ρ).map (x :: ·) := by rw [evs]
@[simp] theorem q_onil (ρ : Env) : evo φ .nil ρ = some none := by rw [evo]
@[simp] theorem q_ocons (a : E) (ρ : Env) : evo φ (.cons a .nil) ρ = toI ((ev φ a ρ).bind frz) := by rw [evo]
@[simp] theorem q_irng (es : E) (ρ : Env) : evi φ (.rng es) ρ = (evs φ es ρ).bind rngD := by
  rw [evi]
  rfl
@[simp] theorem q_ienm (a : E) (ρ : Env) : evi φ (.enm a) ρ = ((ev φ a ρ).bind frz).bind enumI := by rw [evi]
@[simp] theorem q_izp (a b : E) (ρ : Env) : evi φ (.zp a b) ρ = ((ev φ a ρ).bind frz).bind fun x => ((ev φ b ρ).bind frz).bind fun y => zipI x y := by rw [evi]
@[simp] theorem q_irvd (a : E) (ρ : Env) : evi φ (.rvd a) ρ = ((ev φ a ρ).bind frz).bind revI := by rw [evi]
@[simp] theorem q_icons (a : E) (ρ : Env) : evi φ (.cons a .nil) ρ = ((ev φ a ρ).bind frz).bind itemsD := by rw [evi]
@[simp] theorem q_pass (ρ : Env) : sx φ fuel .pass ρ = some (.nx ρ) := by rw [sx]
@[simp] theorem q_nop (ρ : Env) : sx φ fuel .nop ρ = some (.nx ρ) := by rw [sx]
@[simp] theorem q_brk (ρ : Env) : sx φ fuel .brk ρ = some (.brk ρ) := by rw [sx]
@[simp] theorem q_ctn (ρ : Env) : sx φ fuel .ctn ρ = some (.ctn ρ) := by rw [sx]
@[simp] theorem q_retN (ρ : Env) : sx φ fuel .retN ρ = some (.ret (.non, .fz)) := by rw [sx]
@[simp] theorem q_seq (a b : S) (ρ : Env) : sx φ fuel (.seq a b) ρ = (sx φ fuel a ρ).bind (thn (sx φ fuel b)) := by
  rw [sx]
  rfl
@[simp] theorem q_set (i : Nat) (e : E) (ρ : Env) : sx φ fuel (.set i e) ρ = (evF φ e ρ).map fun p => .nx (p.2.set i (some p.1)) := by rw [sx]
@[simp] theorem q_unp (is : List Nat) (e : E) (ρ : Env) : sx φ fuel (.unp is e) ρ = (evF φ e ρ).bind fun p => (frz p.1).bind fun d => (asg (.t is) d p.2).map .nx := by rw [sx]
@[simp] theorem q_par (is : List Nat) (es : E) (ρ : Env) : sx φ fuel (.par is es) ρ = (evs φ es (fzAt (fvs es) ρ)).bind fun ds => (setAll is ds (fzAt (fvs es) ρ)).map .nx := by rw [sx]
@[simp] theorem q_aug (i : Nat) (op : PySem.Operator) (e : E) (ρ : Env) : sx φ fuel (.aug i op e) ρ = (varO ρ[i]?).bind fun x => (evF φ e ρ).bind fun p => (frz p.1).bind fun y => (daug op x.1 y).map fun z => .nx (p.2.set i (some (z, .fz))) := by
  rw [sx]
  rcases ρ[i]? with _ | _ | ⟨d, lv⟩
  · rfl
  · rfl
  · cases lv <;> rfl
@[simp] theorem q_app (i : Nat) (e : E) (ρ : Env) : sx φ fuel (.app i e) ρ = (evF φ e ρ).bind fun p => (ownR i p.2).bind fun xs => (frz p.1).bind fun d => if inLine1 xs.length then some (.nx (p.2.set i (some (.lst (xs ++ [d]), .top)))) else none := by
  rw [sx]
  simp only [inLine1_iff]
@[simp] theorem q_iff (c : E) (a b : S) (ρ : Env) : sx φ fuel (.iff c a b) ρ = (evTF φ c ρ).bind fun t => if t then sx φ fuel a ρ else sx φ fuel b ρ := by rw [sx]
@[simp] theorem q_whl (c : E) (b : S) (ρ : Env) : sx φ fuel (.whl c b) ρ = whGo (evTF φ c) (sx φ fuel b) fuel ρ := by rw [sx]
@[simp] theorem q_fr (tg : Tg) (it : E) (b : S) (ρ : Env) : sx φ fuel (.fr tg it b) ρ = (evi φ it (fzAt (fvs it) ρ)).bind fun ys => frGo (asg tg) (sx φ fuel b) ys (if isRng it = true then ρ else fzAt (fvs it) ρ) := by rw [sx]
@[simp] theorem q_sti (i : Nat) (k e : E) (ρ : Env) : sx φ fuel (.sti i k e) ρ = (evF φ e ρ).bind fun p => (ownR i p.2).bind fun xs => (frz p.1).bind fun d => (ev φ k (fzAt (fvs k) p.2)).bind fun q => stD p.2 i xs d q := by
  rw [sx]
  rfl
@[simp] theorem q_retv (i : Nat) (ρ : Env) : sx φ fuel (.ret (.var i)) ρ = retO ρ[i]? := by
  rw [sx]
  rfl
@[simp] theorem q_evTF (e : E) (ρ : Env) : evTF φ e ρ = tru (ev φ e (fzAt (fvs e) ρ)) := rfl
@[simp] theorem q_evF (e : E) (ρ : Env) : evF φ e ρ = (ev φ e (fzAt (fvs e) ρ)).map fun r => (r, if keepR r = true then ρ else fzAt (fvs e) ρ) := rfl
@[simp] theorem q_ret_con (d : D) (ρ : Env) : sx φ fuel (.ret (.con d)) ρ = (evF φ (.con d) ρ).map fun p => .ret p.1 := by
  rw [sx]
  all_goals (intro i h; exact nomatch h)
@[simp] theorem q_ret_glo (x : String) (d : D) (ρ : Env) : sx φ fuel (.ret (.glo x d)) ρ = (evF φ (.glo x d) ρ).map fun p => .ret p.1 := by
  rw [sx]
  all_goals (intro i h; exact nomatch h)
@[simp] theorem q_ret_tup (a : E) (ρ : Env) : sx φ fuel (.ret (.tup a)) ρ = (evF φ (.tup a) ρ).map fun p => .ret p.1 := by
  rw [sx]
  all_goals (intro i h; exact nomatch h)
@[simp] theorem q_ret_lst (a : E) (ρ : Env) : sx φ fuel (.ret (.lst a)) ρ = (evF φ (.lst a) ρ).map fun p => .ret p.1 := by
  rw [sx]
  all_goals (intro i h; exact nomatch h)
@[simp] theorem q_ret_bin (op : PySem.Operator) (a b : E) (ρ : Env) : sx φ fuel (.ret (.bin op a b)) ρ = (evF φ (.bin op a b) ρ).map fun p => .ret p.1 := by
  rw [sx]
  all_goals (intro i h; exact nomatch h)
@[simp] theorem q_ret_neg (a : E) (ρ : Env) : sx φ fuel (.ret (.neg a)) ρ = (evF φ (.neg a) ρ).map fun p => .ret p.1 := by
  rw [sx]
  all_goals (intro i h; exact nomatch h)
@[simp] theorem q_ret_band (a b : E) (ρ : Env) : sx φ fuel (.ret (.band a b)) ρ = (evF φ (.band a b) ρ).map fun p => .ret p.1 := by
  rw [sx]
  all_goals (intro i h; exact nomatch h)
@[simp] theorem q_ret_bor (a b : E) (ρ : Env) : sx φ fuel (.ret (.bor a b)) ρ = (evF φ (.bor a b) ρ).map fun p => .ret p.1 := by
  rw [sx]
  all_goals (intro i h; exact nomatch h)
@[simp] theorem q_ret_bnot (a : E) (ρ : Env) : sx φ fuel (.ret (.bnot a)) ρ = (evF φ (.bnot a) ρ).map fun p => .ret p.1 := by
  rw [sx]
  all_goals (intro i h; exact nomatch h)
@[simp] theorem q_ret_cmp (op : PySem.CmpOp) (a b : E) (ρ : Env) : sx φ fuel (.ret (.cmp op a b)) ρ = (evF φ (.cmp op a b) ρ).map fun p => .ret p.1 := by
  rw [sx]
  all_goals (intro i h; exact nomatch h)
@[simp] theorem q_ret_cmp2 (op op' : PySem.CmpOp) (a b c : E) (ρ : Env) : sx φ fuel (.ret (.cmp2 op op' a b c)) ρ = (evF φ (.cmp2 op op' a b c) ρ).map fun p => .ret p.1 := by
  rw [sx]
  all_goals (intro i h; exact nomatch h)
@[simp] theorem q_ret_ite (a b c : E) (ρ : Env) : sx φ fuel (.ret (.ite a b c)) ρ = (evF φ (.ite a b c) ρ).map fun p => .ret p.1 := by
  rw [sx]
  all_goals (intro i h; exact nomatch h)
@[simp] theorem q_ret_idx (a b : E) (ρ : Env) : sx φ fuel (.ret (.idx a b)) ρ = (evF φ (.idx a b) ρ).map fun p => .ret p.1 := by
  rw [sx]
  all_goals (intro i h; exact nomatch h)
@[simp] theorem q_ret_slc (a b c : E) (ρ : Env) : sx φ fuel (.ret (.slc a b c)) ρ = (evF φ (.slc a b c) ρ).map fun p => .ret p.1 := by
  rw [sx]
  all_goals (intro i h; exact nomatch h)
@[simp] theorem q_ret_rev (a : E) (ρ : Env) : sx φ fuel (.ret (.rev a)) ρ = (evF φ (.rev a) ρ).map fun p => .ret p.1 := by
  rw [sx]
  all_goals (intro i h; exact nomatch h)
@[simp] theorem q_ret_call (f : String) (a : E) (ρ : Env) : sx φ fuel (.ret (.call f a)) ρ = (evF φ (.call f a) ρ).map fun p => .ret p.1 := by
  rw [sx]
  all_goals (intro i h; exact nomatch h)
@[simp] theorem q_ret_blt (f : String) (a : E) (ρ : Env) : sx φ fuel (.ret (.blt f a)) ρ = (evF φ (.blt f a) ρ).map fun p => .ret p.1 := by
  rw [sx]
  all_goals (intro i h; exact nomatch h)
@[simp] theorem q_ret_gcd (a : E) (ρ : Env) : sx φ fuel (.ret (.gcd a)) ρ = (evF φ (.gcd a) ρ).map fun p => .ret p.1 := by
  rw [sx]
  all_goals (intro i h; exact nomatch h)
@[simp] theorem q_ret_isi (a : E) (ty : String) (ρ : Env) : sx φ fuel (.ret (.isi a ty)) ρ = (evF φ (.isi a ty) ρ).map fun p => .ret p.1 := by
  rw [sx]
  all_goals (intro i h; exact nomatch h)
@[simp] theorem q_ret_lc (tg : Tg) (a b c : E) (ρ : Env) : sx φ fuel (.ret (.lc tg a b c)) ρ = (evF φ (.lc tg a b c) ρ).map fun p => .ret p.1 := by
  rw [sx]
  all_goals (intro i h; exact nomatch h)
@[simp] theorem q_ret_lrg1 (a : E) (ρ : Env) : sx φ fuel (.ret (.lrg1 a)) ρ = (evF φ (.lrg1 a) ρ).map fun p => .ret p.1 := by
  rw [sx]
  all_goals (intro i h; exact nomatch h)
@[simp] theorem q_ret_lrg2 (a b : E) (ρ : Env) : sx φ fuel (.ret (.lrg2 a b)) ρ = (evF φ (.lrg2 a b) ρ).map fun p => .ret p.1 := by
  rw [sx]
  all_goals (intro i h; exact nomatch h)
@[simp] theorem q_ret_srs (a : E) (ρ : Env) : sx φ fuel (.ret (.srs a)) ρ = (evF φ (.srs a) ρ).map fun p => .ret p.1 := by
  rw [sx]
  all_goals (intro i h; exact nomatch h)
@[simp] theorem q_ret_rpr (a : E) (ρ : Env) : sx φ fuel (.ret (.rpr a)) ρ = (evF φ (.rpr a) ρ).map fun p => .ret p.1 := by
  rw [sx]
  all_goals (intro i h; exact nomatch h)
end
@[simp] theorem inLine_0 : inLine 0 = true := inLine_of (by omega)
@[simp] theorem inLine1_0 : inLine1 0 = true := inLine1_of (by omega)
@[simp] theorem inLine_1 : inLine 1 = true := inLine_of (by omega)
@[simp] theorem inLine1_1 : inLine1 1 = true := inLine1_of (by omega)
@[simp] theorem inLine_2 : inLine 2 = true := inLine_of (by omega)
@[simp] theorem inLine1_2 : inLine1 2 = true := inLine1_of (by omega)
@[simp] theorem inLine_3 : inLine 3 = true := inLine_of (by omega)
@[simp] theorem inLine1_3 : inLine1 3 = true := inLine1_of (by omega)
@[simp] theorem inLine_4 : inLine 4 = true := inLine_of (by omega)
@[simp] theorem inLine1_4 : inLine1 4 = true := inLine1_of (by omega)
@[simp] theorem inLine_5 : inLine 5 = true := inLine_of (by omega)
@[simp] theorem inLine1_5 : inLine1 5 = true := inLine1_of (by omega)
@[simp] theorem inLine_6 : inLine 6 = true := inLine_of (by omega)
@[simp] theorem inLine1_6 : inLine1 6 = true := inLine1_of (by omega)
@[simp] theorem inLine_7 : inLine 7 = true := inLine_of (by omega)
@[simp] theorem inLine1_7 : inLine1 7 = true := inLine1_of (by omega)
@[simp] theorem inLine_8 : inLine 8 = true := inLine_of (by omega)
@[simp] theorem inLine1_8 : inLine1 8 = true := inLine1_of (by omega)
@[simp] theorem inLine_9 : inLine 9 = true := inLine_of (by omega)
@[simp] theorem inLine1_9 : inLine1 9 = true := inLine1_of (by omega)
@[simp] theorem inLine_10 : inLine 10 = true := inLine_of (by omega)
@[simp] theorem inLine1_10 : inLine1 10 = true := inLine1_of (by omega)
@[simp] theorem f_fz (d : D) : frz (d, .fz) = some d := rfl
@[simp] theorem f_top (d : D) : frz (d, .top) = some d := rfl
@[simp] theorem fz_nil (ρ : Env) : fzAt [] ρ = ρ := rfl
@[simp] theorem fz_cons (i : Nat) (is : List Nat) (ρ : Env) : fzAt (i :: is) ρ = fzAt is (fzIx i ρ) := by
  show fzAt is _ = _
  congr 1
  exact fzIx_eq i ρ
@[simp] theorem fx_nil (i : Nat) : fzIx i [] = [] := by cases i <;> rfl
@[simp] theorem fx_zero (x : Option R) (ρ : Env) : fzIx 0 (x :: ρ) = fzO x :: ρ := rfl
@[simp] theorem fx_succ (i : Nat) (x : Option R) (ρ : Env) : fzIx (i + 1) (x :: ρ) = x :: fzIx i ρ := rfl
@[simp] theorem fo_none : fzO none = none := rfl
@[simp] theorem fo_fz (d : D) : fzO (some (d, .fz)) = some (d, .fz) := rfl
@[simp] theorem fo_top (d : D) : fzO (some (d, .top)) = some (d, .fz) := rfl
@[simp] theorem k_non  (lv : Lv) : keepR (.non, lv) = true := rfl
@[simp] theorem k_bl (b : Bool) (lv : Lv) : keepR ((.bl b), lv) = true := rfl
@[simp] theorem k_int (i : Int) (lv : Lv) : keepR ((.int i), lv) = true := rfl
@[simp] theorem k_str (s : List Nat) (lv : Lv) : keepR ((.str s), lv) = true := rfl
@[simp] theorem k_tup (xs : List D) (lv : Lv) : keepR (.tup xs, lv) = false := by cases lv <;> rfl
@[simp] theorem k_lfz (xs : List D) : keepR (.lst xs, .fz) = false := rfl
@[simp] theorem k_ltop (xs : List D) : keepR (.lst xs, .top) = xs.all scal := rfl
@[simp] theorem s_int (i : Int) : scal (.int i) = true := rfl
@[simp] theorem s_str (i : List Nat) : scal (.str i) = true := rfl
@[simp] theorem s_bl (i : Bool) : scal (.bl i) = true := rfl
@[simp] theorem s_non : scal .non = true := rfl
@[simp] theorem s_lst (i : List D) : scal (.lst i) = false := rfl
@[simp] theorem s_tup (i : List D) : scal (.tup i) = false := rfl
@[simp] theorem s_ints (l : List Int) : (l.map D.int).all scal = true := by
  rw [List.all_map]
  exact List.all_eq_true.mpr fun _ _ => rfl
@[simp] theorem t_non : truth .non = some false := rfl
@[simp] theorem t_bl (b : Bool) : truth (.bl b) = some b := rfl
@[simp] theorem t_int (i : Int) : truth (.int i) = some (i != 0) := rfl
@[simp] theorem t_str (s : List Nat) : truth (.str s) = some (!s.isEmpty) := rfl
@[simp] theorem t_lst (s : List D) : truth (.lst s) = some (!s.isEmpty) := rfl
@[simp] theorem t_tup (s : List D) : truth (.tup s) = some (!s.isEmpty) := rfl
@[simp] theorem tr_some (r : R) : tru (some r) = (frz r).bind truth := rfl
@[simp] theorem tr_none : tru none = none := rfl
@[simp] theorem ti_some (i : Int) : toI (some (.int i)) = some (some i) := rfl
@[simp] theorem o_ret (r : R) : out (.ret r) = some r := rfl
@[simp] theorem o_nx (r : Env) : out (.nx r) = some (.non, .fz) := rfl
@[simp] theorem th_nx (f : Env → Option Out) (ρ : Env) : thn f (.nx ρ) = f ρ := rfl
@[simp] theorem th_ret (f : Env → Option Out) (r : R) : thn f (.ret r) = some (.ret r) := rfl
@[simp] theorem th_brk (f : Env → Option Out) (r : Env) : thn f (.brk r) = some (.brk r) := rfl
@[simp] theorem th_ctn (f : Env → Option Out) (r : Env) : thn f (.ctn r) = some (.ctn r) := rfl
@[simp] theorem a_n (i : Nat) (d : D) (ρ : Env) : asg (.n i) d ρ = some (ρ.set i (some (d, .fz))) := rfl
@[simp] theorem a_t (is : List Nat) (ds : List D) (ρ : Env) : asg (.t is) (.tup ds) ρ = setAll is ds ρ := rfl
@[simp] theorem sa_nil (ρ : Env) : setAll [] [] ρ = some ρ := rfl
@[simp] theorem sa_cons (i : Nat) (is : List Nat) (d : D) (ds : List D) (ρ : Env) : setAll (i :: is) (d :: ds) ρ = setAll is ds (ρ.set i (some (d, .fz))) := rfl
@[simp] theorem w_nil (ρ : Env) : wipeE ρ [] = ρ := rfl
@[simp] theorem w_cons (i : Nat) (is : List Nat) (ρ : Env) : wipeE ρ (i :: is) = (wipeE ρ is).set i none := rfl
@[simp] theorem tg_n (i : Nat) : (Tg.n i).own = [i] := rfl
@[simp] theorem tg_t (i : List Nat) : (Tg.t i).own = i := rfl
@[simp] theorem ng_int (i : Int) : dneg (.int i) = some (.int (-i), .fz) := rfl
@[simp] theorem ow_get (i : Nat) (ρ : Env) : ownR i ρ = ownO (ρ[i]?) := by
  unfold ownR ownO
  rfl
@[simp] theorem oo_top (xs : List D) : ownO (some (some (.lst xs, .top))) = some xs := rfl
@[simp] theorem st_int (ρ : Env) (i : Nat) (xs : List D) (d : D) (j : Int) : stD ρ i xs d (.int j, .fz) = (ixN xs.length j).map fun n => .nx (ρ.set i (some (.lst (xs.set n d), .top))) := rfl
@[simp] theorem au_add (i j : Int) : daug .Add (.int i) (.int j) = some (.int (i + j)) := rfl
@[simp] theorem au_sub (i j : Int) : daug .Sub (.int i) (.int j) = some (.int (i - j)) := rfl
@[simp] theorem b_add (i j : Int) : dbin .Add (.int i) (.int j) = some (.int (i + j), .fz) := rfl
@[simp] theorem b_adds (a b : List Nat) : dbin .Add (.str a) (.str b) = if inLine (a.length + b.length) then some (.str (a ++ b), .fz) else none := by
  rw [← inLine_iff]
  rfl
@[simp] theorem b_addl (a b : List D) : dbin .Add (.lst a) (.lst b) = if inLine (a.length + b.length) then some (.lst (a ++ b), .top) else none := by
  rw [← inLine_iff]
  rfl
@[simp] theorem b_addt (a b : List D) : dbin .Add (.tup a) (.tup b) = if inLine (a.length + b.length) ∧ a ≠ [] ∧ b ≠ [] then some (.tup (a ++ b), .fz) else none := by
  by_cases h : a.length + b.length ≤ sizeLine
  · simp only [dbin, h, inLine, decide_true, true_and]
  · simp only [dbin, h, inLine, decide_false, false_and, Bool.false_eq_true]
@[simp] theorem b_sub (i j : Int) : dbin .Sub (.int i) (.int j) = some (.int (i - j), .fz) := rfl
@[simp] theorem b_mul (i j : Int) : dbin .Mult (.int i) (.int j) = if mulOk i j then some (.int (i * j), .fz) else none := rfl
@[simp] theorem b_mull (a : List D) (k : Int) : dbin .Mult (.lst a) (.int k) = if mulLine a.length k then some (.lst (List.replicate k.toNat a).flatten, .top) else none := by
  unfold mulLine
  simp only [dbin, decide_eq_true_eq]
@[simp] theorem b_div (i j : Int) : dbin .FloorDiv (.int i) (.int j) = if divOk j then some (.int (i.fdiv j), .fz) else none := rfl
@[simp] theorem b_mod (i j : Int) : dbin .Mod (.int i) (.int j) = if j ≠ 0 then some (.int (i.fmod j), .fz) else none := rfl
@[simp] theorem b_pow (i j : Int) : dbin .Pow (.int i) (.int j) = if powOk i j then some (.int (i ^ j.toNat), .fz) else none := rfl
@[simp] theorem e_int (i j : Int) : eqb (.int i) (.int j) = decide (i = j) := by
  rw [eqb_iff']
  simp
@[simp] theorem e_bl (i j : Bool) : eqb (.bl i) (.bl j) = decide (i = j) := by
  rw [eqb_iff']
  simp
@[simp] theorem e_str (i j : List Nat) : eqb (.str i) (.str j) = decide (i = j) := by
  rw [eqb_iff']
  simp
@[simp] theorem c_eqi (i j : Int) : dcmp .Eq (.int i) (.int j) = some (decide (i = j)) := by
  show (if okEq (.int i) (.int j) = true then some (eqb (.int i) (.int j)) else none) = _
  rw [e_int]
  rfl
@[simp] theorem c_nei (i j : Int) : dcmp .NotEq (.int i) (.int j) = some (!decide (i = j)) := by
  show (if okEq (.int i) (.int j) = true then some (!eqb (.int i) (.int j)) else none) = _
  rw [e_int]
  rfl
@[simp] theorem c_eqb (i j : Bool) : dcmp .Eq (.bl i) (.bl j) = some (decide (i = j)) := by
  show (if okEq (.bl i) (.bl j) = true then some (eqb (.bl i) (.bl j)) else none) = _
  rw [e_bl]
  rfl
@[simp] theorem c_eqs (i j : List Nat) : dcmp .Eq (.str i) (.str j) = some (decide (i = j)) := by
  show (if okEq (.str i) (.str j) = true then some (eqb (.str i) (.str j)) else none) = _
  rw [e_str]
  rfl
@[simp] theorem c_nes (i j : List Nat) : dcmp .NotEq (.str i) (.str j) = some (!decide (i = j)) := by
  show (if okEq (.str i) (.str j) = true then some (!eqb (.str i) (.str j)) else none) = _
  rw [e_str]
  rfl
@[simp] theorem c_lt (i j : Int) : dcmp .Lt (.int i) (.int j) = some (decide (i < j)) := rfl
@[simp] theorem c_lte (i j : Int) : dcmp .LtE (.int i) (.int j) = some (decide (i ≤ j)) := rfl
@[simp] theorem c_gt (i j : Int) : dcmp .Gt (.int i) (.int j) = some (decide (j < i)) := rfl
@[simp] theorem c_gte (i j : Int) : dcmp .GtE (.int i) (.int j) = some (decide (j ≤ i)) := rfl
@[simp] theorem c_is (x : D) : dcmp .Is x .non = some (isNon x) := by cases x <;> rfl
@[simp] theorem c_isn (x : D) : dcmp .IsNot x .non = some (!isNon x) := by cases x <;> rfl
@[simp] theorem n_non : isNon .non = true := rfl
@[simp] theorem n_bl (b : Bool) : isNon (.bl b) = false := rfl
@[simp] theorem n_in (b : Int) : isNon (.int b) = false := rfl
@[simp] theorem n_st (b : List Nat) : isNon (.str b) = false := rfl
@[simp] theorem n_ls (b : List D) : isNon (.lst b) = false := rfl
@[simp] theorem n_tu (b : List D) : isNon (.tup b) = false := rfl
@[simp] theorem i_bool_int (b : Bool) : disi "int" (.bl b) = some true := rfl
@[simp] theorem i_bool_bool (b : Bool) : disi "bool" (.bl b) = some true := rfl
@[simp] theorem i_bool_str (b : Bool) : disi "str" (.bl b) = some false := rfl
@[simp] theorem i_bool_list (b : Bool) : disi "list" (.bl b) = some false := rfl
@[simp] theorem i_bool_tuple (b : Bool) : disi "tuple" (.bl b) = some false := rfl
@[simp] theorem i_int_int (b : Int) : disi "int" (.int b) = some true := rfl
@[simp] theorem i_int_bool (b : Int) : disi "bool" (.int b) = some false := rfl
@[simp] theorem i_int_str (b : Int) : disi "str" (.int b) = some false := rfl
@[simp] theorem i_int_list (b : Int) : disi "list" (.int b) = some false := rfl
@[simp] theorem i_int_tuple (b : Int) : disi "tuple" (.int b) = some false := rfl
@[simp] theorem i_str_int (b : List Nat) : disi "int" (.str b) = some false := rfl
@[simp] theorem i_str_bool (b : List Nat) : disi "bool" (.str b) = some false := rfl
@[simp] theorem i_str_str (b : List Nat) : disi "str" (.str b) = some true := rfl
@[simp] theorem i_str_list (b : List Nat) : disi "list" (.str b) = some false := rfl
@[simp] theorem i_str_tuple (b : List Nat) : disi "tuple" (.str b) = some false := rfl
@[simp] theorem i_list_int (b : List D) : disi "int" (.lst b) = some false := rfl
@[simp] theorem i_list_bool (b : List D) : disi "bool" (.lst b) = some false := rfl
@[simp] theorem i_list_str (b : List D) : disi "str" (.lst b) = some false := rfl
@[simp] theorem i_list_list (b : List D) : disi "list" (.lst b) = some true := rfl
@[simp] theorem i_list_tuple (b : List D) : disi "tuple" (.lst b) = some false := rfl
@[simp] theorem i_tuple_int (b : List D) : disi "int" (.tup b) = some false := rfl
@[simp] theorem i_tuple_bool (b : List D) : disi "bool" (.tup b) = some false := rfl
@[simp] theorem i_tuple_str (b : List D) : disi "str" (.tup b) = some false := rfl
@[simp] theorem i_tuple_list (b : List D) : disi "list" (.tup b) = some false := rfl
@[simp] theorem i_tuple_tuple (b : List D) : disi "tuple" (.tup b) = some true := rfl
@[simp] theorem i_NoneType_int  : disi "int" .non = some false := rfl
@[simp] theorem i_NoneType_bool  : disi "bool" .non = some false := rfl
@[simp] theorem i_NoneType_str  : disi "str" .non = some false := rfl
@[simp] theorem i_NoneType_list  : disi "list" .non = some false := rfl
@[simp] theorem i_NoneType_tuple  : disi "tuple" .non = some false := rfl
@[simp] theorem x_lst (xs : List D) (i : Int) : didx (.lst xs) (.int i) = atI xs i := rfl
@[simp] theorem x_tup (xs : List D) (i : Int) : didx (.tup xs) (.int i) = atI xs i := rfl
@[simp] theorem x_str (xs : List Nat) (i : Int) : didx (.str xs) (.int i) = (atI xs i).map fun c => .str [c] := rfl
@[simp] theorem x_scr (xs : List Int) (i : Int) : didx (.scr xs) (.int i) = (atI xs i).map .int := rfl
@[simp] theorem l_lst (xs : List D) (a b : Option Int) : dslc (.lst xs) a b = some (.lst (cutL xs a b), .top) := rfl
@[simp] theorem l_tup (xs : List D) (a b : Option Int) : dslc (.tup xs) a b = some (.tup (cutL xs a b), .fz) := rfl
@[simp] theorem l_str (xs : List Nat) (a b : Option Int) : dslc (.str xs) a b = some (.str (cutL xs a b), .fz) := rfl
@[simp] theorem r_lst (xs : List D) : drev (.lst xs) = some (.lst xs.reverse, .top) := rfl
@[simp] theorem m_lst (xs : List D) : itemsD (.lst xs) = some xs := rfl
@[simp] theorem m_tup (xs : List D) : itemsD (.tup xs) = some xs := rfl
@[simp] theorem m_str (xs : List Nat) : itemsD (.str xs) = some (xs.map fun c => .str [c]) := rfl
@[simp] theorem en_lst (xs : List D) : enumI (.lst xs) = some (enumD 0 xs) := rfl
@[simp] theorem zi_lst (xs ys : List D) : zipI (.lst xs) (.lst ys) = some (zipD xs ys) := rfl
@[simp] theorem ri_lst (xs : List D) : revI (.lst xs) = some xs.reverse := rfl
@[simp] theorem len_lst (xs : List D) : dblt "len" [.lst xs] = some (.int (xs.length : Int), .fz) := rfl
@[simp] theorem len_tup (xs : List D) : dblt "len" [.tup xs] = some (.int (xs.length : Int), .fz) := rfl
@[simp] theorem len_str (xs : List Nat) : dblt "len" [.str xs] = some (.int (xs.length : Int), .fz) := rfl
@[simp] theorem len_scr (xs : List Int) : dblt "len" [.scr xs] = some (.int (xs.length : Int), .fz) := rfl
@[simp] theorem int_int (i : Int) : dblt "int" [.int i] = some (.int i, .fz) := rfl
@[simp] theorem int_bl (b : Bool) : dblt "int" [.bl b] = some (.int (if b then 1 else 0), .fz) := rfl
@[simp] theorem abs_int (i : Int) : dblt "abs" [.int i] = some (.int (if i < 0 then -i else i), .fz) := rfl
@[simp] theorem max_two (i j : Int) : dblt "max" [.int i, .int j] = some (.int (if j > i then j else i), .fz) := rfl
@[simp] theorem min_two (i j : Int) : dblt "min" [.int i, .int j] = some (.int (if j < i then j else i), .fz) := rfl
@[simp] theorem max_lst (xs : List D) : dblt "max" [.lst xs] = (asInts xs).bind fun ns => if ns = [] then none else some (.int (maxI ns), .fz) := rfl
@[simp] theorem min_lst (xs : List D) : dblt "min" [.lst xs] = (asInts xs).bind fun ns => if ns = [] then none else some (.int (minI ns), .fz) := rfl
@[simp] theorem sum_lst (xs : List D) : dblt "sum" [.lst xs] = (asInts xs).map fun ns => (.int ns.sum, .fz) := rfl
@[simp] theorem all_lst (xs : List D) : dblt "all" [.lst xs] = (asBls xs).map fun bs => (.bl (allB bs), .fz) := rfl
@[simp] theorem any_lst (xs : List D) : dblt "any" [.lst xs] = (asBls xs).map fun bs => (.bl (anyB bs), .fz) := rfl
@[simp] theorem list_lst (xs : List D) : dblt "list" [.lst xs] = some (.lst xs, .top) := rfl
@[simp] theorem list_tup (xs : List D) : dblt "list" [.tup xs] = some (.lst xs, .top) := rfl
@[simp] theorem sorted_lst (xs : List D) : dblt "sorted" [.lst xs] = (asInts xs).map fun ns => (.lst ((srtI ns).map .int), .top) := rfl
@[simp] theorem srs_lst (xs : List D) : dsrs (.lst xs) = (asInts xs).bind fun ns => if ns.length < 64 then some (.lst ((srtS ns).map .int), .top) else none := rfl
@[simp] theorem asInts_map (l : List Int) : asInts (l.map D.int) = some l := by
  induction l with
  | nil => rfl
  | cons i r ih =>
    show (asInts (r.map D.int)).map (i :: ·) = _
    rw [ih]
    rfl
@[simp] theorem asBls_map (l : List Bool) : asBls (l.map D.bl) = some l := by
  induction l with
  | nil => rfl
  | cons i r ih =>
    show (asBls (r.map D.bl)).map (i :: ·) = _
    rw [ih]
    rfl
@[simp] theorem v_var (i : Nat) : fvs (.var i) = [i] := rfl
@[simp] theorem v_tup (a : E) : fvs (.tup a) = fvs a := rfl
@[simp] theorem v_lst (a : E) : fvs (.lst a) = fvs a := rfl
@[simp] theorem v_neg (a : E) : fvs (.neg a) = fvs a := rfl
@[simp] theorem v_bnot (a : E) : fvs (.bnot a) = fvs a := rfl
@[simp] theorem v_rev (a : E) : fvs (.rev a) = fvs a := rfl
@[simp] theorem v_gcd (a : E) : fvs (.gcd a) = fvs a := rfl
@[simp] theorem v_lrg1 (a : E) : fvs (.lrg1 a) = fvs a := rfl
@[simp] theorem v_srs (a : E) : fvs (.srs a) = fvs a := rfl
@[simp] theorem v_rpr (a : E) : fvs (.rpr a) = fvs a := rfl
@[simp] theorem v_rng (a : E) : fvs (.rng a) = fvs a := rfl
@[simp] theorem v_enm (a : E) : fvs (.enm a) = fvs a := rfl
@[simp] theorem v_rvd (a : E) : fvs (.rvd a) = fvs a := rfl
@[simp] theorem v_cons (a b : E) : fvs (.cons a b) = fvs a ++ fvs b := rfl
@[simp] theorem v_band (a b : E) : fvs (.band a b) = fvs a ++ fvs b := rfl
@[simp] theorem v_bor (a b : E) : fvs (.bor a b) = fvs a ++ fvs b := rfl
@[simp] theorem v_idx (a b : E) : fvs (.idx a b) = fvs a ++ fvs b := rfl
@[simp] theorem v_lrg2 (a b : E) : fvs (.lrg2 a b) = fvs a ++ fvs b := rfl
@[simp] theorem v_zp (a b : E) : fvs (.zp a b) = fvs a ++ fvs b := rfl
@[simp] theorem v_con (d : D) : fvs (.con d) = [] := rfl
@[simp] theorem v_glo (x : String) (d : D) : fvs (.glo x d) = [] := rfl
@[simp] theorem v_nil : fvs .nil = [] := rfl
@[simp] theorem v_bin (op : Operator) (a b : E) : fvs (.bin op a b) = fvs a ++ fvs b := rfl
@[simp] theorem v_cmp (op : CmpOp) (a b : E) : fvs (.cmp op a b) = fvs a ++ fvs b := rfl
@[simp] theorem v_cmp2 (op op' : CmpOp) (a b c : E) : fvs (.cmp2 op op' a b c) = fvs a ++ fvs b ++ fvs c := rfl
@[simp] theorem v_ite (a b c : E) : fvs (.ite a b c) = fvs a ++ fvs b ++ fvs c := rfl
@[simp] theorem v_slc (a b c : E) : fvs (.slc a b c) = fvs a ++ fvs b ++ fvs c := rfl
@[simp] theorem v_lc (tg : Tg) (a b c : E) : fvs (.lc tg a b c) = fvs a ++ fvs b ++ fvs c := rfl
@[simp] theorem v_call (f : String) (a : E) : fvs (.call f a) = fvs a := rfl
@[simp] theorem v_blt (f : String) (a : E) : fvs (.blt f a) = fvs a := rfl
@[simp] theorem v_isi (a : E) (f : String) : fvs (.isi a f) = fvs a := rfl
@[simp] theorem ir_rng (a : E) : isRng (.rng a) = true := rfl
@[simp] theorem ir_enm (a : E) : isRng (.enm a) = false := rfl
@[simp] theorem ir_zp (a b : E) : isRng (.zp a b) = false := rfl
@[simp] theorem ir_rvd (a : E) : isRng (.rvd a) = false := rfl
@[simp] theorem ir_cons (a b : E) : isRng (.cons a b) = false := rfl

/-! ### plain reasoning over sx and ev -/
theorem lcGo_eq {tgt : D → Env → Option Env} {cnd : Env → Option Bool} {elt : Env → Option D} {ρ : Env} (g : D → Env) (c : D → Bool) (f : D → D) : ∀ {ys : List D},
    (∀ y, y ∈ ys → tgt y ρ = some (g y) ∧ cnd (g y) = some (c y) ∧ (c y = true → elt (g y) = some (f y))) → lcGo tgt cnd elt ys ρ = some ((ys.filter c).map f)
  | [], _ => rfl
  | y :: ys, h => by
    obtain ⟨h1, h2, h3⟩ := h y List.mem_cons_self
    have ih := lcGo_eq g c f (ys := ys) fun z hz => h z (List.mem_cons_of_mem _ hz)
    unfold lcGo
    rw [h1, Option.bind_some, h2, Option.bind_some, ih]
    cases q : c y with
    | false => rw [if_neg Bool.false_ne_true, List.filter_cons_of_neg (by rw [q]; exact Bool.false_ne_true)]
    | true =>
      rw [if_pos rfl, h3 q, List.filter_cons_of_pos q]
      rfl
/-- a loop by what holds at each turn -/
theorem frGo_ind {tgt : D → Env → Option Env} {body : Env → Option Out} (I : List D → Env → Prop) (Post : Out → Prop) (step : ∀ y r ρ, I (y :: r) ρ → ∃ ρ1 o, tgt y ρ = some ρ1 ∧ body ρ1 = some o ∧ (match o with
      | .nx ρ2 => I r ρ2
      | .ctn ρ2 => I r ρ2
      | .brk ρ2 => Post (.nx ρ2)
      | .ret v => Post (.ret v)))
    (done : ∀ ρ, I [] ρ → Post (.nx ρ)) : ∀ {ys : List D} {ρ : Env}, I ys ρ → ∃ o, frGo tgt body ys ρ = some o ∧ Post o
  | [], ρ, h => ⟨_, rfl, done ρ h⟩
  | y :: ys, ρ, h => by
    obtain ⟨ρ1, o, h1, h2, h3⟩ := step y ys ρ h
    unfold frGo
    rw [h1, Option.bind_some, h2, Option.bind_some]
    cases o with
    | nx ρ2 => exact frGo_ind I Post step done h3
    | ctn ρ2 => exact frGo_ind I Post step done h3
    | brk ρ2 => exact ⟨_, rfl, h3⟩
    | ret v => exact ⟨_, rfl, h3⟩
theorem run_succ {Ps : Prog} {fuel n : Nat} {f : String} {ds : List D} {F : Fn} (h : Ps.lookup f = some F) (hl : ds.length = F.np) : run Ps fuel (n + 1) f ds = (sx (run Ps fuel n) fuel F.body (ent F ds)).bind out := by
  show ((Ps.lookup f).bind fun F => if ds.length = F.np then _ else none) = _
  rw [h, Option.bind_some, if_pos hl]
end PL
set_option Elab.async false
set_option linter.all false
set_option maxRecDepth 100000
namespace Cm
open PySem PL
def b_is_whole : S := (.seq (.ret (.band (.isi (.var 0) "int") (.bnot (.isi (.var 0) "bool")))) .nop)
def F_is_whole : Fn := ⟨1, ["value"], b_is_whole⟩
def b_is_within : S := (.seq (.ret (.band (.call "is_whole" (.cons (.var 0) .nil)) (.cmp2 .LtE .LtE (.var 1) (.var 0) (.var 2)))) .nop)
def F_is_within : Fn := ⟨3, ["value", "low", "high"], b_is_within⟩
def b_ascends : S := (.seq (.ret (.blt "all" (.cons (.lc (.n 1) (.rng (.cons (.con (D.int 1)) (.cons (.blt "len" (.cons (.var 0) .nil)) .nil))) (.con (D.bl true)) (.cmp .Lt (.idx (.var 0) (.bin .Sub (.var 1) (.con (D.int 1)))) (.idx (.var 0) (.var 1)))) .nil))) .nop)
def F_ascends : Fn := ⟨1, ["items", "k"], b_ascends⟩
def b_are_numbers : S := (.seq (.ret (.band (.blt "all" (.cons (.lc (.n 2) (.cons (.var 0) .nil) (.con (D.bl true)) (.call "is_within" (.cons (.var 2) (.cons (.con (D.int 0)) (.cons (.bin .Sub (.var 1) (.con (D.int 1))) .nil))))) .nil)) (.call "ascends" (.cons (.var 0) .nil)))) .nop)
def F_are_numbers : Fn := ⟨2, ["numbers", "count", "number"], b_are_numbers⟩
def b__law_cell : S := (.seq (.iff (.cmp .Lt (.var 1) (.blt "len" (.cons (.var 0) .nil))) (.seq (.ret (.blt "int" (.cons (.idx (.var 0) (.var 1)) .nil))) .nop) .nop) (.seq (.ret (.con (D.int 0))) .nop))
def F__law_cell : Fn := ⟨2, ["script", "k"], b__law_cell⟩
def b__law_numbers : S := (.seq (.set 3 (.lst .nil)) (.seq (.iff (.cmp .GtE (.var 0) (.bin .Pow (.con (D.int 10)) (.con (D.int 18)))) (.seq (.fr (.n 4) (.rng (.cons (.var 1) .nil)) (.seq (.app 3 (.bin .Mod (.blt "int" (.cons (.var 0) .nil)) (.var 2))) (.seq (.set 0 (.bin .FloorDiv (.blt "int" (.cons (.var 0) .nil)) (.var 2))) .nop))) (.seq (.ret (.var 3)) .nop)) .nop) (.seq (.fr (.n 4) (.rng (.cons (.var 1) .nil)) (.seq (.set 5 (.bin .Mod (.blt "int" (.cons (.bin .Add (.bin .Add (.bin .Mult (.var 0) (.con (D.int 48271))) (.bin .Mult (.var 4) (.con (D.int 69621)))) (.con (D.int 7))) .nil)) (.con (D.int 2147483647)))) (.seq (.set 5 (.bin .Mod (.blt "int" (.cons (.bin .Add (.bin .Add (.bin .Add (.bin .Mult (.var 5) (.var 5)) (.bin .Mult (.var 5) (.con (D.int 40692)))) (.bin .Mult (.var 4) (.con (D.int 16807)))) (.con (D.int 11))) .nil)) (.con (D.int 2147483399)))) (.seq (.app 3 (.bin .Mod (.blt "int" (.cons (.bin .FloorDiv (.var 5) (.con (D.int 32))) .nil)) (.var 2))) .nop)))) (.seq (.ret (.var 3)) .nop))))
def F__law_numbers : Fn := ⟨3, ["cell", "count", "limit", "found", "k", "mixed"], b__law_numbers⟩
def b__law_same : S := (.seq (.iff (.isi (.var 1) "list") (.seq (.iff (.bor (.bnot (.isi (.var 0) "list")) (.cmp .NotEq (.blt "len" (.cons (.var 0) .nil)) (.blt "len" (.cons (.var 1) .nil)))) (.seq (.ret (.con (D.bl false))) .nop) .nop) .nop) (.seq (.iff (.isi (.var 1) "tuple") (.seq (.iff (.bor (.bnot (.isi (.var 0) "tuple")) (.cmp .NotEq (.blt "len" (.cons (.var 0) .nil)) (.blt "len" (.cons (.var 1) .nil)))) (.seq (.ret (.con (D.bl false))) .nop) .nop) .nop) (.seq (.iff (.cmp .Is (.var 1) (.con D.non)) (.seq (.ret (.cmp .Is (.var 0) (.con D.non))) .nop) (.seq (.iff (.isi (.var 1) "bool") (.seq (.ret (.band (.isi (.var 0) "bool") (.cmp .Eq (.var 0) (.var 1)))) .nop) (.seq (.iff (.isi (.var 1) "int") (.seq (.ret (.band (.isi (.var 0) "int") (.band (.bnot (.isi (.var 0) "bool")) (.cmp .Eq (.var 0) (.var 1))))) .nop) (.seq (.ret (.band (.isi (.var 0) "str") (.cmp .Eq (.var 0) (.var 1)))) .nop)) .nop)) .nop)) .nop)) .nop)) (.seq (.fr (.n 2) (.rng (.cons (.blt "len" (.cons (.var 1) .nil)) .nil)) (.seq (.iff (.bnot (.call "_law_same" (.cons (.idx (.var 0) (.var 2)) (.cons (.idx (.var 1) (.var 2)) .nil)))) (.seq (.ret (.con (D.bl false))) .nop) .nop) .nop)) (.seq (.ret (.con (D.bl true))) .nop)))
def F__law_same : Fn := ⟨2, ["told", "due", "k"], b__law_same⟩
end Cm
set_option Elab.async false
set_option linter.all false
set_option maxRecDepth 100000
namespace PL
open PySem L2

/-! ### lists of ints as data -/
theorem atI_lt {α : Type} {xs : List α} {j : Nat} (h : j < xs.length) : atI xs (j : Int) = some xs[j] := atI_nat (List.getElem?_eq_getElem h)
theorem atI_ints {l : List Int} {j : Nat} (h : j < l.length) : atI (l.map D.int) (j : Int) = some (.int (l.getD j 0)) := by
  rw [atI_lt (by rwa [List.length_map]), List.getElem_map, List.getD_eq_getElem?_getD, List.getElem?_eq_getElem h]
  rfl
theorem mem_upD {a : Int} {n : Nat} {y : D} (h : y ∈ upD a n) : ∃ k : Nat, k < n ∧ .int (a + (k : Int)) = y := by
  obtain ⟨k, hk, e⟩ := List.mem_map.mp h
  exact ⟨k, List.mem_range.mp hk, e⟩
/-- a comprehension over the items m x, x of l -/
theorem lc_if {α : Type} {tgt : D → Env → Option Env} {cnd : Env → Option Bool} {elt : Env → Option D} {ρ : Env} {m : α → D} (g : α → Env) (c : α → Bool) (f : α → D) : ∀ {l : List α},
    (∀ x, x ∈ l → tgt (m x) ρ = some (g x) ∧ cnd (g x) = some (c x) ∧ (c x = true → elt (g x) = some (f x))) → lcGo tgt cnd elt (l.map m) ρ = some ((l.filter c).map f)
  | [], _ => rfl
  | y :: ys, h => by
    obtain ⟨h1, h2, h3⟩ := h y List.mem_cons_self
    have ih := lc_if g c f (l := ys) fun z hz => h z (List.mem_cons_of_mem _ hz)
    rw [List.map_cons]
    unfold lcGo
    rw [h1, Option.bind_some, h2, Option.bind_some, ih]
    cases q : c y with
    | false => rw [if_neg Bool.false_ne_true, List.filter_cons_of_neg (by rw [q]; exact Bool.false_ne_true)]
    | true =>
      rw [if_pos rfl, h3 q, List.filter_cons_of_pos q]
      rfl
theorem lc_all {α : Type} {tgt : D → Env → Option Env} {cnd : Env → Option Bool} {elt : Env → Option D} {ρ : Env} {m : α → D} (g : α → Env) (f : α → D) {l : List α}
    (h : ∀ x, x ∈ l → tgt (m x) ρ = some (g x) ∧ cnd (g x) = some true ∧ elt (g x) = some (f x)) : lcGo tgt cnd elt (l.map m) ρ = some (l.map f) := by
  have e := lc_if (tgt := tgt) (cnd := cnd) (elt := elt) (ρ := ρ) (m := m) g (fun _ => true) f (l := l) fun x hx => ⟨(h x hx).1, (h x hx).2.1, fun _ => (h x hx).2.2⟩
  rw [e, List.filter_eq_self.mpr fun _ _ => rfl]
@[simp] theorem asBls_of {α : Type} (l : List α) (p : α → Bool) : asBls (l.map fun x => D.bl (p x)) = some (l.map p) := by
  have e : (l.map fun x => D.bl (p x)) = (l.map p).map D.bl := by rw [List.map_map]; rfl
  rw [e, asBls_map]
@[simp] theorem asInts_of {α : Type} (l : List α) (p : α → Int) : asInts (l.map fun x => D.int (p x)) = some (l.map p) := by
  have e : (l.map fun x => D.int (p x)) = (l.map p).map D.int := by rw [List.map_map]; rfl
  rw [e, asInts_map]
theorem mulOk_of {i j : Int} (h : i.natAbs ≤ 4294967296 ∨ j.natAbs ≤ 4294967296) : mulOk i j = true := decide_eq_true (by
  rcases h with h | h
  · exact .inl (by omega)
  · exact .inr (.inl (by omega)))
theorem line_le {n : Nat} (h : n ≤ 1000000) : n ≤ sizeLine := by
  rw [sizeLine_eq]
  omega
theorem line_lt {n : Nat} (h : n ≤ 1000000) : n < sizeLine := by
  rw [sizeLine_eq]
  omega
end PL
namespace Cm
open PySem PL L2
variable {Ps : Prog} {n : Nat}
theorem is_whole (h : Ps.lookup "is_whole" = some F_is_whole) (i : Int) : run Ps 1000 (n + 1) "is_whole" [.int i] = some (.bl true, .fz) := by
  rw [run_succ h rfl]
  simp -implicitDefEqProofs [F_is_whole, b_is_whole, ent, fvs]
theorem is_within (h : Ps.lookup "is_whole" = some F_is_whole) (h2 : Ps.lookup "is_within" = some F_is_within) (i lo hi : Int) : run Ps 1000 (n + 2) "is_within" [.int i, .int lo, .int hi] = some (.bl (decide (lo ≤ i ∧ i ≤ hi)), .fz) := by
  rw [run_succ h2 rfl]
  by_cases h : lo ≤ i <;> simp -implicitDefEqProofs [F_is_within, b_is_within, ent, fvs, is_whole (by assumption), h]
/-- the neighbours ascend -/
def asc1 (l : List Int) (k : Nat) : Bool := decide (l.getD k 0 < l.getD (k + 1) 0)
def asc (l : List Int) : Bool := allB ((List.range (l.length - 1)).map (asc1 l))
theorem ascends (h : Ps.lookup "ascends" = some F_ascends) (l : List Int) (hl : l.length ≤ 1000000) : run Ps 1000 (n + 1) "ascends" [.lst (l.map .int)] = some (.bl (asc l), .fz) := by
  rw [run_succ h rfl]
  simp -implicitDefEqProofs [F_ascends, b_ascends, ent, fvs]
  rw [rngD_two 1 (l.length : Int) (by omega) (by omega) (by omega) (by omega)]
  simp -implicitDefEqProofs
  rw [upD, lc_all (fun k : Nat => [some (.lst (l.map .int), .fz), some (.int (1 + (k : Int)), .fz)]) (fun k => .bl (asc1 l k))]
  · simp -implicitDefEqProofs [asc]
  · intro k hk
    rw [List.mem_range] at hk
    have e2 : (1 : Int) + k = ((k + 1 : Nat) : Int) := by omega
    have e3 : ((k + 1 : Nat) : Int) - 1 = (k : Int) := by omega
    rw [e2]
    refine ⟨by simp, by simp, ?_⟩
    simp -implicitDefEqProofs [-Int.natCast_add, e3, atI_ints (l := l) (j := k) (by omega), atI_ints (l := l) (j := k + 1) (by omega), asc1]
/-- all within -/
def wi1 (c x : Int) : Bool := decide (0 ≤ x ∧ x ≤ c - 1)
def wi (l : List Int) (c : Int) : Bool := allB (l.map (wi1 c))
theorem are_numbers (h : Ps.lookup "is_whole" = some F_is_whole) (h2 : Ps.lookup "is_within" = some F_is_within) (h3 : Ps.lookup "ascends" = some F_ascends) (h4 : Ps.lookup "are_numbers" = some F_are_numbers) (l : List Int) (hl : l.length ≤ 1000000) (c : Int) :
    run Ps 1000 (n + 3) "are_numbers" [.lst (l.map .int), .int c] = some (.bl (wi l c && asc l), .fz) := by
  rw [run_succ h4 rfl]
  simp -implicitDefEqProofs [F_are_numbers, b_are_numbers, ent, fvs]
  rw [lc_all (fun x : Int => [some (.lst (l.map .int), .fz), some (.int c, .fz), some (.int x, .fz)]) (fun x => .bl (wi1 c x))]
  · have e : allB (l.map (wi1 c)) = wi l c := rfl
    cases q : wi l c <;> simp -implicitDefEqProofs [ascends h3 l hl, e, q]
  · intro x hx
    refine ⟨by simp, by simp, ?_⟩
    simp -implicitDefEqProofs [is_within h h2, wi1]
/-- the law's cell -/
theorem law_cell (h : Ps.lookup "_law_cell" = some F__law_cell) (ns : List Int) (k : Nat) : run Ps 1000 (n + 1) "_law_cell" [.scr ns, .int (k : Int)] = some (.int (ns.getD k 0), .fz) := by
  rw [run_succ h rfl]
  by_cases hk : k < ns.length
  · simp -implicitDefEqProofs [F__law_cell, b__law_cell, ent, fvs, hk, atI_lt hk]
  · simp -implicitDefEqProofs [F__law_cell, b__law_cell, ent, fvs, hk]
/-- the law's numbers -/
theorem law_numbers (h : Ps.lookup "_law_numbers" = some F__law_numbers) (cell : Int) (k : Nat) (hk : k ≤ 1000) : ∃ l : List Int, l.length = k ∧ (∀ x, x ∈ l → 0 ≤ x ∧ x < 5040) ∧ run Ps 1000 (n + 1) "_law_numbers" [.int cell, .int (k : Int), .int 5040] = some (.lst (l.map .int), .top) := by
  rw [run_succ h rfl]
  have md : ∀ x : Int, 0 ≤ x.fmod 5040 ∧ x.fmod 5040 < 5040 := fun x => ⟨Int.fmod_nonneg_of_pos _ (by omega), Int.fmod_lt_of_pos _ (by omega)⟩
  have ups : ∀ y, y ∈ upD 0 k → ∃ j : Nat, y = .int (j : Int) ∧ j < 1000 := fun y hy => by
    obtain ⟨j, hj, e⟩ := mem_upD hy
    exact ⟨j, by rw [← e]; congr 1; omega, by omega⟩
  let I (two : Bool) (ys : List D) (ρ : PL.Env) : Prop := ∃ (c : Int) (l : List Int) (x4 x5 : Option R), ρ = [some (.int c, .fz), some (.int k, .fz), some (.int 5040, .fz), some (.lst (l.map .int), .top), x4, x5] ∧ l.length + ys.length = k ∧ (∀ x, x ∈ l → 0 ≤ x ∧ x < 5040) ∧ ∀ y, y ∈ ys → ∃ j : Nat, y = .int (j : Int) ∧ j < 1000
  let Post (o : Out) : Prop := ∃ (c : Int) (l : List Int) (x4 x5 : Option R), o = .nx [some (.int c, .fz), some (.int k, .fz), some (.int 5040, .fz), some (.lst (l.map .int), .top), x4, x5] ∧ l.length = k ∧ (∀ x, x ∈ l → 0 ≤ x ∧ x < 5040)
  have done : ∀ ρ, I true [] ρ → Post (.nx ρ) := by
    rintro ρ ⟨c, l, x4, x5, e, h1, h2, _⟩
    exact ⟨c, l, x4, x5, by rw [e], h1, h2⟩
  have app : ∀ (l : List Int) (x : Int), (∀ x, x ∈ l → 0 ≤ x ∧ x < 5040) → ∀ y, y ∈ l ++ [x.fmod 5040] → 0 ≤ y ∧ y < 5040 := by
    intro l x hl y hy
    rcases List.mem_append.mp hy with hy | hy
    · exact hl y hy
    · rw [List.mem_singleton.mp hy]
      exact md x
  by_cases big : 1000000000000000000 ≤ cell
  · obtain ⟨o, e1, c, l, x4, x5, rfl, e3, e4⟩ := frGo_ind (tgt := asg (.n 4)) (body := sx (run Ps 1000 n) 1000 (.seq (.app 3 (.bin .Mod (.blt "int" (.cons (.var 0) .nil)) (.var 2))) (.seq (.set 0 (.bin .FloorDiv (.blt "int" (.cons (.var 0) .nil)) (.var 2))) .nop)))
      (I true) Post (fun y r ρ => by
        rintro ⟨c, l, x4, x5, rfl, h1, h2, h3⟩
        obtain ⟨j, rfl, hj⟩ := h3 y List.mem_cons_self
        refine ⟨_, .nx [some (.int (c.fdiv 5040), .fz), some (.int k, .fz), some (.int 5040, .fz), some (.lst ((l ++ [c.fmod 5040]).map .int), .top), some (.int j, .fz), x5], rfl, ?_, ?_⟩
        · rw [List.length_cons] at h1
          simp -implicitDefEqProofs [fvs, inLine1_of (n := l.length) (by omega), divOk]
        · refine ⟨_, l ++ [c.fmod 5040], _, _, rfl, ?_, app l c h2, fun z hz => h3 z (List.mem_cons_of_mem _ hz)⟩
          rw [List.length_append, List.length_singleton]
          rw [List.length_cons] at h1
          omega) done (ys := upD 0 k) (ρ := [some (.int cell, .fz), some (.int k, .fz), some (.int 5040, .fz), some (.lst [], .top), none, none])
      ⟨cell, [], none, none, rfl, by rw [upD_length]; exact Nat.zero_add _, fun _ h => (nomatch h), ups⟩
    refine ⟨l, e3, e4, ?_⟩
    simp -implicitDefEqProofs [F__law_numbers, b__law_numbers, ent, fvs, rngD_nat k (by omega), powOk, isRng, big, e1]
  · obtain ⟨o, e1, c, l, x4, x5, rfl, e3, e4⟩ := frGo_ind (tgt := asg (.n 4)) (body := sx (run Ps 1000 n) 1000 ((S.set 5
                                (E.bin .Mod
                                  (E.blt "int"
                                    ((E.bin .Add
                                          (E.bin .Add (E.bin .Mult (E.var 0) (E.con (D.int 48271)))
                                            (E.bin .Mult (E.var 4) (E.con (D.int 69621))))
                                          (E.con (D.int 7))).cons
                                      E.nil))
                                  (E.con (D.int 2147483647)))).seq
                            ((S.set 5
                                  (E.bin .Mod
                                    (E.blt "int"
                                      ((E.bin .Add
                                            (E.bin .Add
                                              (E.bin .Add (E.bin .Mult (E.var 5) (E.var 5))
                                                (E.bin .Mult (E.var 5) (E.con (D.int 40692))))
                                              (E.bin .Mult (E.var 4) (E.con (D.int 16807))))
                                            (E.con (D.int 11))).cons
                                        E.nil))
                                    (E.con (D.int 2147483399)))).seq
                              ((S.app 3
                                    (E.bin .Mod
                                      (E.blt "int" ((E.bin .FloorDiv (E.var 5) (E.con (D.int 32))).cons E.nil))
                                      (E.var 2))).seq
                                S.nop))))
      (I true) Post (fun y r ρ => by
        rintro ⟨c, l, x4, x5, rfl, h1, h2, h3⟩
        obtain ⟨j, rfl, hj⟩ := h3 y List.mem_cons_self
        obtain ⟨m, em⟩ : ∃ m, m = (c * 48271 + (j : Int) * 69621 + 7).fmod 2147483647 := ⟨_, rfl⟩
        have m0 : 0 ≤ m := by
          rw [em]
          exact Int.fmod_nonneg_of_pos _ (by omega)
        have m1 : m < 2147483647 := by
          rw [em]
          exact Int.fmod_lt_of_pos _ (by omega)
        obtain ⟨m2, em2⟩ : ∃ m2, m2 = (m * m + m * 40692 + (j : Int) * 16807 + 11).fmod 2147483399 := ⟨_, rfl⟩
        refine ⟨_, .nx [some (.int c, .fz), some (.int k, .fz), some (.int 5040, .fz), some (.lst ((l ++ [(m2.fdiv 32).fmod 5040]).map .int), .top), some (.int j, .fz), some (.int m2, .fz)], rfl, ?_, ?_⟩
        · rw [List.length_cons] at h1
          have k1 : mulOk c 48271 = true := mulOk_of (.inr (by omega))
          have k2 : mulOk (j : Int) 69621 = true := mulOk_of (.inr (by omega))
          have k3 : mulOk m m = true := mulOk_of (.inr (by omega))
          have k4 : mulOk m 40692 = true := mulOk_of (.inr (by omega))
          have k5 : mulOk (j : Int) 16807 = true := mulOk_of (.inr (by omega))
          simp -implicitDefEqProofs [fvs, inLine1_of (n := l.length) (by omega), divOk, k1, k2, ← em, k3, k4, k5, ← em2]
        · refine ⟨_, l ++ [(m2.fdiv 32).fmod 5040], _, _, rfl, ?_, app l _ h2, fun z hz => h3 z (List.mem_cons_of_mem _ hz)⟩
          rw [List.length_append, List.length_singleton]
          rw [List.length_cons] at h1
          omega) done (ys := upD 0 k) (ρ := [some (.int cell, .fz), some (.int k, .fz), some (.int 5040, .fz), some (.lst [], .top), none, none])
      ⟨cell, [], none, none, rfl, by rw [upD_length]; exact Nat.zero_add _, fun _ h => (nomatch h), ups⟩
    refine ⟨l, e3, e4, ?_⟩
    simp -implicitDefEqProofs [F__law_numbers, b__law_numbers, ent, fvs, rngD_nat k (by omega), powOk, isRng, big, e1]
/-- what the law's own test of likeness says of two truth values -/
theorem same_bl (h : Ps.lookup "_law_same" = some F__law_same) (a b : Bool) : run Ps 1000 (n + 1) "_law_same" [.bl a, .bl b] = some (.bl (a == b), .fz) := by
  rw [run_succ h rfl]
  cases a <;> cases b <;> simp -implicitDefEqProofs [F__law_same, b__law_same, ent, fvs]
end Cm
set_option Elab.async false
set_option linter.all false
set_option maxRecDepth 100000
namespace K66
open PySem PL
abbrev F_is_whole : Fn := Cm.F_is_whole
abbrev F_is_within : Fn := Cm.F_is_within
abbrev F_ascends : Fn := Cm.F_ascends
abbrev F_are_numbers : Fn := Cm.F_are_numbers
def b_find_wear : S := (.seq (.set 3 (.lst .nil)) (.seq (.set 4 (.con (D.int 0))) (.seq (.fr (.t [5, 6]) (.enm (.var 0)) (.seq (.iff (.bor (.cmp .Gt (.var 6) (.var 1)) (.cmp .Gt (.bin .Add (.var 4) (.var 6)) (.bin .Mult (.var 1) (.var 2)))) (.seq (.ret (.tup (.cons (.con (D.str [102, 97, 105, 108, 115])) (.cons (.var 5) .nil)))) .nop) .nop) (.seq (.app 3 (.blt "sorted" (.cons (.lc (.n 7) (.rng (.cons (.var 4) (.cons (.bin .Add (.var 4) (.var 6)) .nil))) (.con (D.bl true)) (.bin .Mod (.var 7) (.var 1))) .nil))) (.seq (.aug 4 .Add (.var 6)) .nop)))) (.seq (.ret (.tup (.cons (.con (D.str [108, 97, 115, 116, 115])) (.cons (.var 3) .nil)))) .nop))))
def F_find_wear : Fn := ⟨3, ["needs", "count", "uses", "plan", "taken", "k", "need", "number"], b_find_wear⟩
def b_are_plans : S := (.seq (.iff (.bor (.cmp .NotEq (.blt "len" (.cons (.var 3) .nil)) (.blt "len" (.cons (.var 0) .nil))) (.bnot (.blt "all" (.cons (.lc (.t [4, 5]) (.zp (.var 3) (.var 0)) (.con (D.bl true)) (.cmp .Eq (.blt "len" (.cons (.var 4) .nil)) (.var 5))) .nil)))) (.seq (.ret (.con (D.bl false))) .nop) .nop) (.seq (.iff (.bnot (.blt "all" (.cons (.lc (.n 4) (.cons (.var 3) .nil) (.con (D.bl true)) (.call "are_numbers" (.cons (.var 4) (.cons (.var 1) .nil)))) .nil))) (.seq (.ret (.con (D.bl false))) .nop) .nop) (.seq (.ret (.blt "all" (.cons (.lc (.n 6) (.rng (.cons (.var 1) .nil)) (.con (D.bl true)) (.cmp .LtE (.blt "len" (.cons (.lc (.n 4) (.cons (.var 3) .nil) (.cmp .In (.var 6) (.var 4)) (.var 4)) .nil)) (.var 2))) .nil))) .nop)))
def F_are_plans : Fn := ⟨4, ["needs", "count", "uses", "plan", "some", "need", "number"], b_are_plans⟩
def b_judge_wear : S := (.seq (.iff (.cmp .NotEq (.blt "len" (.cons (.var 3) .nil)) (.con (D.int 2))) (.seq (.ret (.con (D.bl false))) .nop) .nop) (.seq (.iff (.cmp .Eq (.idx (.var 3) (.con (D.int 0))) (.con (D.str [108, 97, 115, 116, 115]))) (.seq (.ret (.call "are_plans" (.cons (.var 0) (.cons (.var 1) (.cons (.var 2) (.cons (.idx (.var 3) (.con (D.int 1))) .nil)))))) .nop) .nop) (.seq (.iff (.bor (.cmp .NotEq (.idx (.var 3) (.con (D.int 0))) (.con (D.str [102, 97, 105, 108, 115]))) (.bnot (.call "is_within" (.cons (.idx (.var 3) (.con (D.int 1))) (.cons (.con (D.int 0)) (.cons (.bin .Sub (.blt "len" (.cons (.var 0) .nil)) (.con (D.int 1))) .nil)))))) (.seq (.ret (.con (D.bl false))) .nop) .nop) (.seq (.set 4 (.idx (.var 3) (.con (D.int 1)))) (.seq (.ret (.bor (.cmp .Gt (.idx (.var 0) (.var 4)) (.var 1)) (.cmp .Gt (.blt "sum" (.cons (.slc (.var 0) .nil (.cons (.bin .Add (.var 4) (.con (D.int 1))) .nil)) .nil)) (.bin .Mult (.var 1) (.var 2))))) .nop)))))
def F_judge_wear : Fn := ⟨4, ["needs", "count", "uses", "verdict", "k"], b_judge_wear⟩
abbrev F__law_cell : Fn := Cm.F__law_cell
abbrev F__law_numbers : Fn := Cm.F__law_numbers
abbrev F__law_same : Fn := Cm.F__law_same
def b__law_needs : S := (.seq (.set 3 (.call "_law_numbers" (.cons (.call "_law_cell" (.cons (.var 0) (.cons (.var 1) .nil))) (.cons (.con (D.int 36)) (.cons (.con (D.int 5040)) .nil))))) (.seq (.set 4 (.bin .Add (.con (D.int 1)) (.bin .Mod (.idx (.var 3) (.con (D.int 0))) (.con (D.int 6))))) (.seq (.set 5 (.bin .Add (.con (D.int 1)) (.bin .Mod (.idx (.var 3) (.con (D.int 1))) (.con (D.int 4))))) (.seq (.set 6 (.lc (.n 7) (.rng (.cons (.bin .Mod (.idx (.var 3) (.con (D.int 2))) (.bin .Add (.var 2) (.con (D.int 1)))) .nil)) (.con (D.bl true)) (.bin .Mod (.idx (.var 3) (.bin .Add (.con (D.int 4)) (.var 7))) (.bin .Add (.var 4) (.con (D.int 1)))))) (.seq (.iff (.band (.cmp .Eq (.bin .Mod (.idx (.var 3) (.con (D.int 3))) (.con (D.int 4))) (.con (D.int 0))) (.cmp .Gt (.blt "len" (.cons (.var 6) .nil)) (.con (D.int 0)))) (.seq (.sti 6 (.bin .Mod (.bin .FloorDiv (.idx (.var 3) (.con (D.int 3))) (.con (D.int 4))) (.blt "len" (.cons (.var 6) .nil))) (.bin .Add (.bin .Add (.var 4) (.con (D.int 1))) (.bin .Mod (.idx (.var 3) (.con (D.int 3))) (.con (D.int 3))))) .nop) .nop) (.seq (.ret (.tup (.cons (.var 6) (.cons (.var 4) (.cons (.var 5) .nil))))) .nop))))))
def F__law_needs : Fn := ⟨3, ["script", "at", "most", "draws", "count", "uses", "needs", "k"], b__law_needs⟩
def b__law_accepts_wear : S := (.seq (.iff (.cmp .NotEq (.blt "len" (.cons (.var 3) .nil)) (.con (D.int 2))) (.seq (.ret (.con (D.bl false))) .nop) .nop) (.seq (.iff (.cmp .Eq (.idx (.var 3) (.con (D.int 0))) (.con (D.str [102, 97, 105, 108, 115]))) (.seq (.set 4 (.idx (.var 3) (.con (D.int 1)))) (.seq (.ret (.band (.cmp .LtE (.con (D.int 0)) (.var 4)) (.band (.cmp .Lt (.var 4) (.blt "len" (.cons (.var 0) .nil))) (.bor (.cmp .Gt (.idx (.var 0) (.var 4)) (.var 1)) (.cmp .Gt (.blt "sum" (.cons (.slc (.var 0) (.cons (.con (D.int 0)) .nil) (.cons (.bin .Add (.var 4) (.con (D.int 1))) .nil)) .nil)) (.bin .Mult (.var 1) (.var 2))))))) .nop)) .nop) (.seq (.iff (.bor (.cmp .NotEq (.idx (.var 3) (.con (D.int 0))) (.con (D.str [108, 97, 115, 116, 115]))) (.cmp .NotEq (.blt "len" (.cons (.idx (.var 3) (.con (D.int 1))) .nil)) (.blt "len" (.cons (.var 0) .nil)))) (.seq (.ret (.con (D.bl false))) .nop) .nop) (.seq (.set 5 (.lc (.n 6) (.rng (.cons (.var 1) .nil)) (.con (D.bl true)) (.con (D.int 0)))) (.seq (.fr (.n 4) (.rng (.cons (.blt "len" (.cons (.var 0) .nil)) .nil)) (.seq (.set 7 (.idx (.idx (.var 3) (.con (D.int 1))) (.var 4))) (.seq (.iff (.bor (.cmp .NotEq (.blt "len" (.cons (.var 7) .nil)) (.idx (.var 0) (.var 4))) (.cmp .NotEq (.var 7) (.lc (.n 6) (.rng (.cons (.var 1) .nil)) (.cmp .In (.var 6) (.var 7)) (.var 6)))) (.seq (.ret (.con (D.bl false))) .nop) .nop) (.seq (.fr (.n 6) (.cons (.var 7) .nil) (.seq (.sti 5 (.var 6) (.bin .Add (.idx (.var 5) (.var 6)) (.con (D.int 1)))) .nop)) .nop)))) (.seq (.ret (.cmp .LtE (.blt "max" (.cons (.var 5) .nil)) (.var 2))) .nop))))))
def F__law_accepts_wear : Fn := ⟨4, ["needs", "count", "uses", "paper", "k", "worn", "number", "row"], b__law_accepts_wear⟩
def b__law_papers : S := (.seq (.set 4 (.lst (.cons (.var 2) (.cons (.bin .Add (.var 2) (.tup (.cons (.con (D.int 0)) .nil))) (.cons (.slc (.var 2) (.cons (.con (D.int 0)) .nil) (.cons (.con (D.int 1)) .nil)) (.cons (.tup (.cons (.con (D.str [108, 97, 115, 116])) (.cons (.idx (.var 2) (.con (D.int 1))) .nil))) (.cons (.tup (.cons (.con (D.str [108, 97, 115, 116, 115])) (.cons (.lst .nil) .nil))) (.cons (.tup (.cons (.con (D.str [108, 97, 115, 116, 115])) (.cons (.lc (.n 5) (.cons (.var 0) .nil) (.con (D.bl true)) (.lrg1 (.var 5))) .nil))) .nil)))))))) (.seq (.set 4 (.bin .Add (.var 4) (.lst (.cons (.tup (.cons (.con (D.str [108, 97, 115, 116, 115])) (.cons (.lc (.n 5) (.cons (.var 0) .nil) (.con (D.bl true)) (.lrg2 (.blt "max" (.cons (.con (D.int 0)) (.cons (.bin .Sub (.var 1) (.var 5)) .nil))) (.var 1))) .nil))) (.cons (.tup (.cons (.con (D.str [108, 97, 115, 116, 115])) (.cons (.lc (.n 5) (.cons (.var 0) .nil) (.con (D.bl true)) (.lst .nil)) .nil))) .nil))))) (.seq (.set 4 (.bin .Add (.var 4) (.lc (.n 6) (.rng (.cons (.neg (.con (D.int 1))) (.cons (.bin .Add (.blt "len" (.cons (.var 0) .nil)) (.con (D.int 1))) .nil))) (.con (D.bl true)) (.tup (.cons (.con (D.str [102, 97, 105, 108, 115])) (.cons (.var 6) .nil)))))) (.seq (.iff (.band (.cmp .Eq (.idx (.var 2) (.con (D.int 0))) (.con (D.str [108, 97, 115, 116, 115]))) (.cmp .Gt (.blt "len" (.cons (.var 0) .nil)) (.con (D.int 0)))) (.seq (.set 7 (.idx (.var 2) (.con (D.int 1)))) (.seq (.set 4 (.bin .Add (.var 4) (.lst (.cons (.tup (.cons (.con (D.str [108, 97, 115, 116, 115])) (.cons (.slc (.var 7) (.cons (.con (D.int 1)) .nil) .nil) .nil))) (.cons (.tup (.cons (.con (D.str [108, 97, 115, 116, 115])) (.cons (.rev (.var 7)) .nil))) (.cons (.tup (.cons (.con (D.str [108, 97, 115, 116, 115])) (.cons (.bin .Add (.var 7) (.lst (.cons (.lst .nil) .nil))) .nil))) (.cons (.tup (.cons (.con (D.str [108, 97, 115, 116, 115])) (.cons (.bin .Add (.var 7) (.slc (.var 7) (.cons (.con (D.int 0)) .nil) (.cons (.con (D.int 1)) .nil))) .nil))) .nil))))))) (.seq (.fr (.n 8) (.cons (.var 3) .nil) (.seq (.set 9 (.bin .Mod (.var 8) (.blt "len" (.cons (.var 7) .nil)))) (.seq (.set 10 (.idx (.var 7) (.var 9))) (.seq (.set 11 (.lst (.cons (.rev (.var 10)) (.cons (.slc (.var 10) (.cons (.con (D.int 1)) .nil) .nil) (.cons (.bin .Add (.var 10) (.lst (.cons (.var 1) .nil))) (.cons (.bin .Add (.var 10) (.slc (.var 10) (.cons (.con (D.int 0)) .nil) (.cons (.con (D.int 1)) .nil))) (.cons (.bin .Add (.lst (.cons (.neg (.con (D.int 1))) .nil)) (.var 10)) (.cons (.srs (.bin .Add (.var 10) (.lst (.cons (.bin .Mod (.bin .FloorDiv (.var 8) (.con (D.int 7))) (.var 1)) .nil)))) (.cons (.srs (.lc (.n 12) (.cons (.var 10) .nil) (.con (D.bl true)) (.bin .Mod (.blt "int" (.cons (.bin .Add (.var 12) (.con (D.int 1))) .nil)) (.var 1)))) .nil))))))))) (.seq (.fr (.n 13) (.cons (.var 11) .nil) (.seq (.app 4 (.tup (.cons (.con (D.str [108, 97, 115, 116, 115])) (.cons (.bin .Add (.bin .Add (.slc (.var 7) (.cons (.con (D.int 0)) .nil) (.cons (.var 9) .nil)) (.lst (.cons (.var 13) .nil))) (.slc (.var 7) (.cons (.bin .Add (.var 9) (.con (D.int 1))) .nil) .nil)) .nil)))) .nop)) .nop))))) .nop))) .nop) (.seq (.ret (.var 4)) .nop)))))
def F__law_papers : Fn := ⟨4, ["needs", "count", "told", "draws", "found", "need", "k", "plan", "draw", "at", "row", "news", "number", "new"], b__law_papers⟩
def b_law : S := (.seq (.unp [1, 2, 3] (.call "_law_needs" (.cons (.var 0) (.cons (.con (D.int 0)) (.cons (.con (D.int 6)) .nil))))) (.seq (.set 4 (.call "_law_numbers" (.cons (.call "_law_cell" (.cons (.var 0) (.cons (.con (D.int 1)) .nil))) (.cons (.con (D.int 4)) (.cons (.con (D.int 5040)) .nil))))) (.seq (.set 5 (.call "find_wear" (.cons (.var 1) (.cons (.var 2) (.cons (.var 3) .nil))))) (.seq (.iff (.bnot (.call "_law_same" (.cons (.call "judge_wear" (.cons (.var 1) (.cons (.var 2) (.cons (.var 3) (.cons (.var 5) .nil))))) (.cons (.con (D.bl true)) .nil)))) (.seq (.ret (.con (D.bl false))) .nop) .nop) (.seq (.fr (.n 6) (.cons (.call "_law_papers" (.cons (.var 1) (.cons (.var 2) (.cons (.var 5) (.cons (.var 4) .nil))))) .nil) (.seq (.set 7 (.rpr (.var 6))) (.seq (.set 8 (.call "judge_wear" (.cons (.var 1) (.cons (.var 2) (.cons (.var 3) (.cons (.var 6) .nil)))))) (.seq (.iff (.bor (.bnot (.call "_law_same" (.cons (.var 8) (.cons (.call "_law_accepts_wear" (.cons (.var 1) (.cons (.var 2) (.cons (.var 3) (.cons (.var 6) .nil))))) .nil)))) (.bor (.cmp .NotEq (.rpr (.var 6)) (.var 7)) (.band (.var 8) (.cmp .NotEq (.idx (.var 6) (.con (D.int 0))) (.idx (.var 5) (.con (D.int 0))))))) (.seq (.ret (.con (D.bl false))) .nop) .nop) .nop)))) (.seq (.ret (.con (D.bl true))) .nop))))))
def F_law : Fn := ⟨1, ["script", "needs", "count", "uses", "draws", "told", "paper", "kept", "answer"], b_law⟩
def Ps : Prog := [("is_whole", F_is_whole), ("is_within", F_is_within), ("ascends", F_ascends), ("are_numbers", F_are_numbers), ("find_wear", F_find_wear), ("are_plans", F_are_plans), ("judge_wear", F_judge_wear), ("_law_cell", F__law_cell), ("_law_numbers", F__law_numbers), ("_law_same", F__law_same), ("_law_needs", F__law_needs), ("_law_accepts_wear", F__law_accepts_wear), ("_law_papers", F__law_papers)]
def T0 : Tab := ⟨Ps.map fun p => (p.1, p.2.np), ["all", "bool", "enumerate", "int", "isinstance", "len", "list", "max", "range", "repr", "set", "sorted", "str", "sum", "tuple", "zip"], [], false, false⟩
end K66
set_option Elab.async false
set_option linter.all false
set_option maxRecDepth 100000
namespace K66
open PySem PL L2
variable {n : Nat}
theorem fm {x : Int} {k : Int} (h : 0 < k) : 0 ≤ x.fmod k ∧ x.fmod k < k := ⟨Int.fmod_nonneg_of_pos _ h, Int.fmod_lt_of_pos _ h⟩
theorem r_needs (ns : List Int) : ∃ (needs : List Int) (c u : Nat), needs.length ≤ 6 ∧ (∀ x, x ∈ needs → 0 ≤ x ∧ x ≤ c + 3) ∧ 1 ≤ c ∧ c ≤ 6 ∧ 1 ≤ u ∧ u ≤ 4 ∧
    run Ps 1000 (n + 2) "_law_needs" [.scr ns, .int 0, .int 6] = some (.tup [.lst (needs.map .int), .int c, .int u], .fz) := by
  obtain ⟨cell, e0⟩ : ∃ cell, run Ps 1000 (n + 1) "_law_cell" [.scr ns, .int 0] = some (.int cell, .fz) := ⟨_, Cm.law_cell rfl ns 0⟩
  obtain ⟨l, hl, hb, e1⟩ : ∃ l : List Int, l.length = 36 ∧ (∀ x, x ∈ l → 0 ≤ x ∧ x < 5040) ∧ run Ps 1000 (n + 1) "_law_numbers" [.int cell, .int 36, .int 5040] = some (.lst (l.map .int), .top) := Cm.law_numbers (Ps := Ps) (n := n) rfl cell 36 (by omega)
  have a0 : atI (l.map D.int) 0 = some (.int (l.getD 0 0)) := atI_ints (j := 0) (by omega)
  have a1 : atI (l.map D.int) 1 = some (.int (l.getD 1 0)) := atI_ints (j := 1) (by omega)
  have a2 : atI (l.map D.int) 2 = some (.int (l.getD 2 0)) := atI_ints (j := 2) (by omega)
  have a3 : atI (l.map D.int) 3 = some (.int (l.getD 3 0)) := atI_ints (j := 3) (by omega)
  generalize l.getD 0 0 = d0 at a0
  generalize l.getD 1 0 = d1 at a1
  generalize l.getD 2 0 = d2 at a2
  generalize l.getD 3 0 = d3 at a3
  obtain ⟨f0, f0'⟩ := fm (x := d0) (k := 6) (by omega)
  obtain ⟨f1, f1'⟩ := fm (x := d1) (k := 4) (by omega)
  obtain ⟨f2, f2'⟩ := fm (x := d2) (k := 7) (by omega)
  obtain ⟨f3, f3'⟩ := fm (x := d3) (k := 3) (by omega)
  obtain ⟨c, hc⟩ : ∃ c : Nat, 1 + d0.fmod 6 = (c : Int) := ⟨(1 + d0.fmod 6).toNat, by omega⟩
  obtain ⟨u, hu⟩ : ∃ c : Nat, 1 + d1.fmod 4 = (c : Int) := ⟨(1 + d1.fmod 4).toNat, by omega⟩
  obtain ⟨m, hm⟩ : ∃ c : Nat, d2.fmod 7 = (c : Int) := ⟨(d2.fmod 7).toNat, by omega⟩
  obtain ⟨needs, hn⟩ : ∃ needs : List Int, needs = (List.range m).map fun k => (l.getD (4 + k) 0).fmod ((c : Int) + 1) := ⟨_, rfl⟩
  have ln : needs.length = m := by rw [hn, List.length_map, List.length_range]
  have nb : ∀ x, x ∈ needs → 0 ≤ x ∧ x ≤ c := by
    intro x hx
    rw [hn] at hx
    obtain ⟨k, _, rfl⟩ := List.mem_map.mp hx
    obtain ⟨g1, g2⟩ := fm (x := l.getD (4 + k) 0) (k := (c : Int) + 1) (by omega)
    exact ⟨g1, by omega⟩
  have lc' : (List.range m).map (fun k : Nat => D.int ((l.getD (4 + k) 0).fmod ((c : Int) + 1))) = needs.map .int := by
    rw [hn, List.map_map]
    rfl
  have key : ∀ needs' : List Int, (if d3.fmod 4 = 0 ∧ 0 < m then needs' = needs.set ((d3.fdiv 4).fmod (m : Int)).toNat ((c : Int) + 1 + d3.fmod 3) else needs' = needs) →
      run Ps 1000 (n + 2) "_law_needs" [.scr ns, .int 0, .int 6] = some (.tup [.lst (needs'.map .int), .int c, .int u], .fz) := by
    intro needs' hne
    rw [run_succ (F := F__law_needs) rfl rfl]
    simp -implicitDefEqProofs [F__law_needs, b__law_needs, ent, fvs, e0, e1, a0, a1, a2, a3, hc, hu, hm, rngD_nat m (by omega), upD]
    rw [lc_all (fun k : Nat => [some (.scr ns, .fz), some (.int 0, .fz), some (.int 6, .fz), some (.lst (l.map .int), .fz), some (.int c, .fz), some (.int u, .fz), none, some (.int k, .fz)]) (fun k => .int ((l.getD (4 + k) 0).fmod ((c : Int) + 1)))]
    · rw [lc']
      by_cases hq : d3.fmod 4 = 0 ∧ 0 < m
      · rw [if_pos hq] at hne
        obtain ⟨hq1, hq2⟩ := hq
        obtain ⟨f5, f5'⟩ := fm (x := d3.fdiv 4) (k := (m : Int)) (by omega)
        obtain ⟨j, hj⟩ : ∃ c : Nat, (d3.fdiv 4).fmod (m : Int) = (c : Int) := ⟨((d3.fdiv 4).fmod (m : Int)).toNat, by omega⟩
        have ij : ixN m (j : Int) = some j := by
          unfold ixN
          rw [if_pos (by omega), if_pos (by omega), Int.toNat_natCast]
        rw [hj, Int.toNat_natCast] at hne
        have hm0 : ¬ m = 0 := by omega
        simp -implicitDefEqProofs [a3, hq1, hq2, ln, hj, divOk, hm0, ij, hne]
      · rw [if_neg hq] at hne
        subst hne
        by_cases h4 : d3.fmod 4 = 0
        · have hm0 : m = 0 := by
            by_cases z : m = 0
            · exact z
            · exact absurd ⟨h4, by omega⟩ hq
          simp -implicitDefEqProofs [a3, h4, ln, hm0]
        · simp -implicitDefEqProofs [a3, h4]
    · intro k hk
      rw [List.mem_range] at hk
      have a4 : atI (l.map D.int) (4 + (k : Int)) = some (.int (l.getD (4 + k) 0)) := by
        rw [show (4 : Int) + (k : Int) = ((4 + k : Nat) : Int) by omega]
        exact atI_ints (by omega)
      refine ⟨by simp, rfl, ?_⟩
      simp -implicitDefEqProofs [a4, show ((c : Int) + 1 = 0) = False by simp; omega]
  by_cases hq : d3.fmod 4 = 0 ∧ 0 < m
  · refine ⟨needs.set ((d3.fdiv 4).fmod (m : Int)).toNat ((c : Int) + 1 + d3.fmod 3), c, u, by rw [List.length_set]; omega, ?_, by omega, by omega, by omega, by omega, key _ (by rw [if_pos hq])⟩
    intro x hx
    rcases List.mem_or_eq_of_mem_set hx with hx | rfl
    · have := nb x hx
      omega
    · omega
  · exact ⟨needs, c, u, by omega, fun x hx => by
      have := nb x hx
      omega, by omega, by omega, by omega, by omega, key _ (by rw [if_neg hq])⟩
end K66
set_option Elab.async false
set_option linter.all false
set_option maxRecDepth 100000
namespace PL
open PySem L2
/-! ### more on lists of ints as data -/
@[simp] theorem atI_c0 {α : Type} (x : α) (r : List α) : atI (x :: r) 0 = some x := atI_nat (j := 0) rfl
@[simp] theorem atI_c1 {α : Type} (x y : α) (r : List α) : atI (x :: y :: r) 1 = some y := atI_nat (j := 1) rfl
@[simp] theorem atI_c2 {α : Type} (x y z : α) (r : List α) : atI (x :: y :: z :: r) 2 = some z := atI_nat (j := 2) rfl
@[simp] theorem atI_c3 {α : Type} (x y z u : α) (r : List α) : atI (x :: y :: z :: u :: r) 3 = some u := atI_nat (j := 3) rfl
@[simp] theorem atI_c4 {α : Type} (x y z u v : α) (r : List α) : atI (x :: y :: z :: u :: v :: r) 4 = some v := atI_nat (j := 4) rfl
theorem ok_ints (l : List Int) (n : Nat) : (l.map D.int).all (okD (n + 1)) = true := by
  rw [List.all_map]
  exact List.all_eq_true.mpr fun _ _ => rfl
theorem int_inj : ∀ {a b : List Int}, a.map D.int = b.map D.int → a = b
  | [], [], _ => rfl
  | [], _ :: _, h => (nomatch h)
  | _ :: _, [], h => (nomatch h)
  | x :: a, y :: b, h => by
    rw [List.map_cons, List.map_cons, List.cons.injEq, D.int.injEq] at h
    rw [h.1, int_inj h.2]
theorem inb_ints (x : Int) (l : List Int) : inb (.int x) (l.map D.int) = decide (x ∈ l) := by
  unfold inb
  rw [List.any_map]
  induction l with
  | nil => rfl
  | cons y l ih =>
    rw [List.any_cons, ih]
    show (eqb (.int y) (.int x) || _) = _
    rw [e_int]
    by_cases h : y = x
    · simp [h]
    · simp [h, Ne.symm h, show ¬ x = y from fun z => h z.symm]
@[simp] theorem c_in_ints (x : Int) (l : List Int) : dcmp .In (.int x) (.lst (l.map D.int)) = some (decide (x ∈ l)) := by
  have e : (okD 20 (.int x) && (l.map D.int).all (okD 20)) = true := by rw [ok_ints l 19]; rfl
  simp only [dcmp]
  rw [if_pos e, inb_ints]
@[simp] theorem c_nin_ints (x : Int) (l : List Int) : dcmp .NotIn (.int x) (.lst (l.map D.int)) = some (!decide (x ∈ l)) := by
  have e : (okD 20 (.int x) && (l.map D.int).all (okD 20)) = true := by rw [ok_ints l 19]; rfl
  simp only [dcmp]
  rw [if_pos e, inb_ints]
@[simp] theorem e_ints (a b : List Int) : eqb (.lst (a.map .int)) (.lst (b.map .int)) = decide (a = b) := by
  rw [eqb_iff', decide_eq_true_eq]
  constructor
  · intro h
    rw [h]
  · intro h
    exact int_inj (D.lst.inj h)
@[simp] theorem c_eq_ints (a b : List Int) : dcmp .Eq (.lst (a.map .int)) (.lst (b.map .int)) = some (decide (a = b)) := by
  have e : okEq (.lst (a.map .int)) (.lst (b.map .int)) = true := by
    show ((a.map D.int).all (okD 19) && (b.map D.int).all (okD 19)) = true
    rw [ok_ints a 18, ok_ints b 18]
    rfl
  simp only [dcmp]
  rw [if_pos e, e_ints]
@[simp] theorem c_ne_ints (a b : List Int) : dcmp .NotEq (.lst (a.map .int)) (.lst (b.map .int)) = some (!decide (a = b)) := by
  have e : okEq (.lst (a.map .int)) (.lst (b.map .int)) = true := by
    show ((a.map D.int).all (okD 19) && (b.map D.int).all (okD 19)) = true
    rw [ok_ints a 18, ok_ints b 18]
    rfl
  simp only [dcmp]
  rw [if_pos e, e_ints]
theorem zipD_map {α β : Type} (f : α → D) (g : β → D) : ∀ (a : List α) (b : List β), zipD (a.map f) (b.map g) = (a.zip b).map fun p => .tup [f p.1, g p.2]
  | [], _ => by simp [zipD]
  | _ :: _, [] => by simp [zipD]
  | x :: a, y :: b => by simp [zipD, zipD_map f g a b]
theorem enumD_map {α : Type} (f : α → D) : ∀ (a : List α) (k : Nat), enumD k (a.map f) = (a.zipIdx k).map fun p => .tup [.int (p.2 : Int), f p.1]
  | [], _ => rfl
  | x :: a, k => by
    rw [List.map_cons, enumD, enumD_map f a (k + 1)]
    rfl
theorem cutL_to {α : Type} (xs : List α) (j : Nat) : cutL xs none (some (j : Int)) = xs.take j := by
  unfold cutL
  rw [HT.sIx_none, HT.sIx_nat, List.drop_zero, Nat.sub_zero]
  by_cases h : j ≤ xs.length
  · rw [Nat.min_eq_left h]
  · rw [Nat.min_eq_right (by omega), List.take_length, List.take_of_length_le (by omega)]
theorem cutL_zero {α : Type} (xs : List α) (j : Nat) : cutL xs (some 0) (some (j : Int)) = xs.take j := by
  unfold cutL
  have e := HT.sIx_nat xs.length 0 0
  rw [show ((0 : Nat) : Int) = 0 from rfl] at e
  rw [e, HT.sIx_nat, Nat.zero_min, List.drop_zero, Nat.sub_zero]
  by_cases h : j ≤ xs.length
  · rw [Nat.min_eq_left h]
  · rw [Nat.min_eq_right (by omega), List.take_length, List.take_of_length_le (by omega)]
theorem cutL_from {α : Type} (xs : List α) (j : Nat) : cutL xs (some (j : Int)) none = xs.drop j := by
  unfold cutL
  rw [HT.sIx_none, HT.sIx_nat]
  by_cases h : j ≤ xs.length
  · rw [Nat.min_eq_left h, List.take_of_length_le (by rw [List.length_drop]; omega)]
  · rw [Nat.min_eq_right (by omega), List.drop_length, List.drop_eq_nil_of_le (by omega), List.take_nil]
/-- a loop over the items m x, x of l -/
theorem frGo_map {α : Type} {m : α → D} {tgt : D → Env → Option Env} {body : Env → Option Out} (I : List α → Env → Prop) (Post : Out → Prop) (step : ∀ x r ρ, I (x :: r) ρ → ∃ ρ1 o, tgt (m x) ρ = some ρ1 ∧ body ρ1 = some o ∧ (match o with
      | .nx ρ2 => I r ρ2
      | .ctn ρ2 => I r ρ2
      | .brk ρ2 => Post (.nx ρ2)
      | .ret v => Post (.ret v)))
    (done : ∀ ρ, I [] ρ → Post (.nx ρ)) : ∀ {l : List α} {ρ : Env}, I l ρ → ∃ o, frGo tgt body (l.map m) ρ = some o ∧ Post o
  | [], ρ, h => ⟨_, rfl, done ρ h⟩
  | y :: ys, ρ, h => by
    obtain ⟨ρ1, o, h1, h2, h3⟩ := step y ys ρ h
    rw [List.map_cons]
    unfold frGo
    rw [h1, Option.bind_some, h2, Option.bind_some]
    cases o with
    | nx ρ2 => exact frGo_map I Post step done h3
    | ctn ρ2 => exact frGo_map I Post step done h3
    | brk ρ2 => exact ⟨_, rfl, h3⟩
    | ret v => exact ⟨_, rfl, h3⟩
/-- a loop over range(N) -/
theorem frGo_up {N : Nat} {tgt : D → Env → Option Env} {body : Env → Option Out} (I : Nat → Env → Prop) (Post : Out → Prop) (step : ∀ (j : Nat) ρ, j < N → I j ρ → ∃ ρ1 o, tgt (.int (j : Int)) ρ = some ρ1 ∧ body ρ1 = some o ∧ (match o with
      | .nx ρ2 => I (j + 1) ρ2
      | .ctn ρ2 => I (j + 1) ρ2
      | .brk ρ2 => Post (.nx ρ2)
      | .ret v => Post (.ret v)))
    (done : ∀ ρ, I N ρ → Post (.nx ρ)) {ρ : Env} (h : I 0 ρ) : ∃ o, frGo tgt body (upD 0 N) ρ = some o ∧ Post o := by
  have e : upD 0 N = (List.range' 0 N).map fun (k : Nat) => D.int (k : Int) := by
    unfold upD
    rw [List.range_eq_range']
    exact List.map_congr_left fun k _ => by rw [Int.zero_add]
  rw [e]
  refine frGo_map (m := fun (k : Nat) => D.int (k : Int)) (fun r ρ => ∃ j, r = List.range' j (N - j) ∧ j ≤ N ∧ I j ρ) Post (fun x r ρ => ?_) (fun ρ => ?_) ⟨0, rfl, Nat.zero_le _, h⟩
  · rintro ⟨j, er, hj, hI⟩
    have lt : j < N := by
      have := congrArg List.length er
      simp at this
      omega
    obtain ⟨d, hd⟩ : ∃ d, N - j = d + 1 := ⟨N - j - 1, by omega⟩
    rw [hd, List.range'_succ, List.cons.injEq] at er
    obtain ⟨rfl, er⟩ := er
    obtain ⟨ρ1, o, h1, h2, h3⟩ := step x ρ lt hI
    have er' : r = List.range' (x + 1) (N - (x + 1)) := by
      rw [er]
      congr 1
      omega
    refine ⟨ρ1, o, h1, h2, ?_⟩
    cases o with
    | nx ρ2 => exact ⟨x + 1, er', lt, h3⟩
    | ctn ρ2 => exact ⟨x + 1, er', lt, h3⟩
    | brk ρ2 => exact h3
    | ret v => exact h3
  · rintro ⟨j, er, hj, hI⟩
    have : j = N := by
      have := congrArg List.length er
      simp at this
      omega
    subst this
    exact done ρ hI
theorem set_range {c k : Nat} (g : Nat → Int) (v : Int) : ((List.range c).map g).set k v = (List.range c).map fun x => if x = k then v else g x := by
  apply List.ext_getElem?
  intro i
  rw [List.getElem?_set]
  by_cases h : i < c
  · by_cases hk : k = i
    · subst hk
      simp [h]
    · simp [h, hk, show ¬ i = k from fun z => hk z.symm]
  · by_cases hk : k = i
    · subst hk
      simp [h]
    · simp [h, hk]
end PL
set_option Elab.async false
set_option linter.all false
set_option maxRecDepth 100000
namespace K66
open PySem PL L2
variable {n : Nat}
def dl (r : List Int) : D := .lst (r.map .int)
def pl (P : List (List Int)) : D := .lst (P.map dl)
def eqLen (p : List Int × Int) : Bool := decide ((p.1.length : Int) = p.2)
def wornBy (P : List (List Int)) (x : Int) : Nat := (P.filter fun r => decide (x ∈ r)).length
def few (P : List (List Int)) (u : Nat) (x : Nat) : Bool := decide ((wornBy P x : Int) ≤ u)
def okRow (c : Nat) (r : List Int) : Bool := Cm.wi r c && Cm.asc r
def arePlans (needs : List Int) (c u : Nat) (P : List (List Int)) : Bool :=
  decide (P.length = needs.length) && allB ((P.zip needs).map eqLen) && allB (P.map (okRow c)) && allB ((List.range c).map (few P u))
theorem r_are_plans (needs : List Int) (c u : Nat) (P : List (List Int)) (hc : c ≤ 100) (hP : ∀ r, r ∈ P → r.length ≤ 1000) :
    run Ps 1000 (n + 4) "are_plans" [.lst (needs.map .int), .int c, .int u, pl P] = some (.bl (arePlans needs c u P), .fz) := by
  rw [run_succ (F := F_are_plans) rfl rfl]
  unfold pl
  by_cases h1 : P.length = needs.length
  · simp -implicitDefEqProofs [F_are_plans, b_are_plans, ent, h1]
    rw [zipD_map, lc_all (fun p : List Int × Int => [some (.lst (needs.map .int), .fz), some (.int c, .fz), some (.int u, .fz), some (.lst (P.map dl), .fz), some (dl p.1, .fz), some (.int p.2, .fz), none]) (fun p => .bl (eqLen p))]
    · cases h2 : allB ((P.zip needs).map eqLen) with
      | false => simp -implicitDefEqProofs [h2, arePlans]
      | true =>
        simp -implicitDefEqProofs [h2]
        rw [lc_all (fun p : List Int => [some (.lst (needs.map .int), .fz), some (.int c, .fz), some (.int u, .fz), some (.lst (P.map dl), .fz), some (dl p, .fz), none, none]) (fun p => .bl (okRow c p))]
        · cases h3 : allB (P.map (okRow c)) with
          | false => simp -implicitDefEqProofs [h3, arePlans]
          | true =>
            simp -implicitDefEqProofs [h3, rngD_nat c (by omega)]
            rw [upD, lc_all (fun x : Nat => [some (.lst (needs.map .int), .fz), some (.int c, .fz), some (.int u, .fz), some (.lst (P.map dl), .fz), none, none, some (.int x, .fz)]) (fun x => .bl (few P u x))]
            · simp -implicitDefEqProofs [arePlans, h1, h2, h3]
            · intro x hx
              refine ⟨by simp, by simp, ?_⟩
              simp -implicitDefEqProofs
              rw [lc_if (fun r : List Int => [some (.lst (needs.map .int), .fz), some (.int c, .fz), some (.int u, .fz), some (.lst (P.map dl), .fz), some (dl r, .fz), none, some (.int x, .fz)]) (fun r => decide ((x : Int) ∈ r)) dl]
              · simp -implicitDefEqProofs [few, wornBy]
              · intro r hr
                refine ⟨by simp, ?_, ?_⟩
                · simp -implicitDefEqProofs [dl]
                · intro _
                  simp -implicitDefEqProofs
        · intro r hr
          refine ⟨by simp, by simp, ?_⟩
          simp -implicitDefEqProofs [dl, Cm.are_numbers (Ps := Ps) (n := n) rfl rfl rfl rfl r (Nat.le_trans (hP r hr) (by omega)), okRow]
    · intro p hp
      refine ⟨by simp, by simp, ?_⟩
      simp -implicitDefEqProofs [dl, eqLen]
  · simp -implicitDefEqProofs [F_are_plans, b_are_plans, ent, h1, arePlans, show ¬ (P.length : Int) = (needs.length : Int) by omega]
def failsOk (needs : List Int) (c u : Nat) (k : Int) : Bool := decide (0 ≤ k ∧ k < needs.length) && (decide ((c : Int) < needs.getD k.toNat 0) || decide ((c : Int) * u < (needs.take (k.toNat + 1)).sum))
def sFails : D := .str [102, 97, 105, 108, 115]
def sLasts : D := .str [108, 97, 115, 116, 115]
def sLast : D := .str [108, 97, 115, 116]
theorem r_judge_fails (needs : List Int) (c u : Nat) (hn : needs.length ≤ 1000) (hc : c ≤ 100) (hu : u ≤ 100) (k : Int) :
    run Ps 1000 (n + 5) "judge_wear" [.lst (needs.map .int), .int c, .int u, .tup [sFails, .int k]] = some (.bl (failsOk needs c u k), .fz) := by
  rw [run_succ (F := F_judge_wear) rfl rfl]
  have w := Cm.is_within (Ps := Ps) (n := n + 2) rfl rfl k 0 ((needs.length : Int) - 1)
  have ml : mulOk (c : Int) u = true := mulOk_of (.inl (by omega))
  by_cases h : 0 ≤ k ∧ k < needs.length
  · obtain ⟨j, rfl⟩ : ∃ j : Nat, k = (j : Int) := ⟨k.toNat, by omega⟩
    have hj : j < needs.length := by omega
    have aj := atI_ints hj
    have w' : decide ((0 : Int) ≤ (j : Int) ∧ (j : Int) ≤ (needs.length : Int) - 1) = true := decide_eq_true (by omega)
    rw [w'] at w
    have cut : cutL (needs.map D.int) none (some ((j : Int) + 1)) = (needs.take (j + 1)).map D.int := by
      rw [show (j : Int) + 1 = ((j + 1 : Nat) : Int) by omega, cutL_to, List.map_take]
    have ef : failsOk needs c u (j : Int) = (decide ((c : Int) < needs.getD j 0) || decide ((c : Int) * u < (needs.take (j + 1)).sum)) := by
      unfold failsOk
      rw [decide_eq_true h, Bool.true_and, Int.toNat_natCast]
    rw [ef]
    generalize needs.getD j 0 = d at aj
    generalize needs.take (j + 1) = t at cut
    by_cases q : (c : Int) < d <;> simp -implicitDefEqProofs [F_judge_wear, b_judge_wear, ent, sFails, w, aj, cut, ml, q]
  · have w' : decide ((0 : Int) ≤ k ∧ k ≤ (needs.length : Int) - 1) = false := decide_eq_false (by omega)
    rw [w'] at w
    simp -implicitDefEqProofs [F_judge_wear, b_judge_wear, ent, sFails, w, failsOk, h]
theorem r_judge_lasts (needs : List Int) (c u : Nat) (P : List (List Int)) (hc : c ≤ 100) (hP : ∀ r, r ∈ P → r.length ≤ 1000) :
    run Ps 1000 (n + 5) "judge_wear" [.lst (needs.map .int), .int c, .int u, .tup [sLasts, pl P]] = some (.bl (arePlans needs c u P), .fz) := by
  rw [run_succ (F := F_judge_wear) rfl rfl]
  simp -implicitDefEqProofs [F_judge_wear, b_judge_wear, ent, sLasts, r_are_plans needs c u P hc hP]
theorem r_judge_last (needs : List Int) (c u : Nat) (d : D) :
    run Ps 1000 (n + 5) "judge_wear" [.lst (needs.map .int), .int c, .int u, .tup [sLast, d]] = some (.bl false, .fz) := by
  rw [run_succ (F := F_judge_wear) rfl rfl]
  simp -implicitDefEqProofs [F_judge_wear, b_judge_wear, ent, sLast]
theorem r_judge_len (needs : List Int) (c u : Nat) (ds : List D) (h : ds.length ≠ 2) :
    run Ps 1000 (n + 5) "judge_wear" [.lst (needs.map .int), .int c, .int u, .tup ds] = some (.bl false, .fz) := by
  rw [run_succ (F := F_judge_wear) rfl rfl]
  simp -implicitDefEqProofs [F_judge_wear, b_judge_wear, ent, show ¬ (ds.length : Int) = 2 by omega]
end K66
set_option Elab.async false
set_option linter.all false
set_option maxRecDepth 100000
namespace K66
open PySem PL L2
variable {n : Nat}
/-! ### rows -/
theorem asc_iff (l : List Int) : Cm.asc l = true ↔ l.Pairwise (· < ·) := by
  unfold Cm.asc
  rw [allB_iff]
  have g : ∀ {k : Nat} (h : k < l.length), l.getD k 0 = l[k] := fun h => by
    rw [List.getD_eq_getElem?_getD, List.getElem?_eq_getElem h]
    rfl
  constructor
  · intro h
    rw [List.pairwise_iff_getElem]
    intro i j hi hj hij
    obtain ⟨d, rfl⟩ : ∃ d, j = i + 1 + d := ⟨j - i - 1, by omega⟩
    induction d with
    | zero =>
      have q := of_decide_eq_true (h i (List.mem_range.mpr (by omega)))
      rw [g hi, g (by omega)] at q
      exact q
    | succ d ih =>
      have q1 := ih (by omega) (by omega)
      have q2 := of_decide_eq_true (h (i + 1 + d) (List.mem_range.mpr (by omega)))
      rw [g (by omega), g (by omega)] at q2
      exact Int.lt_trans q1 q2
  · intro h k hk
    rw [List.mem_range] at hk
    refine decide_eq_true ?_
    rw [g (by omega), g (by omega)]
    exact List.pairwise_iff_getElem.mp h k (k + 1) (by omega) (by omega) (by omega)
def filt (c : Nat) (r : List Int) : List Int := ((List.range c).filter fun (k : Nat) => decide ((k : Int) ∈ r)).map fun (k : Nat) => (k : Int)
theorem mem_filt {c : Nat} {r : List Int} {x : Int} : x ∈ filt c r ↔ x ∈ r ∧ 0 ≤ x ∧ x < c := by
  unfold filt
  rw [List.mem_map]
  constructor
  · rintro ⟨k, hk, rfl⟩
    rw [List.mem_filter, List.mem_range, decide_eq_true_eq] at hk
    exact ⟨hk.2, by omega, by omega⟩
  · rintro ⟨h1, h2, h3⟩
    refine ⟨x.toNat, ?_, by omega⟩
    rw [List.mem_filter, List.mem_range, decide_eq_true_eq, Int.toNat_of_nonneg h2]
    exact ⟨by omega, h1⟩
theorem up_filt (c : Nat) (r : List Int) : (filt c r).Pairwise (· < ·) := by
  unfold filt
  rw [List.pairwise_map]
  refine List.Pairwise.imp ?_ ((List.pairwise_lt_range (n := c)).filter _)
  intro a b h
  omega
theorem filt_iff (c : Nat) (r : List Int) : r = filt c r ↔ okRow c r = true := by
  unfold okRow
  rw [Bool.and_eq_true, asc_iff]
  unfold Cm.wi
  rw [allB_iff]
  constructor
  · intro e
    refine ⟨fun x hx => ?_, by rw [e]; exact up_filt c r⟩
    rw [e, mem_filt] at hx
    exact decide_eq_true ⟨hx.2.1, by omega⟩
  · rintro ⟨h1, h2⟩
    refine up_eq h2 (up_filt c r) fun k => ?_
    rw [mem_filt]
    constructor
    · intro hk
      have := of_decide_eq_true (h1 k hk)
      exact ⟨hk, this.1, by omega⟩
    · exact fun h => h.1
/-! ### accepts -/
theorem r_acc_fails (needs : List Int) (c u : Nat) (hn : needs.length ≤ 1000) (hc : c ≤ 100) (hu : u ≤ 100) (k : Int) :
    run Ps 1000 (n + 1) "_law_accepts_wear" [.lst (needs.map .int), .int c, .int u, .tup [sFails, .int k]] = some (.bl (failsOk needs c u k), .fz) := by
  rw [run_succ (F := F__law_accepts_wear) rfl rfl]
  have ml : mulOk (c : Int) u = true := mulOk_of (.inl (by omega))
  by_cases h : 0 ≤ k
  · by_cases h2 : k < needs.length
    · obtain ⟨j, rfl⟩ : ∃ j : Nat, k = (j : Int) := ⟨k.toNat, by omega⟩
      have hj : j < needs.length := by omega
      have aj := atI_ints hj
      have cut : cutL (needs.map D.int) (some 0) (some ((j : Int) + 1)) = (needs.take (j + 1)).map D.int := by
        rw [show (j : Int) + 1 = ((j + 1 : Nat) : Int) by omega, cutL_zero, List.map_take]
      have ef : failsOk needs c u (j : Int) = (decide ((c : Int) < needs.getD j 0) || decide ((c : Int) * u < (needs.take (j + 1)).sum)) := by
        unfold failsOk
        rw [decide_eq_true ⟨h, h2⟩, Bool.true_and, Int.toNat_natCast]
      rw [ef]
      generalize needs.getD j 0 = d at aj
      generalize needs.take (j + 1) = t at cut
      by_cases q : (c : Int) < d <;> simp -implicitDefEqProofs [F__law_accepts_wear, b__law_accepts_wear, ent, sFails, hj, aj, cut, ml, q]
    · simp -implicitDefEqProofs [F__law_accepts_wear, b__law_accepts_wear, ent, sFails, failsOk, h, h2]
  · simp -implicitDefEqProofs [F__law_accepts_wear, b__law_accepts_wear, ent, sFails, failsOk, h]
theorem r_acc_last (needs : List Int) (c u : Nat) (d : D) :
    run Ps 1000 (n + 1) "_law_accepts_wear" [.lst (needs.map .int), .int c, .int u, .tup [sLast, d]] = some (.bl false, .fz) := by
  rw [run_succ (F := F__law_accepts_wear) rfl rfl]
  simp -implicitDefEqProofs [F__law_accepts_wear, b__law_accepts_wear, ent, sLast]
theorem r_acc_len (needs : List Int) (c u : Nat) (ds : List D) (h : ds.length ≠ 2) :
    run Ps 1000 (n + 1) "_law_accepts_wear" [.lst (needs.map .int), .int c, .int u, .tup ds] = some (.bl false, .fz) := by
  rw [run_succ (F := F__law_accepts_wear) rfl rfl]
  simp -implicitDefEqProofs [F__law_accepts_wear, b__law_accepts_wear, ent, show ¬ (ds.length : Int) = 2 by omega]
end K66
set_option Elab.async false
set_option linter.all false
set_option maxRecDepth 100000
namespace K66
open PySem PL L2
variable {n : Nat}
def wearL (c : Nat) (P : List (List Int)) : List Int := (List.range c).map fun (x : Nat) => (wornBy P x : Int)
theorem worn_take {P : List (List Int)} {j : Nat} (h : j < P.length) (x : Int) : wornBy (P.take (j + 1)) x = wornBy (P.take j) x + if x ∈ P[j] then 1 else 0 := by
  unfold wornBy
  rw [List.take_add_one, List.getElem?_eq_getElem h, List.filter_append, List.length_append]
  by_cases q : x ∈ P[j] <;> simp [q]
theorem count_up {l : List Int} (h : l.Pairwise (· < ·)) (x : Int) : l.count x = if x ∈ l then 1 else 0 := by
  have nd : l.Nodup := h.imp fun {a b} q => by
    intro e
    omega
  by_cases q : x ∈ l
  · rw [if_pos q, List.Nodup.count nd, if_pos q]
  · rw [if_neg q, List.count_eq_zero_of_not_mem q]
theorem ixN_nat {n k : Nat} (h : k < n) : ixN n (k : Int) = some k := by
  unfold ixN
  rw [if_pos (by omega), if_pos (by omega), Int.toNat_natCast]
def bodyW : S := (.seq (.sti 5 (.var 6) (.bin .Add (.idx (.var 5) (.var 6)) (.con (D.int 1)))) .nop)
theorem wear_row {φ : String → List D → Option R} {c : Nat} (x0 x1 x2 x3 x4 x6 x7 : Option R) (r : List Int) (hr : r = filt c r) (w : Nat → Int) :
    ∃ x6', frGo (asg (.n 6)) (sx φ 1000 bodyW) (r.map .int) [x0, x1, x2, x3, x4, some (.lst (((List.range c).map w).map .int), .top), x6, x7] =
      some (.nx [x0, x1, x2, x3, x4, some (.lst (((List.range c).map fun x => w x + (r.count (x : Int) : Nat)).map .int), .top), x6', x7]) := by
  obtain ⟨o, e, x6', rfl⟩ := frGo_map (m := D.int) (tgt := asg (.n 6)) (body := sx φ 1000 bodyW)
    (fun rest ρ => ∃ (dn : List Int) (x6 : Option R), dn ++ rest = r ∧ ρ = [x0, x1, x2, x3, x4, some (.lst (((List.range c).map fun x => w x + (dn.count (x : Int) : Nat)).map .int), .top), x6, x7])
    (fun o => ∃ x6', o = .nx [x0, x1, x2, x3, x4, some (.lst (((List.range c).map fun x => w x + (r.count (x : Int) : Nat)).map .int), .top), x6', x7])
    (fun x rest ρ => by
      rintro ⟨dn, x6, hd, rfl⟩
      have hx : x ∈ filt c r := by
        rw [← hr, ← hd]
        simp
      obtain ⟨_, q1, q2⟩ := mem_filt.mp hx
      obtain ⟨k, rfl⟩ : ∃ k : Nat, x = (k : Int) := ⟨x.toNat, by omega⟩
      have hk : k < c := by omega
      obtain ⟨g, hg⟩ : ∃ g : Nat → Int, g = fun x => w x + (dn.count (x : Int) : Nat) := ⟨_, rfl⟩
      have ak : atI (((List.range c).map g).map D.int) (k : Int) = some (.int (g k)) := by
        rw [atI_ints (by simpa using hk)]
        simp [List.getD_eq_getElem?_getD, hk]
      have ik := ixN_nat hk
      have es : ((List.range c).map g).set k (g k + 1) = (List.range c).map fun x => w x + ((dn ++ [(k : Int)]).count (x : Int) : Nat) := by
        rw [set_range]
        refine List.map_congr_left fun x _ => ?_
        rw [hg]
        dsimp only
        rw [List.count_append]
        by_cases h : x = k
        · subst h
          rw [if_pos rfl]
          simp
          omega
        · have h2 : ¬ ((k : Int) = (x : Int)) := by omega
          rw [if_neg h]
          simp [List.count_singleton, h2]
      refine ⟨_, .nx [x0, x1, x2, x3, x4, some (.lst ((((List.range c).map g).set k (g k + 1)).map .int), .top), some (.int k, .fz), x7], rfl, ?_, dn ++ [(k : Int)], _, by rw [← hd]; simp, by rw [es]⟩
      rw [← hg]
      rw [List.map_set]
      generalize hL : ((List.range c).map g).map D.int = L at ak
      have lL : L.length = c := by rw [← hL]; simp
      simp -implicitDefEqProofs [bodyW, ak, lL, ik])
    (fun ρ => by
      rintro ⟨dn, x6, hd, rfl⟩
      rw [List.append_nil] at hd
      subst hd
      exact ⟨_, rfl⟩)
    (l := r) (ρ := [x0, x1, x2, x3, x4, some (.lst (((List.range c).map w).map .int), .top), x6, x7]) ⟨[], x6, rfl, by simp⟩
  exact ⟨x6', e⟩
theorem r_acc_lasts (needs : List Int) (c u : Nat) (P : List (List Int)) (h1c : 1 ≤ c) (hc : c ≤ 100) (hn : needs.length ≤ 1000) :
    run Ps 1000 (n + 1) "_law_accepts_wear" [.lst (needs.map .int), .int c, .int u, .tup [sLasts, pl P]] = some (.bl (arePlans needs c u P), .fz) := by
  rw [run_succ (F := F__law_accepts_wear) rfl rfl]
  by_cases h1 : P.length = needs.length
  · let ok (i : Nat) : Prop := (P.getD i []).length = needs.getD i 0 ∧ P.getD i [] = filt c (P.getD i [])
    let I (j : Nat) (ρ : PL.Env) : Prop := ∃ (x4 x6 x7 : Option R), ρ = [some (.lst (needs.map .int), .fz), some (.int c, .fz), some (.int u, .fz), some (.tup [sLasts, pl P], .fz), x4, some (.lst ((wearL c (P.take j)).map .int), .top), x6, x7] ∧ ∀ i, i < j → ok i
    let Post (o : Out) : Prop := (o = .ret (.bl false, .fz) ∧ ∃ i, i < needs.length ∧ ¬ ok i) ∨ ∃ (x4 x6 x7 : Option R), o = .nx [some (.lst (needs.map .int), .fz), some (.int c, .fz), some (.int u, .fz), some (.tup [sLasts, pl P], .fz), x4, some (.lst ((wearL c P).map .int), .top), x6, x7] ∧ ∀ i, i < needs.length → ok i
    obtain ⟨o, e1, hP⟩ := frGo_up (N := needs.length) (tgt := asg (.n 4)) (body := sx (run Ps 1000 n) 1000 (.seq (.set 7 (.idx (.idx (.var 3) (.con (D.int 1))) (.var 4))) (.seq (.iff (.bor (.cmp .NotEq (.blt "len" (.cons (.var 7) .nil)) (.idx (.var 0) (.var 4))) (.cmp .NotEq (.var 7) (.lc (.n 6) (.rng (.cons (.var 1) .nil)) (.cmp .In (.var 6) (.var 7)) (.var 6)))) (.seq (.ret (.con (D.bl false))) .nop) .nop) (.seq (.fr (.n 6) (.cons (.var 7) .nil) (.seq (.sti 5 (.var 6) (.bin .Add (.idx (.var 5) (.var 6)) (.con (D.int 1)))) .nop)) .nop))))
      I Post (fun j ρ hj => by
        rintro ⟨x4, x6, x7, rfl, hok⟩
        have hjP : j < P.length := by omega
        have aP : atI (P.map dl) (j : Int) = some (dl P[j]) := by
          rw [atI_lt (by rwa [List.length_map]), List.getElem_map]
        have an := atI_ints hj
        have gP : P.getD j [] = P[j] := by
          rw [List.getD_eq_getElem?_getD, List.getElem?_eq_getElem hjP]
          rfl
        obtain ⟨r, er⟩ : ∃ r, r = P[j] := ⟨_, rfl⟩
        rw [← er] at aP
        have okj : ok j ↔ (r.length : Int) = needs.getD j 0 ∧ r = filt c r := by
          show (P.getD j []).length = needs.getD j 0 ∧ _ ↔ _
          rw [gP, ← er]
        generalize needs.getD j 0 = need at an okj
        have lcr : lcGo (asg (.n 6)) (fun ρ => tru (ev (run Ps 1000 n) (.cmp .In (.var 6) (.var 7)) ρ)) (fun ρ => (ev (run Ps 1000 n) (.var 6) ρ).bind frz) (upD 0 c)
            [some (.lst (needs.map .int), .fz), some (.int c, .fz), some (.int u, .fz), some (.tup [sLasts, .lst (P.map dl)], .fz), some (.int j, .fz), some (.lst ((wearL c (P.take j)).map .int), .top), none, some (.lst (r.map .int), .fz)] = some ((filt c r).map D.int) := by
          have e : ((List.range c).filter fun (k : Nat) => decide ((k : Int) ∈ r)).map (fun (k : Nat) => D.int (k : Int)) = (filt c r).map D.int := by
            unfold filt
            rw [List.map_map]
            rfl
          rw [← e, upD]
          refine lc_if (fun k : Nat => [some (.lst (needs.map .int), .fz), some (.int c, .fz), some (.int u, .fz), some (.tup [sLasts, .lst (P.map dl)], .fz), some (.int j, .fz), some (.lst ((wearL c (P.take j)).map .int), .top), some (.int k, .fz), some (.lst (r.map .int), .fz)]) (fun k => decide ((k : Int) ∈ r)) (fun k => .int (k : Int)) ?_
          intro k hk
          refine ⟨by simp, by simp, fun _ => by simp⟩
        simp only [q_cmp, q_var] at lcr
        by_cases q1 : (r.length : Int) = need
        · by_cases q2 : r = filt c r
          · obtain ⟨x6', ew⟩ := wear_row (φ := run Ps 1000 n) (c := c) (some (.lst (needs.map .int), .fz)) (some (.int c, .fz)) (some (.int u, .fz)) (some (.tup [sLasts, .lst (P.map dl)], .fz)) (some (.int j, .fz)) x6 (some (.lst (r.map .int), .fz)) r q2 (fun x => (wornBy (P.take j) x : Nat))
            have ew1 : ((List.range c).map fun x : Nat => ((wornBy (P.take j) x : Nat) : Int) + (r.count (x : Int) : Nat)) = wearL c (P.take (j + 1)) := by
              unfold wearL
              refine List.map_congr_left fun x _ => ?_
              rw [worn_take hjP, ← er, count_up (by rw [q2]; exact up_filt c r)]
              split <;> simp
            rw [ew1] at ew
            simp only [bodyW] at ew
            refine ⟨_, .nx [some (.lst (needs.map .int), .fz), some (.int c, .fz), some (.int u, .fz), some (.tup [sLasts, .lst (P.map dl)], .fz), some (.int j, .fz), some (.lst ((wearL c (P.take (j + 1))).map .int), .top), x6', some (.lst (r.map .int), .fz)], rfl, ?_, _, _, _, rfl, fun i hi => ?_⟩
            · have e0 : wearL c (P.take j) = (List.range c).map fun x : Nat => ((wornBy (P.take j) x : Nat) : Int) := rfl
              rw [← e0] at ew
              simp -implicitDefEqProofs [pl, aP, an, q1, dl, rngD_nat c (by omega), lcr]
              rw [if_pos q2]
              simp -implicitDefEqProofs [ew]
            · by_cases h : i = j
              · rw [h]
                exact okj.mpr ⟨q1, q2⟩
              · exact hok i (by omega)
          · refine ⟨_, .ret (.bl false, .fz), rfl, ?_, .inl ⟨rfl, j, hj, fun z => q2 (okj.mp z).2⟩⟩
            simp -implicitDefEqProofs [pl, aP, an, q1, dl, rngD_nat c (by omega), lcr, q2]
        · refine ⟨_, .ret (.bl false, .fz), rfl, ?_, .inl ⟨rfl, j, hj, fun z => q1 (okj.mp z).1⟩⟩
          simp -implicitDefEqProofs [pl, aP, dl, an, q1]
          ) (fun ρ => by
        rintro ⟨x4, x6, x7, rfl, hok⟩
        refine .inr ⟨x4, x6, x7, ?_, hok⟩
        rw [List.take_of_length_le (by omega)]) (ρ := [some (.lst (needs.map .int), .fz), some (.int c, .fz), some (.int u, .fz), some (.tup [sLasts, pl P], .fz), none, some (.lst ((wearL c []).map .int), .top), none, none])
      ⟨none, none, none, rfl, fun _ h => (by omega)⟩
    have aw : lcGo (asg (.n 6)) (fun ρ => some true) (fun ρ => some (D.int 0)) (upD 0 c) [some (.lst (needs.map .int), .fz), some (.int c, .fz), some (.int u, .fz), some (.tup [sLasts, pl P], .fz), none, none, none, none] = some ((wearL c []).map .int) := by
      rw [upD, lc_all (fun k : Nat => [some (.lst (needs.map .int), .fz), some (.int c, .fz), some (.int u, .fz), some (.tup [sLasts, pl P], .fz), none, none, some (.int k, .fz), none]) (fun _ => .int 0)]
      · unfold wearL
        rw [List.map_map]
        rfl
      · intro k hk
        exact ⟨by simp, rfl, rfl⟩
    have oks : (∀ i, i < needs.length → ok i) ↔ allB ((P.zip needs).map eqLen) = true ∧ allB (P.map (okRow c)) = true := by
      have gP : ∀ {i : Nat} (h : i < P.length), P.getD i [] = P[i] := fun h => by
        rw [List.getD_eq_getElem?_getD, List.getElem?_eq_getElem h]
        rfl
      have gN : ∀ {i : Nat} (h : i < needs.length), needs.getD i 0 = needs[i] := fun h => by
        rw [List.getD_eq_getElem?_getD, List.getElem?_eq_getElem h]
        rfl
      rw [allB_iff, allB_iff]
      constructor
      · intro h
        refine ⟨fun p hp => ?_, fun r hr => ?_⟩
        · obtain ⟨i, hi, rfl⟩ := List.mem_iff_getElem.mp hp
          have hi2 : i < P.length ∧ i < needs.length := by
            rw [List.length_zip] at hi
            omega
          have := (h i hi2.2).1
          rw [gP hi2.1, gN hi2.2] at this
          rw [List.getElem_zip]
          exact decide_eq_true this
        · obtain ⟨i, hi, rfl⟩ := List.mem_iff_getElem.mp hr
          have := (h i (by omega)).2
          rw [gP hi] at this
          exact (filt_iff c _).mp this
      · rintro ⟨ha, hb⟩ i hi
        have hi2 : i < P.length := by omega
        have q1 := ha (P[i], needs[i]) (by
          rw [List.mem_iff_getElem]
          exact ⟨i, by simp; omega, by rw [List.getElem_zip]⟩)
        have q2 := hb P[i] (List.getElem_mem hi2)
        show (P.getD i []).length = needs.getD i 0 ∧ P.getD i [] = filt c (P.getD i [])
        rw [gP hi2, gN hi]
        exact ⟨of_decide_eq_true q1, (filt_iff c _).mpr q2⟩
    rcases hP with ⟨rfl, i, hi, nok⟩ | ⟨x4, x6, x7, rfl, hok⟩
    · have bad : arePlans needs c u P = false := by
        cases q : arePlans needs c u P with
        | false => rfl
        | true =>
          unfold arePlans at q
          simp only [Bool.and_eq_true] at q
          exact absurd (oks.mpr ⟨q.1.1.2, q.1.2⟩ i hi) nok
      rw [bad]
      simp -implicitDefEqProofs [F__law_accepts_wear, b__law_accepts_wear, ent, h1, rngD_nat c (by omega), rngD_nat needs.length (by omega), sLasts, pl]
      simp only [sLasts, pl] at aw e1
      rw [aw]
      simp -implicitDefEqProofs [e1, rngD_nat needs.length (by omega)]
    · have good : arePlans needs c u P = decide (maxI (wearL c P) ≤ (u : Int)) := by
        obtain ⟨k1, k2⟩ := oks.mp hok
        unfold arePlans
        rw [decide_eq_true h1, k1, k2, Bool.true_and, Bool.true_and, Bool.true_and]
        have ne : wearL c P ≠ [] := by
          intro z
          have := congrArg List.length z
          unfold wearL at this
          simp at this
          omega
        obtain ⟨m1, m2⟩ := maxI_mem ne
        rw [Bool.eq_iff_iff, allB_iff, decide_eq_true_eq]
        constructor
        · intro h
          unfold wearL at m1
          obtain ⟨x, hx, e⟩ := List.mem_map.mp m1
          have := of_decide_eq_true (h x hx)
          unfold wearL
          omega
        · intro h x hx
          have := m2 (wornBy P x : Int) (List.mem_map.mpr ⟨x, hx, rfl⟩)
          exact decide_eq_true (by omega)
      rw [good]
      have ne : wearL c P ≠ [] := by
        intro z
        have := congrArg List.length z
        unfold wearL at this
        simp at this
        omega
      simp -implicitDefEqProofs [F__law_accepts_wear, b__law_accepts_wear, ent, h1, rngD_nat c (by omega), rngD_nat needs.length (by omega), sLasts, pl]
      simp only [sLasts, pl] at aw e1
      rw [aw]
      simp -implicitDefEqProofs [e1, rngD_nat needs.length (by omega), ne]
  · simp -implicitDefEqProofs [F__law_accepts_wear, b__law_accepts_wear, ent, sLasts, pl, arePlans, h1, show ¬ (P.length : Int) = (needs.length : Int) by omega]
end K66
set_option Elab.async false
set_option linter.all false
set_option maxRecDepth 100000
namespace PL
open PySem L2
/-- a loop over the items m 0, m 1, .. -/
theorem frGo_ix {N : Nat} {m : Nat → D} {tgt : D → Env → Option Env} {body : Env → Option Out} (I : Nat → Env → Prop) (Post : Out → Prop) (step : ∀ (j : Nat) ρ, j < N → I j ρ → ∃ ρ1 o, tgt (m j) ρ = some ρ1 ∧ body ρ1 = some o ∧ (match o with
      | .nx ρ2 => I (j + 1) ρ2
      | .ctn ρ2 => I (j + 1) ρ2
      | .brk ρ2 => Post (.nx ρ2)
      | .ret v => Post (.ret v)))
    (done : ∀ ρ, I N ρ → Post (.nx ρ)) {ρ : Env} (h : I 0 ρ) : ∃ o, frGo tgt body ((List.range N).map m) ρ = some o ∧ Post o := by
  rw [List.range_eq_range']
  refine frGo_map (m := m) (fun r ρ => ∃ j, r = List.range' j (N - j) ∧ j ≤ N ∧ I j ρ) Post (fun x r ρ => ?_) (fun ρ => ?_) ⟨0, rfl, Nat.zero_le _, h⟩
  · rintro ⟨j, er, hj, hI⟩
    have lt : j < N := by
      have := congrArg List.length er
      simp at this
      omega
    obtain ⟨d, hd⟩ : ∃ d, N - j = d + 1 := ⟨N - j - 1, by omega⟩
    rw [hd, List.range'_succ, List.cons.injEq] at er
    obtain ⟨rfl, er⟩ := er
    obtain ⟨ρ1, o, h1, h2, h3⟩ := step x ρ lt hI
    have er' : r = List.range' (x + 1) (N - (x + 1)) := by
      rw [er]
      congr 1
      omega
    refine ⟨ρ1, o, h1, h2, ?_⟩
    cases o with
    | nx ρ2 => exact ⟨x + 1, er', lt, h3⟩
    | ctn ρ2 => exact ⟨x + 1, er', lt, h3⟩
    | brk ρ2 => exact h3
    | ret v => exact h3
  · rintro ⟨j, er, hj, hI⟩
    have : j = N := by
      have := congrArg List.length er
      simp at this
      omega
    subst this
    exact done ρ hI
theorem enumD_ix (l : List Int) : enumD 0 (l.map D.int) = (List.range l.length).map fun i => .tup [.int (i : Int), .int (l.getD i 0)] := by
  rw [enumD_map]
  apply List.ext_getElem
  · simp
  · intro i h1 h2
    have hi : i < l.length := by simpa using h2
    simp [List.getD_eq_getElem?_getD, hi]
end PL
namespace K66
open PySem PL L2
variable {n : Nat}
def upto (needs : List Int) (i : Nat) : Int := (needs.take i).sum
def rowOf (c : Nat) (t m : Int) : List Int := srtI ((List.range m.toNat).map fun (i : Nat) => (t + (i : Int)).fmod c)
def rowsTo (c : Nat) (needs : List Int) (j : Nat) : List (List Int) := (List.range j).map fun i => rowOf c (upto needs i) (needs.getD i 0)
def okAt (needs : List Int) (c u i : Nat) : Prop := needs.getD i 0 ≤ c ∧ upto needs i + needs.getD i 0 ≤ (c : Int) * u
theorem upto_succ {needs : List Int} {i : Nat} (h : i < needs.length) : upto needs (i + 1) = upto needs i + needs.getD i 0 := by
  unfold upto
  rw [List.take_add_one, List.getElem?_eq_getElem h, List.getD_eq_getElem?_getD, List.getElem?_eq_getElem h]
  show ((needs.take i) ++ [needs[i]]).sum = (needs.take i).sum + needs[i]
  rw [List.sum_append]
  simp
theorem upto_nonneg {needs : List Int} (h : ∀ x, x ∈ needs → 0 ≤ x) (i : Nat) : 0 ≤ upto needs i := by
  induction i with
  | zero => simp [upto]
  | succ i ih =>
    by_cases hi : i < needs.length
    · rw [upto_succ hi]
      have := h needs[i] (List.getElem_mem hi)
      rw [List.getD_eq_getElem?_getD, List.getElem?_eq_getElem hi]
      simp
      omega
    · unfold upto at *
      rw [List.take_of_length_le (by omega)] at *
      exact ih
theorem r_find (needs : List Int) (c u : Nat) (h1c : 1 ≤ c) (hc : c ≤ 100) (hu : u ≤ 100) (hn : needs.length ≤ 1000) (nb : ∀ x, x ∈ needs → 0 ≤ x ∧ x ≤ 1000) :
    (∃ k : Nat, k < needs.length ∧ (∀ i, i < k → okAt needs c u i) ∧ ¬ okAt needs c u k ∧ run Ps 1000 (n + 1) "find_wear" [.lst (needs.map .int), .int c, .int u] = some (.tup [sFails, .int k], .fz)) ∨
    ((∀ i, i < needs.length → okAt needs c u i) ∧ run Ps 1000 (n + 1) "find_wear" [.lst (needs.map .int), .int c, .int u] = some (.tup [sLasts, pl (rowsTo c needs needs.length)], .fz)) := by
  have ml : mulOk (c : Int) u = true := mulOk_of (.inl (by omega))
  have cu : (c : Int) * u ≤ 10000 := by
    have : c * u ≤ 100 * 100 := Nat.mul_le_mul hc hu
    have e : (c : Int) * u = ((c * u : Nat) : Int) := by simp
    omega
  let I (j : Nat) (ρ : PL.Env) : Prop := ∃ (x5 x6 : Option R), ρ = [some (.lst (needs.map .int), .fz), some (.int c, .fz), some (.int u, .fz), some (pl (rowsTo c needs j), .top), some (.int (upto needs j), .fz), x5, x6, none] ∧ ∀ i, i < j → okAt needs c u i
  let Post (o : Out) : Prop := (∃ k : Nat, k < needs.length ∧ (∀ i, i < k → okAt needs c u i) ∧ ¬ okAt needs c u k ∧ o = .ret (.tup [sFails, .int k], .fz)) ∨ ∃ (x5 x6 : Option R), o = .nx [some (.lst (needs.map .int), .fz), some (.int c, .fz), some (.int u, .fz), some (pl (rowsTo c needs needs.length), .top), some (.int (upto needs needs.length), .fz), x5, x6, none] ∧ ∀ i, i < needs.length → okAt needs c u i
  obtain ⟨o, e1, hP⟩ := frGo_ix (N := needs.length) (m := fun i => .tup [.int (i : Int), .int (needs.getD i 0)]) (tgt := asg (.t [5, 6])) (body := sx (run Ps 1000 n) 1000 (.seq (.iff (.bor (.cmp .Gt (.var 6) (.var 1)) (.cmp .Gt (.bin .Add (.var 4) (.var 6)) (.bin .Mult (.var 1) (.var 2)))) (.seq (.ret (.tup (.cons (.con (D.str [102, 97, 105, 108, 115])) (.cons (.var 5) .nil)))) .nop) .nop) (.seq (.app 3 (.blt "sorted" (.cons (.lc (.n 7) (.rng (.cons (.var 4) (.cons (.bin .Add (.var 4) (.var 6)) .nil))) (.con (D.bl true)) (.bin .Mod (.var 7) (.var 1))) .nil))) (.seq (.aug 4 .Add (.var 6)) .nop))))
    I Post (fun j ρ hj => by
      rintro ⟨x5, x6, rfl, hok⟩
      have u0 := upto_nonneg (fun x hx => (nb x hx).1) j
      have mj : needs.getD j 0 ∈ needs := by
        rw [List.getD_eq_getElem?_getD, List.getElem?_eq_getElem hj]
        exact List.getElem_mem hj
      obtain ⟨m0, m1⟩ := nb _ mj
      have us := upto_succ hj
      obtain ⟨m, hm⟩ : ∃ m, m = needs.getD j 0 := ⟨_, rfl⟩
      obtain ⟨t, ht⟩ : ∃ t, t = upto needs j := ⟨_, rfl⟩
      have okd : okAt needs c u j ↔ m ≤ c ∧ t + m ≤ (c : Int) * u := by
        unfold okAt
        rw [hm, ht]
      have rs : rowsTo c needs (j + 1) = rowsTo c needs j ++ [rowOf c t m] := by
        unfold rowsTo
        rw [List.range_succ, List.map_append, hm, ht]
        rfl
      rw [← hm, ← ht] at us
      rw [← ht] at u0
      rw [← hm] at m0 m1
      by_cases q1 : m ≤ c
      · by_cases q2 : t + m ≤ (c : Int) * u
        · refine ⟨_, .nx [some (.lst (needs.map .int), .fz), some (.int c, .fz), some (.int u, .fz), some (pl (rowsTo c needs (j + 1)), .top), some (.int (upto needs (j + 1)), .fz), some (.int j, .fz), some (.int m, .fz), none], rfl, ?_, _, _, rfl, fun i hi => ?_⟩
          · rw [← hm, ← ht, rs, us]
            have lr : (rowsTo c needs j).length = j := by simp [rowsTo]
            have hc0 : ¬ (c : Int) = 0 := by omega
            simp -implicitDefEqProofs [ml, show ¬ (c : Int) < m by omega, show ¬ (c : Int) * u < t + m by omega, pl, rngD_two t (t + m) (by omega) (by omega) (by omega) (by omega), upD, show t + m - t = m by omega]
            rw [lc_all (fun k : Nat => [some (.lst (needs.map .int), .fz), some (.int c, .fz), some (.int u, .fz), some (.lst ((rowsTo c needs j).map dl), .top), some (.int t, .fz), some (.int j, .fz), some (.int m, .fz), some (.int (t + (k : Int)), .fz)]) (fun k => .int ((t + (k : Int)).fmod c))]
            · simp -implicitDefEqProofs [lr, inLine1_of (n := j) (by omega), rowOf, dl]
            · intro k hk
              refine ⟨by simp, by simp, ?_⟩
              simp -implicitDefEqProofs [show ¬ c = 0 by omega]
          · by_cases h : i = j
            · rw [h]
              exact okd.mpr ⟨q1, q2⟩
            · exact hok i (by omega)
        · refine ⟨_, .ret (.tup [sFails, .int j], .fz), rfl, ?_, .inl ⟨j, hj, hok, fun z => q2 (okd.mp z).2, rfl⟩⟩
          rw [← hm, ← ht]
          simp -implicitDefEqProofs [ml, show ¬ (c : Int) < m by omega, show (c : Int) * u < t + m by omega, sFails]
      · refine ⟨_, .ret (.tup [sFails, .int j], .fz), rfl, ?_, .inl ⟨j, hj, hok, fun z => q1 (okd.mp z).1, rfl⟩⟩
        rw [← hm, ← ht]
        simp -implicitDefEqProofs [show (c : Int) < m by omega, sFails])
    (fun ρ => by
      rintro ⟨x5, x6, rfl, hok⟩
      exact .inr ⟨x5, x6, rfl, hok⟩)
    (ρ := [some (.lst (needs.map .int), .fz), some (.int c, .fz), some (.int u, .fz), some (.lst [], .top), some (.int 0, .fz), none, none, none]) ⟨none, none, rfl, fun _ h => (by omega)⟩
  rw [← enumD_ix] at e1
  rcases hP with ⟨k, hk, h1, h2, rfl⟩ | ⟨x5, x6, rfl, h⟩
  · refine .inl ⟨k, hk, h1, h2, ?_⟩
    rw [run_succ (F := F_find_wear) rfl rfl]
    simp -implicitDefEqProofs [F_find_wear, b_find_wear, ent, e1]
  · refine .inr ⟨h, ?_⟩
    rw [run_succ (F := F_find_wear) rfl rfl]
    simp -implicitDefEqProofs [F_find_wear, b_find_wear, ent, e1, pl, sLasts]
end K66
set_option Elab.async false
set_option linter.all false
set_option maxRecDepth 100000
namespace K66
open PySem PL L2
/-! ### counting -/
theorem sum_add {α : Type} (l : List α) (f g : α → Int) : (l.map fun x => f x + g x).sum = (l.map f).sum + (l.map g).sum := by
  induction l with
  | nil => rfl
  | cons x l ih =>
    rw [List.map_cons, List.map_cons, List.map_cons, List.sum_cons, List.sum_cons, List.sum_cons, ih]
    omega
theorem filt_len (c : Nat) (r : List Int) : ((filt c r).length : Int) = ((List.range c).map fun x : Nat => if (x : Int) ∈ r then (1 : Int) else 0).sum := by
  unfold filt
  rw [List.length_map]
  induction (List.range c) with
  | nil => rfl
  | cons x l ih =>
    rw [List.map_cons, List.sum_cons, ← ih, List.filter_cons]
    by_cases h : (x : Int) ∈ r
    · simp [h]
      omega
    · simp [h]
theorem filt_le (c : Nat) (r : List Int) : (filt c r).length ≤ c := by
  unfold filt
  rw [List.length_map]
  have := List.length_filter_le (fun (k : Nat) => decide ((k : Int) ∈ r)) (List.range c)
  rwa [List.length_range] at this
theorem rows_sum {c : Nat} : ∀ {P : List (List Int)}, (∀ r, r ∈ P → r = filt c r) → (P.map fun r => (r.length : Int)).sum = ((List.range c).map fun x : Nat => (wornBy P x : Int)).sum
  | [], _ => by
    have : (List.range c).map (fun x : Nat => (wornBy [] x : Int)) = (List.range c).map fun _ => 0 := rfl
    rw [this]
    induction (List.range c) with
    | nil => rfl
    | cons x l ih =>
      rw [List.map_cons, List.sum_cons, ← ih]
      rfl
  | r :: P, h => by
    have ih := rows_sum (P := P) fun q hq => h q (List.mem_cons_of_mem _ hq)
    have e := h r List.mem_cons_self
    have w : ∀ x : Int, (wornBy (r :: P) x : Int) = (if x ∈ r then (1 : Int) else 0) + wornBy P x := fun x => by
      unfold wornBy
      rw [List.filter_cons]
      by_cases q : x ∈ r
      · simp [q]
        omega
      · simp [q]
    rw [List.map_cons, List.sum_cons, ih]
    have e2 : (List.range c).map (fun x : Nat => (wornBy (r :: P) x : Int)) = (List.range c).map fun x : Nat => (if (x : Int) ∈ r then (1 : Int) else 0) + wornBy P x := List.map_congr_left fun x _ => w x
    rw [e2, sum_add, ← filt_len, ← e]
theorem sum_le (l : List Nat) (f : Nat → Int) (u : Int) (h : ∀ x, x ∈ l → f x ≤ u) : (l.map f).sum ≤ (l.length : Int) * u := by
  induction l with
  | nil => simp
  | cons x l ih =>
    rw [List.map_cons, List.sum_cons, List.length_cons]
    have h1 := h x List.mem_cons_self
    have h2 := ih fun y hy => h y (List.mem_cons_of_mem _ hy)
    have e : ((l.length + 1 : Nat) : Int) * u = (l.length : Int) * u + u := by
      rw [Int.natCast_add, Int.add_mul]
      simp
    omega
/-- what an accepted plan says of the needs -/
theorem plan_ok {needs : List Int} {c u : Nat} {P : List (List Int)} (h : arePlans needs c u P = true) : ∀ i, i < needs.length → okAt needs c u i := by
  unfold arePlans at h
  simp only [Bool.and_eq_true, decide_eq_true_eq, allB_iff] at h
  obtain ⟨⟨⟨h1, h2⟩, h3⟩, h4⟩ := h
  have fl : ∀ r, r ∈ P → r = filt c r := fun r hr => (filt_iff c r).mpr (h3 r hr)
  have en : P.map (fun r => (r.length : Int)) = needs := by
    apply List.ext_getElem
    · simpa using h1
    · intro i hi hj
      have hi2 : i < P.length := by simpa using hi
      have := of_decide_eq_true (h2 (P[i], needs[i]) (by
        rw [List.mem_iff_getElem]
        exact ⟨i, by simp; omega, by rw [List.getElem_zip]⟩))
      rw [List.getElem_map]
      exact this
  have s1 := rows_sum fl
  rw [en] at s1
  have s2 := sum_le (List.range c) (fun x : Nat => (wornBy P x : Int)) u fun x hx => of_decide_eq_true (h4 x hx)
  rw [← s1, List.length_range] at s2
  have nn : ∀ x, x ∈ needs → 0 ≤ x := by
    intro x hx
    rw [← en] at hx
    obtain ⟨r, _, rfl⟩ := List.mem_map.mp hx
    omega
  intro i hi
  have hiP : i < P.length := by omega
  have gi : needs.getD i 0 = (P[i].length : Int) := by
    rw [List.getD_eq_getElem?_getD, List.getElem?_eq_getElem hi]
    have : needs[i] = (P.map (fun r => (r.length : Int)))[i]'(by simpa using hiP) := by simp [en]
    show needs[i] = _
    rw [this, List.getElem_map]
  constructor
  · rw [gi]
    have q := filt_le c P[i]
    rw [← fl P[i] (List.getElem_mem hiP)] at q
    omega
  · rw [← upto_succ hi]
    have : upto needs (i + 1) ≤ needs.sum := by
      have e := List.take_append_drop (i + 1) needs
      have e2 : needs.sum = (needs.take (i + 1)).sum + (needs.drop (i + 1)).sum := by
        rw [← List.sum_append, e]
      have : 0 ≤ (needs.drop (i + 1)).sum := by
        have q : ∀ l : List Int, (∀ x, x ∈ l → 0 ≤ x) → 0 ≤ l.sum := by
          intro l
          induction l with
          | nil => simp
          | cons x l ih =>
            intro h
            have := h x List.mem_cons_self
            have := ih fun y hy => h y (List.mem_cons_of_mem _ hy)
            rw [List.sum_cons]
            omega
        exact q _ fun x hx => nn x (List.mem_of_mem_drop hx)
      unfold upto
      omega
    omega
theorem fails_good {needs : List Int} {c u k : Nat} (hk : k < needs.length) (h : ¬ okAt needs c u k) : failsOk needs c u k = true := by
  unfold failsOk
  rw [decide_eq_true (by omega), Bool.true_and, Bool.or_eq_true, decide_eq_true_eq, decide_eq_true_eq, Int.toNat_natCast]
  have us := upto_succ hk
  unfold upto at us
  unfold okAt upto at h
  by_cases q : (c : Int) < needs.getD k 0
  · exact .inl q
  · refine .inr ?_
    rw [us]
    by_cases q2 : (needs.take k).sum + needs.getD k 0 ≤ (c : Int) * u
    · exact absurd ⟨by omega, q2⟩ h
    · omega
theorem fails_bad {needs : List Int} {c u : Nat} (h : ∀ i, i < needs.length → okAt needs c u i) (k : Int) : failsOk needs c u k = false := by
  unfold failsOk
  by_cases hk : 0 ≤ k ∧ k < needs.length
  · obtain ⟨j, rfl⟩ : ∃ j : Nat, k = (j : Int) := ⟨k.toNat, by omega⟩
    have hj : j < needs.length := by omega
    obtain ⟨h1, h2⟩ := h j hj
    have us := upto_succ hj
    unfold upto at us h2
    rw [Int.toNat_natCast, decide_eq_true hk, Bool.true_and, us, decide_eq_false (by omega), decide_eq_false (by omega)]
    rfl
  · rw [decide_eq_false hk, Bool.false_and]
/-! ### the program's own plan -/
/-- how many of the first t numbers wear x -/
def cnt (c : Nat) (x : Int) : Nat → Nat
  | 0 => 0
  | t + 1 => cnt c x t + if ((t : Int).fmod c = x) then 1 else 0
theorem fmod_step {c : Nat} (h : 1 ≤ c) (t : Nat) : (t : Int).fmod c = ((t % c : Nat) : Int) := by
  rw [Int.fmod_eq_emod_of_nonneg _ (by omega)]
  omega
theorem cnt_eq {c : Nat} (h1 : 1 ≤ c) {x : Nat} (hx : x < c) : ∀ t : Nat, cnt c x t = t / c + if x < t % c then 1 else 0
  | 0 => by simp [cnt]
  | t + 1 => by
    rw [cnt, cnt_eq h1 hx t, fmod_step h1]
    have hm := Nat.mod_lt t h1
    have e := Nat.div_add_mod t c
    have hz : ((t : Int) % (c : Int) = (x : Int)) ↔ t % c = x := by
      rw [← Int.natCast_emod]
      omega
    by_cases q : t % c + 1 = c
    · have e1 : t + 1 = c * (t / c + 1) := by
        rw [Nat.mul_add]
        omega
      have d1 : (t + 1) / c = t / c + 1 := by
        rw [e1, Nat.mul_div_cancel_left _ h1]
      have m1 : (t + 1) % c = 0 := by
        rw [e1, Nat.mul_mod_right]
      rw [d1, m1]
      by_cases a : x < t % c
      · simp [a, show ¬ t % c = x by omega]
        omega
      · simp [a, show t % c = x by omega]
    · have d1 : (t + 1) / c = t / c := by
        rw [show t + 1 = (t % c + 1) + c * (t / c) by omega, Nat.add_mul_div_left _ _ h1, Nat.div_eq_of_lt (by omega), Nat.zero_add]
      have m1 : (t + 1) % c = t % c + 1 := by
        conv => lhs; rw [show t + 1 = (t % c + 1) + c * (t / c) by omega]
        rw [Nat.add_mul_mod_self_left, Nat.mod_eq_of_lt (by omega)]
      rw [d1, m1]
      by_cases a : x < t % c
      · simp [a, hz, show ¬ t % c = x by omega, show x < t % c + 1 by omega]
      · by_cases b : t % c = x
        · simp [a, b, show x < x + 1 by omega]
        · simp [a, hz, b, show ¬ x < t % c + 1 by omega]
theorem cnt_le {c u : Nat} (h1 : 1 ≤ c) {x : Nat} (hx : x < c) {t : Nat} (ht : t ≤ c * u) : cnt c x t ≤ u := by
  rw [cnt_eq h1 hx]
  have hm := Nat.mod_lt t h1
  have e := Nat.div_add_mod t c
  by_cases q : t / c < u
  · split <;> omega
  · have : c * u ≤ c * (t / c) := Nat.mul_le_mul_left c (by omega)
    have e2 : t / c = u := by
      have : t / c ≤ u := Nat.div_le_of_le_mul ht
      omega
    have : t % c = 0 := by omega
    rw [this, if_neg (by omega)]
    omega
theorem cnt_row {c : Nat} {x : Int} {t m : Nat} (hx : x ∈ rowOf c (t : Int) (m : Int)) : cnt c x t + 1 ≤ cnt c x (t + m) := by
  unfold rowOf at hx
  rw [(srtI_perm _).mem_iff, List.mem_map] at hx
  obtain ⟨i, hi, e⟩ := hx
  rw [List.mem_range, Int.toNat_natCast] at hi
  have mono : ∀ a b : Nat, cnt c x a ≤ cnt c x (a + b) := by
    intro a b
    induction b with
    | zero => exact Nat.le_refl _
    | succ b ih => exact Nat.le_trans ih (Nat.le_add_right _ _)
  have h1 := mono t i
  have h2 : cnt c x (t + i + 1) = cnt c x (t + i) + 1 := by
    rw [cnt, if_pos (by rw [← e]; rfl)]
  have h3 := mono (t + i + 1) (m - i - 1)
  rw [show t + i + 1 + (m - i - 1) = t + m by omega] at h3
  omega
theorem rows_cnt {needs : List Int} {c : Nat} (nn : ∀ x, x ∈ needs → 0 ≤ x) (x : Int) : ∀ j : Nat, j ≤ needs.length → wornBy (rowsTo c needs j) x ≤ cnt c x (upto needs j).toNat
  | 0, _ => Nat.zero_le _
  | j + 1, hj => by
    have ih := rows_cnt (c := c) nn x j (by omega)
    have us := upto_succ (needs := needs) (i := j) (by omega)
    have u0 := upto_nonneg nn j
    have m0 : 0 ≤ needs.getD j 0 := by
      rw [List.getD_eq_getElem?_getD, List.getElem?_eq_getElem (by omega)]
      exact nn _ (List.getElem_mem _)
    obtain ⟨t, ht⟩ : ∃ t : Nat, upto needs j = (t : Int) := ⟨(upto needs j).toNat, by omega⟩
    obtain ⟨m, hm⟩ : ∃ t : Nat, needs.getD j 0 = (t : Int) := ⟨(needs.getD j 0).toNat, by omega⟩
    have rs : rowsTo c needs (j + 1) = rowsTo c needs j ++ [rowOf c t m] := by
      unfold rowsTo
      rw [List.range_succ, List.map_append, ← hm, ← ht]
      rfl
    have w : wornBy (rowsTo c needs (j + 1)) x = wornBy (rowsTo c needs j) x + if x ∈ rowOf c t m then 1 else 0 := by
      rw [rs]
      unfold wornBy
      rw [List.filter_append, List.length_append]
      by_cases q : x ∈ rowOf c t m <;> simp [q]
    have mono : ∀ a b : Nat, cnt c x a ≤ cnt c x (a + b) := by
      intro a b
      induction b with
      | zero => exact Nat.le_refl _
      | succ b ih => exact Nat.le_trans ih (Nat.le_add_right _ _)
    rw [w, us, ht, hm, show ((t : Int) + (m : Int)).toNat = t + m by omega]
    rw [ht, Int.toNat_natCast] at ih
    by_cases q : x ∈ rowOf c t m
    · have := cnt_row q
      rw [if_pos q]
      omega
    · have := mono t m
      rw [if_neg q]
      omega
theorem fmod_near {c : Nat} (h1 : 1 ≤ c) {a b : Int} (h : a.fmod c = b.fmod c) (q1 : a ≤ b) (q2 : b < a + c) : a = b := by
  rw [Int.fmod_eq_emod_of_nonneg _ (by omega), Int.fmod_eq_emod_of_nonneg _ (by omega)] at h
  have h3 : (b - a) % c = 0 := Int.emod_eq_zero_of_dvd (Int.dvd_of_emod_eq_zero (by rw [Int.sub_emod, h, Int.sub_self, Int.zero_emod]))
  rw [Int.emod_eq_of_lt (by omega) (by omega)] at h3
  omega
theorem row_ok {c : Nat} (h1 : 1 ≤ c) {t m : Int} (m0 : 0 ≤ m) (hm : m ≤ c) : okRow c (rowOf c t m) = true ∧ ((rowOf c t m).length : Int) = m := by
  have pm := srtI_perm ((List.range m.toNat).map fun (i : Nat) => (t + (i : Int)).fmod c)
  constructor
  · unfold okRow
    rw [Bool.and_eq_true, asc_iff]
    unfold Cm.wi
    rw [allB_iff]
    constructor
    · intro x hx
      unfold rowOf at hx
      rw [pm.mem_iff, List.mem_map] at hx
      obtain ⟨i, _, rfl⟩ := hx
      obtain ⟨g1, g2⟩ := fm (x := t + (i : Int)) (k := (c : Int)) (by omega)
      exact decide_eq_true ⟨g1, by omega⟩
    · have nd : (rowOf c t m).Nodup := by
        unfold rowOf
        rw [pm.nodup_iff]
        unfold List.Nodup
        rw [List.pairwise_map]
        refine List.Pairwise.imp_of_mem ?_ (List.pairwise_lt_range (n := m.toNat))
        intro a b ha hb hab e
        rw [List.mem_range] at ha hb
        have := fmod_near h1 e (by omega) (by omega)
        omega
      have pw := srtI_pw ((List.range m.toNat).map fun (i : Nat) => (t + (i : Int)).fmod c)
      exact (pw.and nd).imp fun {a b} q => by omega
  · unfold rowOf
    rw [pm.length_eq, List.length_map, List.length_range]
    omega
theorem own_good {needs : List Int} {c u : Nat} (h1 : 1 ≤ c) (nn : ∀ x, x ∈ needs → 0 ≤ x) (h : ∀ i, i < needs.length → okAt needs c u i) : arePlans needs c u (rowsTo c needs needs.length) = true := by
  have lr : (rowsTo c needs needs.length).length = needs.length := by simp [rowsTo]
  have rw_ : ∀ i, i < needs.length → okRow c (rowOf c (upto needs i) (needs.getD i 0)) = true ∧ ((rowOf c (upto needs i) (needs.getD i 0)).length : Int) = needs.getD i 0 := fun i hi => by
    refine row_ok h1 ?_ (h i hi).1
    rw [List.getD_eq_getElem?_getD, List.getElem?_eq_getElem hi]
    exact nn _ (List.getElem_mem hi)
  unfold arePlans
  simp only [Bool.and_eq_true, decide_eq_true_eq, allB_iff]
  refine ⟨⟨⟨lr, fun p hp => ?_⟩, fun r hr => ?_⟩, fun x hx => ?_⟩
  · obtain ⟨i, hi, rfl⟩ := List.mem_iff_getElem.mp hp
    have hi2 : i < needs.length := by
      rw [List.length_zip] at hi
      omega
    have := (rw_ i hi2).2
    rw [List.getElem_zip]
    refine decide_eq_true ?_
    unfold rowsTo
    rw [List.getElem_map, List.getElem_range, this, List.getD_eq_getElem?_getD, List.getElem?_eq_getElem hi2]
    rfl
  · unfold rowsTo at hr
    obtain ⟨i, hi, rfl⟩ := List.mem_map.mp hr
    exact (rw_ i (List.mem_range.mp hi)).1
  · have hx2 := List.mem_range.mp hx
    have q := rows_cnt (c := c) nn (x : Int) needs.length (Nat.le_refl _)
    have le : (upto needs needs.length).toNat ≤ c * u := by
      by_cases z : needs.length = 0
      · have : upto needs needs.length = 0 := by
          rw [z]
          simp [upto]
        omega
      · obtain ⟨d, hd⟩ : ∃ d, needs.length = d + 1 := ⟨needs.length - 1, by omega⟩
        have o := (h d (by omega)).2
        rw [← upto_succ (by omega), ← hd] at o
        have e : (c : Int) * u = ((c * u : Nat) : Int) := by simp
        omega
    have := cnt_le h1 hx2 le
    exact decide_eq_true (by omega)
end K66
set_option Elab.async false
set_option linter.all false
set_option maxRecDepth 100000
namespace PL
open PySem L2
/-! ### what repr can show -/
def scOk : D → Bool
  | .non => true
  | .bl _ => true
  | .int i => decide (i.natAbs < 1000000)
  | .str cs => decide (cs.length ≤ 6) && cs.all fun c => decide (c < 4294967296)
  | _ => false
def sm : Nat → D → Bool
  | 0, d => scOk d
  | n + 1, .lst xs => decide (xs.length ≤ 50) && xs.all (sm n)
  | n + 1, .tup xs => decide (xs.length ≤ 50) && xs.all (sm n)
  | _ + 1, d => scOk d
def Bd : Nat → Nat
  | 0 => 62
  | n + 1 => 50 * (Bd n + 2) + 3
theorem listText_le (ts : List Str) : (listText ts).length ≤ piled ts + 2 := by
  cases ts with
  | nil =>
    rw [listText_nil]
    decide
  | cons t r =>
    have h := textFrom_length_pos r 1 (("[" : Str) ++ (if (0 : Nat) > 0 then ", " else "" : String) ++ t) (by omega)
    have e : ((("[" : Str) ++ (if (0 : Nat) > 0 then ", " else "" : String) ++ t)).length = 1 + t.length := by
      rw [strLen_append, strLen_append]; rfl
    have x : (listText (t :: r)).length = (textFrom 1 (("[" : Str) ++ (if (0 : Nat) > 0 then ", " else "" : String) ++ t) r).length + 1 := by
      show (textFrom 0 "[" (t :: r) ++ "]").length = _
      rw [strLen_append]; rfl
    rw [x, h, e, piled_cons]
    omega
theorem tupleText_le (ts : List Str) : (tupleText ts).length ≤ piled ts + 3 := by
  unfold tupleText
  rw [strLen_append, strLen_append]
  have e1 : ((("(" : String) : Str)).length = 1 := rfl
  have e3 : (((if ts.length == 1 then ",)" else ")" : String) : Str)).length ≤ 2 := by split <;> decide
  have e2 : (Str.join ", " ts).length ≤ piled ts := by
    cases ts with
    | nil => decide
    | cons t r =>
      have := join_length_add (t :: r) (by simp)
      omega
  rw [e1]
  omega
theorem Bd_mono : ∀ n, 62 ≤ Bd n
  | 0 => Nat.le_refl _
  | n + 1 => by
    have := Bd_mono n
    rw [Bd]
    omega
theorem scOk_ok {d : D} (h : scOk d = true) : (toPy d).showable = true ∧ (toPy d).depth ≤ 0 ∧ (toPy d).shown.length ≤ 62 := by
  cases d with
  | non => exact ⟨rfl, Nat.le_refl _, by decide⟩
  | bl b => exact ⟨rfl, Nat.le_refl _, by cases b <;> decide⟩
  | int i =>
    have h : i.natAbs < 1000000 := of_decide_eq_true h
    refine ⟨decide_eq_true ?_, Nat.le_refl _, ?_⟩
    · have : i.natAbs.log2 < 20 := by
        by_cases z : i.natAbs = 0
        · rw [z]; decide
        · exact (Nat.log2_lt z).mpr (by omega)
      omega
    · show (Str.ofString (toString i)).length ≤ 62
      have q := int_text_length_le10 (a := i) (k := 6) (by omega) (by omega)
      rw [ofString_length]
      omega
  | str cs =>
    have h : (decide (cs.length ≤ 6) && cs.all fun c => decide (c < 4294967296)) = true := h
    rw [Bool.and_eq_true, decide_eq_true_eq, List.all_eq_true] at h
    refine ⟨rfl, Nat.le_refl _, ?_⟩
    have q := PySem.StrLaws.reprText_len ⟨cs.toArray⟩ (fun c hc => by
      have hc : c ∈ cs := by simpa using hc
      have := of_decide_eq_true (h.2 c hc)
      omega)
    have e : (⟨cs.toArray⟩ : Str).length = cs.length := rfl
    show (reprText ⟨cs.toArray⟩).length ≤ 62
    omega
  | _ => cases h
theorem sm_ok : ∀ (n : Nat) (d : D), sm n d = true → (toPy d).showable = true ∧ (toPy d).depth ≤ n ∧ (toPy d).shown.length ≤ Bd n
  | 0, d, h => scOk_ok h
  | n + 1, d, h => by
    have all : ∀ xs : List D, xs.all (sm n) = true → PyData.showableAll (toPys xs) = true ∧ PyData.depthAll (toPys xs) ≤ n ∧ piled (PyData.shownAll (toPys xs)) ≤ xs.length * (Bd n + 2) := by
      intro xs
      induction xs with
      | nil => exact fun _ => ⟨rfl, Nat.zero_le _, Nat.zero_le _⟩
      | cons x xs ih =>
        intro h
        rw [List.all_cons, Bool.and_eq_true] at h
        obtain ⟨a1, a2, a3⟩ := sm_ok n x h.1
        obtain ⟨b1, b2, b3⟩ := ih h.2
        refine ⟨?_, Nat.max_le.mpr ⟨a2, b2⟩, ?_⟩
        · show (PyData.showable (toPy x) && PyData.showableAll (toPys xs)) = true
          rw [a1, b1]
          rfl
        · show piled ((toPy x).shown :: PyData.shownAll (toPys xs)) ≤ _
          rw [piled_cons, List.length_cons, Nat.add_mul]
          omega
    have sc : scOk d = true → (toPy d).showable = true ∧ (toPy d).depth ≤ n + 1 ∧ (toPy d).shown.length ≤ Bd (n + 1) := fun h => by
      obtain ⟨a1, a2, a3⟩ := scOk_ok h
      have := Bd_mono (n + 1)
      exact ⟨a1, by omega, by omega⟩
    cases d with
    | lst xs =>
      have h : (decide (xs.length ≤ 50) && xs.all (sm n)) = true := h
      rw [Bool.and_eq_true, decide_eq_true_eq] at h
      obtain ⟨b1, b2, b3⟩ := all xs h.2
      refine ⟨b1, Nat.succ_le_succ b2, ?_⟩
      show (listText (PyData.shownAll (toPys xs))).length ≤ _
      have := listText_le (PyData.shownAll (toPys xs))
      have := Nat.mul_le_mul_right (Bd n + 2) h.1
      rw [Bd]
      omega
    | tup xs =>
      have h : (decide (xs.length ≤ 50) && xs.all (sm n)) = true := h
      rw [Bool.and_eq_true, decide_eq_true_eq] at h
      obtain ⟨b1, b2, b3⟩ := all xs h.2
      refine ⟨b1, Nat.succ_le_succ b2, ?_⟩
      show (tupleText (PyData.shownAll (toPys xs))).length ≤ _
      have := tupleText_le (PyData.shownAll (toPys xs))
      have := Nat.mul_le_mul_right (Bd n + 2) h.1
      rw [Bd]
      omega
    | non => exact sc h
    | bl _ => exact sc h
    | int _ => exact sc h
    | str _ => exact sc h
    | scr _ => cases h
    | dct _ _ => cases h
theorem rprOk_of {d : D} (h1 : isSq d = true) (h2 : sm 3 d = true) : rprOk d = true := by
  obtain ⟨a1, a2, a3⟩ := sm_ok 3 d h2
  unfold rprOk
  have b : Bd 3 = 8012753 := by decide
  rw [h1, a1, decide_eq_true (by omega), decide_eq_true (by rw [sizeLine_eq]; omega)]
  rfl
end PL
set_option Elab.async false
set_option linter.all false
set_option maxRecDepth 100000
namespace K66
open PySem PL L2
variable {n : Nat}
def smallP (P : List (List Int)) : Prop := P.length ≤ 20 ∧ ∀ r, r ∈ P → r.length ≤ 40 ∧ ∀ x, x ∈ r → -1000 ≤ x ∧ x ≤ 1000
inductive Shape : D → Prop
  | lasts (P : List (List Int)) : smallP P → Shape (.tup [sLasts, pl P])
  | fails (k : Int) : -1000 ≤ k → k ≤ 1000 → Shape (.tup [sFails, .int k])
  | last (d : D) : sm 2 d = true → Shape (.tup [sLast, d])
  | len (ds : List D) : ds.length ≠ 2 → sm 3 (.tup ds) = true → Shape (.tup ds)
theorem sm_pl {P : List (List Int)} (h : smallP P) : sm 2 (pl P) = true := by
  show (decide ((P.map dl).length ≤ 50) && (P.map dl).all (sm 1)) = true
  rw [List.length_map, decide_eq_true (Nat.le_trans h.1 (by omega)), Bool.true_and, List.all_eq_true]
  intro d hd
  obtain ⟨r, hr, rfl⟩ := List.mem_map.mp hd
  obtain ⟨h1, h2⟩ := h.2 r hr
  show (decide ((r.map D.int).length ≤ 50) && (r.map D.int).all (sm 0)) = true
  rw [List.length_map, decide_eq_true (by omega), Bool.true_and, List.all_eq_true]
  intro e he
  obtain ⟨x, hx, rfl⟩ := List.mem_map.mp he
  obtain ⟨h3, h4⟩ := h2 x hx
  exact decide_eq_true (by omega)
theorem Shape.rpr {d : D} (h : Shape d) : rprOk d = true := by
  cases h with
  | lasts P h =>
    refine rprOk_of rfl ?_
    show (true && ([sLasts, pl P].all (sm 2))) = true
    simp only [List.all_cons, List.all_nil, sm_pl h, Bool.and_true, Bool.true_and]
    decide
  | fails k h1 h2 =>
    refine rprOk_of rfl ?_
    show (true && ([sFails, .int k].all (sm 2))) = true
    have e : sm 2 (.int k) = true := decide_eq_true (by omega)
    simp only [List.all_cons, List.all_nil, e, Bool.and_true, Bool.true_and]
    decide
  | last d h =>
    refine rprOk_of rfl ?_
    show (true && ([sLast, d].all (sm 2))) = true
    simp only [List.all_cons, List.all_nil, h, Bool.and_true, Bool.true_and]
    decide
  | len ds h1 h2 => exact rprOk_of rfl h2
inductive Told (needs : List Int) (c : Nat) : D → Prop
  | fails (k : Nat) : k < needs.length → Told needs c (.tup [sFails, .int k])
  | lasts (P : List (List Int)) : P.length = needs.length → (∀ r, r ∈ P → r.length ≤ 10 ∧ ∀ x, x ∈ r → 0 ≤ x ∧ x < c) → Told needs c (.tup [sLasts, pl P])
def pA : S := (.set 4 (.lst (.cons (.var 2) (.cons (.bin .Add (.var 2) (.tup (.cons (.con (D.int 0)) .nil))) (.cons (.slc (.var 2) (.cons (.con (D.int 0)) .nil) (.cons (.con (D.int 1)) .nil)) (.cons (.tup (.cons (.con (D.str [108, 97, 115, 116])) (.cons (.idx (.var 2) (.con (D.int 1))) .nil))) (.cons (.tup (.cons (.con (D.str [108, 97, 115, 116, 115])) (.cons (.lst .nil) .nil))) (.cons (.tup (.cons (.con (D.str [108, 97, 115, 116, 115])) (.cons (.lc (.n 5) (.cons (.var 0) .nil) (.con (D.bl true)) (.lrg1 (.var 5))) .nil))) .nil))))))))
def pB : S := (.set 4 (.bin .Add (.var 4) (.lst (.cons (.tup (.cons (.con (D.str [108, 97, 115, 116, 115])) (.cons (.lc (.n 5) (.cons (.var 0) .nil) (.con (D.bl true)) (.lrg2 (.blt "max" (.cons (.con (D.int 0)) (.cons (.bin .Sub (.var 1) (.var 5)) .nil))) (.var 1))) .nil))) (.cons (.tup (.cons (.con (D.str [108, 97, 115, 116, 115])) (.cons (.lc (.n 5) (.cons (.var 0) .nil) (.con (D.bl true)) (.lst .nil)) .nil))) .nil)))))
def pC : S := (.set 4 (.bin .Add (.var 4) (.lc (.n 6) (.rng (.cons (.neg (.con (D.int 1))) (.cons (.bin .Add (.blt "len" (.cons (.var 0) .nil)) (.con (D.int 1))) .nil))) (.con (D.bl true)) (.tup (.cons (.con (D.str [102, 97, 105, 108, 115])) (.cons (.var 6) .nil))))))
def pI : S := (.seq (.app 4 (.tup (.cons (.con (D.str [108, 97, 115, 116, 115])) (.cons (.bin .Add (.bin .Add (.slc (.var 7) (.cons (.con (D.int 0)) .nil) (.cons (.var 9) .nil)) (.lst (.cons (.var 13) .nil))) (.slc (.var 7) (.cons (.bin .Add (.var 9) (.con (D.int 1))) .nil) .nil)) .nil)))) .nop)
def pJ : S := (.seq (.set 9 (.bin .Mod (.var 8) (.blt "len" (.cons (.var 7) .nil)))) (.seq (.set 10 (.idx (.var 7) (.var 9))) (.seq (.set 11 (.lst (.cons (.rev (.var 10)) (.cons (.slc (.var 10) (.cons (.con (D.int 1)) .nil) .nil) (.cons (.bin .Add (.var 10) (.lst (.cons (.var 1) .nil))) (.cons (.bin .Add (.var 10) (.slc (.var 10) (.cons (.con (D.int 0)) .nil) (.cons (.con (D.int 1)) .nil))) (.cons (.bin .Add (.lst (.cons (.neg (.con (D.int 1))) .nil)) (.var 10)) (.cons (.srs (.bin .Add (.var 10) (.lst (.cons (.bin .Mod (.bin .FloorDiv (.var 8) (.con (D.int 7))) (.var 1)) .nil)))) (.cons (.srs (.lc (.n 12) (.cons (.var 10) .nil) (.con (D.bl true)) (.bin .Mod (.blt "int" (.cons (.bin .Add (.var 12) (.con (D.int 1))) .nil)) (.var 1)))) .nil))))))))) (.seq (.fr (.n 13) (.cons (.var 11) .nil) (.seq (.app 4 (.tup (.cons (.con (D.str [108, 97, 115, 116, 115])) (.cons (.bin .Add (.bin .Add (.slc (.var 7) (.cons (.con (D.int 0)) .nil) (.cons (.var 9) .nil)) (.lst (.cons (.var 13) .nil))) (.slc (.var 7) (.cons (.bin .Add (.var 9) (.con (D.int 1))) .nil) .nil)) .nil)))) .nop)) .nop))))
def pF : S := (.fr (.n 8) (.cons (.var 3) .nil) (.seq (.set 9 (.bin .Mod (.var 8) (.blt "len" (.cons (.var 7) .nil)))) (.seq (.set 10 (.idx (.var 7) (.var 9))) (.seq (.set 11 (.lst (.cons (.rev (.var 10)) (.cons (.slc (.var 10) (.cons (.con (D.int 1)) .nil) .nil) (.cons (.bin .Add (.var 10) (.lst (.cons (.var 1) .nil))) (.cons (.bin .Add (.var 10) (.slc (.var 10) (.cons (.con (D.int 0)) .nil) (.cons (.con (D.int 1)) .nil))) (.cons (.bin .Add (.lst (.cons (.neg (.con (D.int 1))) .nil)) (.var 10)) (.cons (.srs (.bin .Add (.var 10) (.lst (.cons (.bin .Mod (.bin .FloorDiv (.var 8) (.con (D.int 7))) (.var 1)) .nil)))) (.cons (.srs (.lc (.n 12) (.cons (.var 10) .nil) (.con (D.bl true)) (.bin .Mod (.blt "int" (.cons (.bin .Add (.var 12) (.con (D.int 1))) .nil)) (.var 1)))) .nil))))))))) (.seq (.fr (.n 13) (.cons (.var 11) .nil) (.seq (.app 4 (.tup (.cons (.con (D.str [108, 97, 115, 116, 115])) (.cons (.bin .Add (.bin .Add (.slc (.var 7) (.cons (.con (D.int 0)) .nil) (.cons (.var 9) .nil)) (.lst (.cons (.var 13) .nil))) (.slc (.var 7) (.cons (.bin .Add (.var 9) (.con (D.int 1))) .nil) .nil)) .nil)))) .nop)) .nop)))))
def pD : S := (.iff (.band (.cmp .Eq (.idx (.var 2) (.con (D.int 0))) (.con (D.str [108, 97, 115, 116, 115]))) (.cmp .Gt (.blt "len" (.cons (.var 0) .nil)) (.con (D.int 0)))) (.seq (.set 7 (.idx (.var 2) (.con (D.int 1)))) (.seq (.set 4 (.bin .Add (.var 4) (.lst (.cons (.tup (.cons (.con (D.str [108, 97, 115, 116, 115])) (.cons (.slc (.var 7) (.cons (.con (D.int 1)) .nil) .nil) .nil))) (.cons (.tup (.cons (.con (D.str [108, 97, 115, 116, 115])) (.cons (.rev (.var 7)) .nil))) (.cons (.tup (.cons (.con (D.str [108, 97, 115, 116, 115])) (.cons (.bin .Add (.var 7) (.lst (.cons (.lst .nil) .nil))) .nil))) (.cons (.tup (.cons (.con (D.str [108, 97, 115, 116, 115])) (.cons (.bin .Add (.var 7) (.slc (.var 7) (.cons (.con (D.int 0)) .nil) (.cons (.con (D.int 1)) .nil))) .nil))) .nil))))))) (.seq (.fr (.n 8) (.cons (.var 3) .nil) (.seq (.set 9 (.bin .Mod (.var 8) (.blt "len" (.cons (.var 7) .nil)))) (.seq (.set 10 (.idx (.var 7) (.var 9))) (.seq (.set 11 (.lst (.cons (.rev (.var 10)) (.cons (.slc (.var 10) (.cons (.con (D.int 1)) .nil) .nil) (.cons (.bin .Add (.var 10) (.lst (.cons (.var 1) .nil))) (.cons (.bin .Add (.var 10) (.slc (.var 10) (.cons (.con (D.int 0)) .nil) (.cons (.con (D.int 1)) .nil))) (.cons (.bin .Add (.lst (.cons (.neg (.con (D.int 1))) .nil)) (.var 10)) (.cons (.srs (.bin .Add (.var 10) (.lst (.cons (.bin .Mod (.bin .FloorDiv (.var 8) (.con (D.int 7))) (.var 1)) .nil)))) (.cons (.srs (.lc (.n 12) (.cons (.var 10) .nil) (.con (D.bl true)) (.bin .Mod (.blt "int" (.cons (.bin .Add (.var 12) (.con (D.int 1))) .nil)) (.var 1)))) .nil))))))))) (.seq (.fr (.n 13) (.cons (.var 11) .nil) (.seq (.app 4 (.tup (.cons (.con (D.str [108, 97, 115, 116, 115])) (.cons (.bin .Add (.bin .Add (.slc (.var 7) (.cons (.con (D.int 0)) .nil) (.cons (.var 9) .nil)) (.lst (.cons (.var 13) .nil))) (.slc (.var 7) (.cons (.bin .Add (.var 9) (.con (D.int 1))) .nil) .nil)) .nil)))) .nop)) .nop))))) .nop))) .nop)
theorem papers_eq : b__law_papers = .seq pA (.seq pB (.seq pC (.seq pD (.seq (.ret (.var 4)) .nop)))) := rfl
def upI (a : Int) (n : Nat) : List Int := (List.range n).map fun (k : Nat) => a + (k : Int)
theorem upD_upI (a : Int) (n : Nat) : D.lst (upD a n) = dl (upI a n) := by
  unfold upD dl upI
  rw [List.map_map]
  rfl
def E0 (needs : List Int) (c : Nat) (told : D) (draws : List Int) (x4 : Option R) : PL.Env := [some (.lst (needs.map .int), .fz), some (.int c, .fz), some (told, .fz), some (.lst (draws.map .int), .fz), x4, none, none, none, none, none, none, none, none, none]
theorem p_A {φ : String → List D → Option R} {needs : List Int} {c : Nat} {s : List Nat} {x : D} {draws : List Int} (nb : ∀ x, x ∈ needs → 0 ≤ x ∧ x ≤ 1000) (rest : S) :
    sx φ 1000 (.seq pA rest) (E0 needs c (.tup [.str s, x]) draws none) = sx φ 1000 rest (E0 needs c (.tup [.str s, x]) draws (some (.lst [.tup [.str s, x], .tup [.str s, x, .int 0], .tup [.str s], .tup [sLast, x], .tup [sLasts, pl []], .tup [sLasts, pl (needs.map fun x => upI 0 x.toNat)]], .top))) := by
  have c1 : cutL [D.str s, x] (some 0) (some 1) = [D.str s] := cutL_zero [D.str s, x] 1
  simp -implicitDefEqProofs [pA, E0, c1]
  rw [lc_all (fun y : Int => [some (.lst (needs.map .int), .fz), some (.int c, .fz), some (.tup [.str s, x], .fz), some (.lst (draws.map .int), .fz), none, some (.int y, .fz), none, none, none, none, none, none, none, none]) (fun y => dl (upI 0 y.toNat))]
  · have e : needs.map (fun y => dl (upI 0 y.toNat)) = (needs.map fun x => upI 0 x.toNat).map dl := by
      rw [List.map_map]
      rfl
    rw [e]
    simp -implicitDefEqProofs [sLast, sLasts, pl]
  · intro y hy
    have h := nb y hy
    refine ⟨by simp, by simp, ?_⟩
    simp -implicitDefEqProofs [rngD_one y (by omega) (by omega), ← upD_upI]
def loI (c : Nat) (y : Int) : Int := if (c : Int) - y > 0 then (c : Int) - y else 0
theorem p_B {φ : String → List D → Option R} {needs : List Int} {c : Nat} {told : D} {draws : List Int} (hc : c ≤ 1000) (nb : ∀ x, x ∈ needs → 0 ≤ x ∧ x ≤ 1000) (F : List D) (hF : F.length ≤ 1000) (rest : S) :
    sx φ 1000 (.seq pB rest) (E0 needs c told draws (some (.lst F, .top))) = sx φ 1000 rest (E0 needs c told draws (some (.lst (F ++ [.tup [sLasts, pl (needs.map fun x => upI (loI c x) ((c : Int) - loI c x).toNat)], .tup [sLasts, pl (needs.map fun _ => [])]]), .top))) := by
  simp -implicitDefEqProofs [pB, E0]
  rw [lc_all (fun y : Int => [some (.lst (needs.map .int), .fz), some (.int c, .fz), some (told, .fz), some (.lst (draws.map .int), .fz), some (.lst F, .fz), some (.int y, .fz), none, none, none, none, none, none, none, none]) (fun y => dl (upI (loI c y) ((c : Int) - loI c y).toNat))]
  · rw [lc_all (fun y : Int => [some (.lst (needs.map .int), .fz), some (.int c, .fz), some (told, .fz), some (.lst (draws.map .int), .fz), some (.lst F, .fz), some (.int y, .fz), none, none, none, none, none, none, none, none]) (fun y => dl [])]
    · have e : needs.map (fun y => dl (upI (loI c y) ((c : Int) - loI c y).toNat)) = (needs.map fun y => upI (loI c y) ((c : Int) - loI c y).toNat).map dl := by
        rw [List.map_map]
        rfl
      have e2 : needs.map (fun _ => dl []) = (needs.map fun _ => ([] : List Int)).map dl := by
        rw [List.map_map]
        rfl
      rw [e, e2]
      simp -implicitDefEqProofs [sLasts, pl, inLine_of (n := F.length + 2) (by omega)]
    · intro y hy
      refine ⟨by simp, by simp, ?_⟩
      simp -implicitDefEqProofs [dl]
  · intro y hy
    have h := nb y hy
    refine ⟨by simp, by simp, ?_⟩
    have l1 : loI c y = if (c : Int) - y > 0 then (c : Int) - y else 0 := rfl
    have l0 : -1000 ≤ loI c y ∧ loI c y ≤ 1000 := by
      rw [l1]
      split <;> omega
    have q := rngD_two (loI c y) c (by omega) (by omega) (by omega) (by omega)
    have l2 : loI c y = if y < (c : Int) then (c : Int) - y else 0 := by
      rw [l1]
      by_cases z : y < c
      · rw [if_pos z, if_pos (by omega)]
      · rw [if_neg z, if_neg (by omega)]
    simp -implicitDefEqProofs [← l2]
    rw [q]
    simp -implicitDefEqProofs [upD_upI]
theorem set_ite {p : Prop} [Decidable p] {a b : PL.Env} {i : Nat} {v : Option R} : List.set (if p then a else b) i v = if p then List.set a i v else List.set b i v := by
  split <;> rfl
theorem p_C {φ : String → List D → Option R} {needs : List Int} {c : Nat} {told : D} {draws : List Int} (hn : needs.length ≤ 1000) (F : List D) (hF : F.length ≤ 1000) (rest : S) :
    sx φ 1000 (.seq pC rest) (E0 needs c told draws (some (.lst F, .top))) = sx φ 1000 rest (E0 needs c told draws (some (.lst (F ++ (List.range (needs.length + 2)).map fun (k : Nat) => .tup [sFails, .int (-1 + (k : Int))]), .top))) := by
  simp -implicitDefEqProofs [pC, E0]
  rw [rngD_two (-1) ((needs.length : Int) + 1) (by omega) (by omega) (by omega) (by omega), show ((needs.length : Int) + 1 - -1).toNat = needs.length + 2 by omega]
  simp -implicitDefEqProofs
  rw [upD, lc_all (fun k : Nat => [some (.lst (needs.map .int), .fz), some (.int c, .fz), some (told, .fz), some (.lst (draws.map .int), .fz), some (.lst F, .fz), none, some (.int (-1 + (k : Int)), .fz), none, none, none, none, none, none, none]) (fun (k : Nat) => .tup [sFails, .int (-1 + (k : Int))])]
  · have kf : keepR (.lst (F ++ (List.range (needs.length + 2)).map fun (k : Nat) => .tup [sFails, .int (-1 + (k : Int))]), .top) = false := by
      rw [k_ltop, List.range_succ, List.map_append, List.all_append, List.all_append]
      simp
    simp -implicitDefEqProofs [-k_ltop, kf, inLine_of (n := F.length + (needs.length + 2)) (by omega)]
  · intro y hy
    refine ⟨by simp, by simp, ?_⟩
    simp -implicitDefEqProofs [sFails]
theorem p_D0 {φ : String → List D → Option R} {needs : List Int} {c : Nat} {s : List Nat} {x : D} {draws : List Int} (h : s ≠ [108, 97, 115, 116, 115] ∨ needs = []) (F : List D) :
    (sx φ 1000 (.seq pD (.seq (.ret (.var 4)) .nop)) (E0 needs c (.tup [.str s, x]) draws (some (.lst F, .top)))).bind out = some (.lst F, .top) := by
  rcases h with h | h
  · simp -implicitDefEqProofs [pD, E0, h]
  · by_cases q : s = [108, 97, 115, 116, 115]
    · simp -implicitDefEqProofs [pD, E0, h, q]
    · simp -implicitDefEqProofs [pD, E0, h, q]
/-- one plan more for each new row -/
theorem p_I {φ : String → List D → Option R} (x0 x1 x2 x3 x5 x6 x8 x10 x11 x12 x13 : Option R) (P : List (List Int)) (j : Nat) (hP : P.length ≤ 10) (hsm : smallP P) : ∀ (N : List (List Int)) (F : List D) (B : Nat), (∀ r, r ∈ N → r.length ≤ 40 ∧ ∀ x, x ∈ r → -1000 ≤ x ∧ x ≤ 1000) → (∀ p, p ∈ F → Shape p) → F.length + N.length ≤ B → B ≤ 1000 →
    ∃ (F' : List D) (x13' : Option R), (∀ p, p ∈ F' → Shape p) ∧ F'.length ≤ B ∧ frGo (asg (.n 13)) (sx φ 1000 pI) (N.map dl) [x0, x1, x2, x3, some (.lst F, .top), x5, x6, some (pl P, .fz), x8, some (.int j, .fz), x10, x11, x12, x13] =
      some (.nx [x0, x1, x2, x3, some (.lst F', .top), x5, x6, some (pl P, .fz), x8, some (.int j, .fz), x10, x11, x12, x13']) := by
  intro N F B hN hF hB hB2
  obtain ⟨o, e, F', x13', rfl, h1, h2⟩ := frGo_map (m := dl) (tgt := asg (.n 13)) (body := sx φ 1000 pI)
    (fun rest ρ => ∃ (F : List D) (x13 : Option R), ρ = [x0, x1, x2, x3, some (.lst F, .top), x5, x6, some (pl P, .fz), x8, some (.int j, .fz), x10, x11, x12, x13] ∧ (∀ p, p ∈ F → Shape p) ∧ F.length + rest.length ≤ B ∧ ∀ r, r ∈ rest → r.length ≤ 40 ∧ ∀ x, x ∈ r → -1000 ≤ x ∧ x ≤ 1000)
    (fun o => ∃ (F' : List D) (x13' : Option R), o = .nx [x0, x1, x2, x3, some (.lst F', .top), x5, x6, some (pl P, .fz), x8, some (.int j, .fz), x10, x11, x12, x13'] ∧ (∀ p, p ∈ F' → Shape p) ∧ F'.length ≤ B)
    (fun r rest ρ => by
      rintro ⟨F, x13, rfl, hF, hB, hN⟩
      rw [List.length_cons] at hB
      have hr := hN r List.mem_cons_self
      refine ⟨_, .nx [x0, x1, x2, x3, some (.lst (F ++ [.tup [sLasts, pl (P.take j ++ [r] ++ P.drop (j + 1))]]), .top), x5, x6, some (pl P, .fz), x8, some (.int j, .fz), x10, x11, x12, some (dl r, .fz)], rfl, ?_, _, _, rfl, ?_, ?_, fun q hq => hN q (List.mem_cons_of_mem _ hq)⟩
      · have c1 : cutL (P.map dl) (some 0) (some (j : Int)) = (P.take j).map dl := by rw [cutL_zero, List.map_take]
        have c2 : cutL (P.map dl) (some ((j : Int) + 1)) none = (P.drop (j + 1)).map dl := by
          rw [show (j : Int) + 1 = ((j + 1 : Nat) : Int) by omega, cutL_from, List.map_drop]
        have l1 : (P.take j).length ≤ P.length := by rw [List.length_take]; exact Nat.min_le_right _ _
        have l2 : (P.drop (j + 1)).length ≤ P.length := by rw [List.length_drop]; exact Nat.sub_le _ _
        have e3 : pl (P.take j ++ [r] ++ P.drop (j + 1)) = .lst ((P.take j).map dl ++ [dl r] ++ (P.drop (j + 1)).map dl) := by
          unfold pl
          rw [List.map_append, List.map_append]
          rfl
        rw [e3]
        unfold pl
        generalize P.take j = A at c1 l1
        generalize P.drop (j + 1) = C at c2 l2
        simp -implicitDefEqProofs [pI, c1, c2, sLasts, inLine_of (n := A.length + 1) (by omega), inLine_of (n := A.length + (1 + C.length)) (by omega), inLine_of (n := A.length + 1 + C.length) (by omega), inLine1_of (n := F.length) (by omega)]
      · intro p hp
        rcases List.mem_append.mp hp with hp | hp
        · exact hF p hp
        · rw [List.mem_singleton.mp hp]
          refine .lasts _ ⟨?_, fun q hq => ?_⟩
          · rw [List.length_append, List.length_append, List.length_take, List.length_drop, List.length_singleton]
            omega
          · rcases List.mem_append.mp hq with hq | hq
            · rcases List.mem_append.mp hq with hq | hq
              · exact hsm.2 q (List.mem_of_mem_take hq)
              · rw [List.mem_singleton.mp hq]
                exact hr
            · exact hsm.2 q (List.mem_of_mem_drop hq)
      · rw [List.length_append, List.length_singleton]
        omega)
    (fun ρ => by
      rintro ⟨F, x13, rfl, hF, hB, _⟩
      exact ⟨F, x13, rfl, hF, by simpa using hB⟩)
    (l := N) (ρ := [x0, x1, x2, x3, some (.lst F, .top), x5, x6, some (pl P, .fz), x8, some (.int j, .fz), x10, x11, x12, x13]) ⟨F, x13, rfl, hF, hB, hN⟩
  exact ⟨F', x13', h1, h2, e⟩
/-- the rows that are put in for a draw -/
def newRows (c : Nat) (row : List Int) (d : Int) : List (List Int) :=
  [row.reverse, row.tail, row ++ [(c : Int)], row ++ row.take 1, -1 :: row, srtS (row ++ [(d.fdiv 7).fmod c]), srtS (row.map fun x => (x + 1).fmod c)]
theorem len_srtS (l : List Int) : (srtS l).length ≤ l.length := by
  induction l with
  | nil => exact Nat.le_refl _
  | cons x l ih =>
    have ins : ∀ (i : Int) (m : List Int), (insS i m).length ≤ m.length + 1 := by
      intro i m
      induction m with
      | nil => exact Nat.le_refl _
      | cons y m ih =>
        unfold insS
        split
        · simp
        · split
          · simp
          · simpa using ih
    have := ins x (srtS l)
    rw [srtS, List.length_cons]
    omega
theorem newRows_ok {c : Nat} (h1 : 1 ≤ c) (hc : c ≤ 6) {row : List Int} (hr : row.length ≤ 10 ∧ ∀ x, x ∈ row → 0 ≤ x ∧ x < c) (d : Int) : ∀ r, r ∈ newRows c row d → r.length ≤ 40 ∧ ∀ x, x ∈ r → -1000 ≤ x ∧ x ≤ 1000 := by
  obtain ⟨hl, hx⟩ := hr
  have big : ∀ x, x ∈ row → -1000 ≤ x ∧ x ≤ 1000 := fun x h => by
    have := hx x h
    omega
  intro r hr
  unfold newRows at hr
  simp only [List.mem_cons, List.not_mem_nil, or_false] at hr
  rcases hr with rfl | rfl | rfl | rfl | rfl | rfl | rfl
  · exact ⟨by rw [List.length_reverse]; omega, fun x h => big x (List.mem_reverse.mp h)⟩
  · exact ⟨by rw [List.length_tail]; omega, fun x h => big x (List.mem_of_mem_tail h)⟩
  · refine ⟨by rw [List.length_append, List.length_singleton]; omega, fun x h => ?_⟩
    rcases List.mem_append.mp h with h | h
    · exact big x h
    · rw [List.mem_singleton.mp h]
      omega
  · refine ⟨by rw [List.length_append, List.length_take]; omega, fun x h => ?_⟩
    rcases List.mem_append.mp h with h | h
    · exact big x h
    · exact big x (List.mem_of_mem_take h)
  · refine ⟨by rw [List.length_cons]; omega, fun x h => ?_⟩
    rcases List.mem_cons.mp h with h | h
    · omega
    · exact big x h
  · refine ⟨Nat.le_trans (len_srtS _) (by rw [List.length_append, List.length_singleton]; omega), fun x h => ?_⟩
    rw [mem_srtS] at h
    rcases List.mem_append.mp h with h | h
    · exact big x h
    · rw [List.mem_singleton.mp h]
      have := fm (x := d.fdiv 7) (k := (c : Int)) (by omega)
      omega
  · refine ⟨Nat.le_trans (len_srtS _) (by rw [List.length_map]; omega), fun x h => ?_⟩
    rw [mem_srtS] at h
    obtain ⟨y, _, rfl⟩ := List.mem_map.mp h
    have := fm (x := y + 1) (k := (c : Int)) (by omega)
    omega
theorem dl_add {a b : List Int} (h : a.length + b.length ≤ 1000) : dbin .Add (dl a) (dl b) = some (dl (a ++ b), .top) := by
  unfold dl
  rw [b_addl, List.length_map, List.length_map, inLine_of (by omega), if_pos rfl, List.map_append]
theorem dl_srs {l : List Int} (h : l.length < 64) : dsrs (dl l) = some (dl (srtS l), .top) := by
  unfold dl
  rw [srs_lst, asInts_map, Option.bind_some, if_pos h]
theorem p_F {φ : String → List D → Option R} (x0 x2 x5 x6 : Option R) {c : Nat} (P : List (List Int)) (h1 : 1 ≤ c) (hc : c ≤ 6) (hP0 : P ≠ []) (hP : P.length ≤ 10) (hr : ∀ r, r ∈ P → r.length ≤ 10 ∧ ∀ x, x ∈ r → 0 ≤ x ∧ x < c) (draws : List Int) (hd : draws.length ≤ 4) (F : List D) (hF : ∀ p, p ∈ F → Shape p) (hl : F.length ≤ 100) :
    ∃ (F' : List D) (x8 x9 x10 x11 x13 : Option R), (∀ p, p ∈ F' → Shape p) ∧ sx φ 1000 pF [x0, some (.int c, .fz), x2, some (.lst (draws.map .int), .fz), some (.lst F, .top), x5, x6, some (pl P, .fz), none, none, none, none, none, none] =
      some (.nx [x0, some (.int c, .fz), x2, some (.lst (draws.map .int), .fz), some (.lst F', .top), x5, x6, some (pl P, .fz), x8, x9, x10, x11, none, x13]) := by
  have hsm : smallP P := ⟨by omega, fun r h => ⟨by have := (hr r h).1; omega, fun x hx => by have := (hr r h).2 x hx; omega⟩⟩
  obtain ⟨o, e, F', x8, x9, x10, x11, x13, rfl, h2⟩ := frGo_map (m := D.int) (tgt := asg (.n 8)) (body := sx φ 1000 pJ)
    (fun rest ρ => ∃ (F : List D) (x8 x9 x10 x11 x13 : Option R), ρ = [x0, some (.int c, .fz), x2, some (.lst (draws.map .int), .fz), some (.lst F, .top), x5, x6, some (pl P, .fz), x8, x9, x10, x11, none, x13] ∧ (∀ p, p ∈ F → Shape p) ∧ F.length + 7 * rest.length ≤ 200)
    (fun o => ∃ (F' : List D) (x8 x9 x10 x11 x13 : Option R), o = .nx [x0, some (.int c, .fz), x2, some (.lst (draws.map .int), .fz), some (.lst F', .top), x5, x6, some (pl P, .fz), x8, x9, x10, x11, none, x13] ∧ (∀ p, p ∈ F' → Shape p))
    (fun d rest ρ => by
      rintro ⟨F, x8, x9, x10, x11, x13, rfl, hF, hB⟩
      rw [List.length_cons] at hB
      have pl0 : 0 < P.length := List.length_pos_iff.mpr hP0
      obtain ⟨g1, g2⟩ := fm (x := d) (k := (P.length : Int)) (by omega)
      obtain ⟨j, hj⟩ : ∃ j : Nat, d.fmod (P.length : Int) = (j : Int) := ⟨(d.fmod (P.length : Int)).toNat, by omega⟩
      have hjP : j < P.length := by omega
      obtain ⟨row, erow⟩ : ∃ row, row = P[j] := ⟨_, rfl⟩
      have hrow := hr row (by rw [erow]; exact List.getElem_mem hjP)
      have aP : atI (P.map dl) (j : Int) = some (dl row) := by
        rw [atI_lt (by rwa [List.length_map]), List.getElem_map, erow]
      obtain ⟨F', x13', q1, q2, q3⟩ := p_I (φ := φ) x0 (some (.int c, .fz)) x2 (some (.lst (draws.map .int), .fz)) x5 x6 (some (.int d, .fz)) (some (dl row, .fz)) (some (pl (newRows c row d), .fz)) none x13 P j hP hsm (newRows c row d) F (F.length + 7) (newRows_ok h1 hc hrow d) hF (by simp [newRows]) (by omega)
      refine ⟨_, .nx [x0, some (.int c, .fz), x2, some (.lst (draws.map .int), .fz), some (.lst F', .top), x5, x6, some (pl P, .fz), some (.int d, .fz), some (.int j, .fz), some (dl row, .fz), some (pl (newRows c row d), .fz), none, x13'], rfl, ?_, F', _, _, _, _, _, rfl, q1, by omega⟩
      simp only [pl] at q3
      have f1 : drev (dl row) = some (dl row.reverse, .top) := by
        show some (D.lst (row.map D.int).reverse, Lv.top) = some (.lst (row.reverse.map D.int), .top)
        rw [List.map_reverse]
      have f2 : dslc (dl row) (some 1) none = some (dl row.tail, .top) := by
        show some (D.lst (cutL (row.map D.int) (some ((1 : Nat) : Int)) none), Lv.top) = _
        rw [cutL_from, ← List.map_drop, List.drop_one]
        rfl
      have f4 : dslc (dl row) (some 0) (some 1) = some (dl (row.take 1), .top) := by
        show some (D.lst (cutL (row.map D.int) (some 0) (some ((1 : Nat) : Int))), Lv.top) = _
        rw [cutL_zero, ← List.map_take]
        rfl
      have f5 := dl_add (a := row) (b := row.take 1) (by rw [List.length_take]; omega)
      have f3 : ∀ k : Int, dbin .Add (dl row) (.lst [.int k]) = some (dl (row ++ [k]), .top) := fun k => dl_add (a := row) (b := [k]) (by simp; omega)
      have f6 : dbin .Add (.lst [.int (-1)]) (dl row) = some (dl (-1 :: row), .top) := dl_add (a := [-1]) (b := row) (by simp; omega)
      have f8 : dsrs (dl (row ++ [(d.fdiv 7).fmod c])) = some (dl (srtS (row ++ [(d.fdiv 7).fmod c])), .top) := dl_srs (by simp; omega)
      have f9 : itemsD (dl row) = some (row.map .int) := rfl
      have fa : dsrs (.lst (row.map fun x => .int ((x + 1).fmod c))) = some (dl (srtS (row.map fun x => (x + 1).fmod c)), .top) := by
        have := dl_srs (l := row.map fun x => (x + 1).fmod c) (by simp; omega)
        unfold dl at this
        rw [List.map_map] at this
        exact this
      have hc0 : ¬ c = 0 := by omega
      simp -implicitDefEqProofs [pJ, pl, hj, aP, show ¬ P.length = 0 by omega, f1, f2, f3, f4, f5, f6, f9, divOk, hc0, f8]
      rw [lc_all (fun y : Int => [x0, some (.int c, .fz), x2, some (.lst (draws.map .int), .fz), some (.lst F, .top), x5, x6, some (.lst (P.map dl), .fz), some (.int d, .fz), some (.int j, .fz), some (dl row, .fz), x11, some (.int y, .fz), x13]) (fun y => .int ((y + 1).fmod c))]
      · simp only [pI, newRows, List.map_cons, List.map_nil] at q3
        simp -implicitDefEqProofs [fa, q3, newRows]
      · intro y hy
        refine ⟨by simp, rfl, ?_⟩
        simp -implicitDefEqProofs [hc0])
    (fun ρ => by
      rintro ⟨F, x8, x9, x10, x11, x13, rfl, hF, hB⟩
      exact ⟨F, _, _, _, _, _, rfl, hF⟩)
    (l := draws) (ρ := [x0, some (.int c, .fz), x2, some (.lst (draws.map .int), .fz), some (.lst F, .top), x5, x6, some (pl P, .fz), none, none, none, none, none, none]) ⟨F, _, _, _, _, _, rfl, hF, by omega⟩
  refine ⟨F', x8, x9, x10, x11, x13, h2, ?_⟩
  simp only [pJ] at e
  simp -implicitDefEqProofs [pF, e]
theorem p_D1 {φ : String → List D → Option R} {needs : List Int} {c : Nat} (P : List (List Int)) (h1 : 1 ≤ c) (hc : c ≤ 6) (hn : needs ≠ []) (hP0 : P ≠ []) (hP : P.length ≤ 10) (hr : ∀ r, r ∈ P → r.length ≤ 10 ∧ ∀ x, x ∈ r → 0 ≤ x ∧ x < c) (draws : List Int) (hd : draws.length ≤ 4) (F : List D) (hF : ∀ p, p ∈ F → Shape p) (hl : F.length ≤ 50) :
    ∃ F' : List D, (∀ p, p ∈ F' → Shape p) ∧ (sx φ 1000 (.seq pD (.seq (.ret (.var 4)) .nop)) (E0 needs c (.tup [sLasts, pl P]) draws (some (.lst F, .top)))).bind out = some (.lst F', .top) := by
  have hsm : smallP P := ⟨by omega, fun r h => ⟨by have := (hr r h).1; omega, fun x hx => by have := (hr r h).2 x hx; omega⟩⟩
  have sub : ∀ Q : List (List Int), Q.length ≤ 20 → (∀ r, r ∈ Q → r ∈ P ∨ r = []) → Shape (.tup [sLasts, pl Q]) := fun Q h1 h2 => .lasts _ ⟨h1, fun r hr => by
    rcases h2 r hr with h | h
    · exact hsm.2 r h
    · rw [h]
      exact ⟨Nat.zero_le _, fun x hx => (nomatch hx)⟩⟩
  obtain ⟨F', x8, x9, x10, x11, x13, q1, q2⟩ := p_F (φ := φ) (some (.lst (needs.map .int), .fz)) (some (.tup [sLasts, pl P], .fz)) none none P h1 hc hP0 hP hr draws hd
    (F ++ [.tup [sLasts, pl P.tail], .tup [sLasts, pl P.reverse], .tup [sLasts, pl (P ++ [[]])], .tup [sLasts, pl (P ++ P.take 1)]]) (fun p hp => by
      rcases List.mem_append.mp hp with hp | hp
      · exact hF p hp
      · simp only [List.mem_cons, List.not_mem_nil, or_false] at hp
        rcases hp with rfl | rfl | rfl | rfl
        · exact sub _ (by rw [List.length_tail]; omega) fun r h => .inl (List.mem_of_mem_tail h)
        · exact sub _ (by rw [List.length_reverse]; omega) fun r h => .inl (List.mem_reverse.mp h)
        · refine sub _ (by simp; omega) fun r h => ?_
          rcases List.mem_append.mp h with h | h
          · exact .inl h
          · exact .inr (List.mem_singleton.mp h)
        · refine sub _ (by rw [List.length_append, List.length_take]; omega) fun r h => ?_
          rcases List.mem_append.mp h with h | h
          · exact .inl h
          · exact .inl (List.mem_of_mem_take h)) (by simp; omega)
  refine ⟨F', q1, ?_⟩
  have g1 : cutL (P.map dl) (some 1) none = P.tail.map dl := by
    have := cutL_from (P.map dl) 1
    rw [← List.map_drop, List.drop_one] at this
    exact this
  have g2 : cutL (P.map dl) (some 0) (some 1) = (P.take 1).map dl := by
    have := cutL_zero (P.map dl) 1
    rw [← List.map_take] at this
    exact this
  have g3 : (P.map dl).reverse = P.reverse.map dl := by rw [List.map_reverse]
  have g4 : pl (P ++ [[]]) = .lst (P.map dl ++ [.lst []]) := by
    unfold pl
    rw [List.map_append]
    rfl
  have g5 : pl (P ++ P.take 1) = .lst (P.map dl ++ (P.take 1).map dl) := by
    unfold pl
    rw [List.map_append]
  rw [g4, g5] at q2
  unfold pl at q2
  have t1 : (P.take 1).length ≤ P.length := by rw [List.length_take]; exact Nat.min_le_right _ _
  have i1 : inLine (P.length + (P.take 1).length) = true := inLine_of (by omega)
  generalize P.take 1 = A at g2 q2 t1 i1
  simp only [pF, sLasts] at q2
  have kf : keepR (.lst (F ++ [.tup [.str [108, 97, 115, 116, 115], .lst (P.tail.map dl)], .tup [.str [108, 97, 115, 116, 115], .lst (P.reverse.map dl)], .tup [.str [108, 97, 115, 116, 115], .lst (P.map dl ++ [.lst []])], .tup [.str [108, 97, 115, 116, 115], .lst (P.map dl ++ A.map dl)]]), .top) = false := by
    rw [k_ltop, List.all_append]
    simp
  have i2 : inLine (P.length + 1) = true := inLine_of (by omega)
  have i3 : inLine (F.length + 4) = true := inLine_of (by omega)
  simp -implicitDefEqProofs [-q_fr, -k_ltop, -List.map_reverse, -List.map_tail, pD, E0, sLasts, pl, List.length_pos_iff, hn, g1, g2, g3, i1, i2, i3, kf, q2]
theorem r_papers {needs : List Int} {c : Nat} {told : D} {draws : List Int} (hn : needs.length ≤ 6) (h1c : 1 ≤ c) (hc : c ≤ 6) (nb : ∀ x, x ∈ needs → 0 ≤ x ∧ x ≤ c + 3) (hd : draws.length ≤ 4) (db : ∀ x, x ∈ draws → 0 ≤ x ∧ x < 5040) (ht : Told needs c told) :
    ∃ found : List D, (∀ p, p ∈ found → Shape p) ∧ run Ps 1000 (n + 1) "_law_papers" [.lst (needs.map .int), .int c, told, .lst (draws.map .int)] = some (.lst found, .top) := by
  have nb2 : ∀ x, x ∈ needs → 0 ≤ x ∧ x ≤ 1000 := fun x hx => by
    have := nb x hx
    omega
  obtain ⟨s, x, es, hx, hs⟩ : ∃ (s : List Nat) (x : D), told = .tup [.str s, x] ∧ sm 2 x = true ∧ Shape told := by
    cases ht with
    | fails k hk => exact ⟨_, _, rfl, decide_eq_true (by omega), .fails _ (by omega) (by omega)⟩
    | lasts P h1 h2 =>
      have hsm : smallP P := ⟨by omega, fun r h => ⟨by have := (h2 r h).1; omega, fun x hx => by have := (h2 r h).2 x hx; omega⟩⟩
      exact ⟨_, _, rfl, sm_pl hsm, .lasts _ hsm⟩
  have s6 : sm 2 (.str s) = true := by
    rw [es] at ht
    cases ht <;> decide
  subst es
  obtain ⟨L, hL⟩ : ∃ L, L = [D.tup [.str s, x], .tup [.str s, x, .int 0], .tup [.str s], .tup [sLast, x], .tup [sLasts, pl []], .tup [sLasts, pl (needs.map fun x => upI 0 x.toNat)]] ++ [.tup [sLasts, pl (needs.map fun x => upI (loI c x) ((c : Int) - loI c x).toNat)], .tup [sLasts, pl (needs.map fun _ => [])]] ++ (List.range (needs.length + 2)).map fun (k : Nat) => .tup [sFails, .int (-1 + (k : Int))] := ⟨_, rfl⟩
  have lL : L.length ≤ 50 := by
    rw [hL]
    simp
    omega
  have upb : ∀ (a : Int) (m : Nat), -100 ≤ a → a ≤ 100 → m ≤ 30 → (upI a m).length ≤ 40 ∧ ∀ x, x ∈ upI a m → -1000 ≤ x ∧ x ≤ 1000 := by
    intro a m h1 h2 h3
    unfold upI
    refine ⟨by rw [List.length_map, List.length_range]; omega, fun x hx => ?_⟩
    obtain ⟨k, hk, rfl⟩ := List.mem_map.mp hx
    rw [List.mem_range] at hk
    omega
  have sL : ∀ p, p ∈ L → Shape p := by
    intro p hp
    rw [hL] at hp
    rcases List.mem_append.mp hp with hp | hp
    · rcases List.mem_append.mp hp with hp | hp
      · simp only [List.mem_cons, List.not_mem_nil, or_false] at hp
        rcases hp with rfl | rfl | rfl | rfl | rfl | rfl
        · exact hs
        · refine .len _ (by simp) ?_
          show (true && ([D.str s, x, .int 0].all (sm 2))) = true
          have e0 : sm 2 (.int 0) = true := by decide
          simp only [List.all_cons, List.all_nil, hx, s6, e0, Bool.and_true, Bool.true_and]
        · refine .len _ (by simp) ?_
          show (true && ([D.str s].all (sm 2))) = true
          simp only [List.all_cons, List.all_nil, s6, Bool.and_true, Bool.true_and]
        · exact .last _ hx
        · exact .lasts [] ⟨Nat.zero_le _, fun r h => (nomatch h)⟩
        · refine .lasts _ ⟨by rw [List.length_map]; omega, fun r hr => ?_⟩
          obtain ⟨y, hy, rfl⟩ := List.mem_map.mp hr
          have := nb y hy
          exact upb 0 y.toNat (by omega) (by omega) (by omega)
      · simp only [List.mem_cons, List.not_mem_nil, or_false] at hp
        rcases hp with rfl | rfl
        · refine .lasts _ ⟨by rw [List.length_map]; omega, fun r hr => ?_⟩
          obtain ⟨y, hy, rfl⟩ := List.mem_map.mp hr
          have := nb y hy
          have l : loI c y = if (c : Int) - y > 0 then (c : Int) - y else 0 := rfl
          have l2 : 0 ≤ loI c y ∧ loI c y ≤ 6 := by
            rw [l]
            split <;> omega
          exact upb _ _ (by omega) (by omega) (by omega)
        · refine .lasts _ ⟨by rw [List.length_map]; omega, fun r hr => ?_⟩
          obtain ⟨y, hy, rfl⟩ := List.mem_map.mp hr
          exact ⟨Nat.zero_le _, fun x hx => (nomatch hx)⟩
    · obtain ⟨k, hk, rfl⟩ := List.mem_map.mp hp
      rw [List.mem_range] at hk
      exact .fails _ (by omega) (by omega)
  have start : run Ps 1000 (n + 1) "_law_papers" [.lst (needs.map .int), .int c, .tup [.str s, x], .lst (draws.map .int)] = (sx (run Ps 1000 n) 1000 (.seq pD (.seq (.ret (.var 4)) .nop)) (E0 needs c (.tup [.str s, x]) draws (some (.lst L, .top)))).bind out := by
    rw [run_succ (F := F__law_papers) rfl rfl]
    show (sx (run Ps 1000 n) 1000 b__law_papers (E0 needs c (.tup [.str s, x]) draws none)).bind out = _
    rw [papers_eq, p_A nb2, p_B (by omega) nb2 _ (by simp), p_C (by omega) _ (by simp), ← hL]
  rw [start]
  by_cases hq : s ≠ [108, 97, 115, 116, 115] ∨ needs = []
  · exact ⟨L, sL, p_D0 hq L⟩
  · obtain ⟨P, hP1, hP2, hx1⟩ : ∃ P : List (List Int), P.length = needs.length ∧ (∀ r, r ∈ P → r.length ≤ 10 ∧ ∀ x, x ∈ r → 0 ≤ x ∧ x < c) ∧ D.tup [.str s, x] = .tup [sLasts, pl P] := by
      have hq1 : s = [108, 97, 115, 116, 115] := Classical.byContradiction fun z => hq (.inl z)
      subst hq1
      cases ht with
      | lasts P a b => exact ⟨P, a, b, rfl⟩
    rw [hx1]
    have hne : needs ≠ [] := fun z => hq (.inr z)
    exact p_D1 P h1c hc hne (fun z => hne (List.length_eq_zero_iff.mp (by rw [← hP1, z]; rfl))) (by omega) hP2 draws hd L sL lL
end K66
set_option Elab.async false
set_option linter.all false
set_option maxRecDepth 100000
namespace K66
open PySem PL L2
theorem rows_small {needs : List Int} {c u : Nat} (h1 : 1 ≤ c) (hc : c ≤ 6) (nn : ∀ x, x ∈ needs → 0 ≤ x) (h : ∀ i, i < needs.length → okAt needs c u i) : ∀ r, r ∈ rowsTo c needs needs.length → r.length ≤ 10 ∧ ∀ x, x ∈ r → 0 ≤ x ∧ x < c := by
  intro r hr
  unfold rowsTo at hr
  obtain ⟨i, hi, rfl⟩ := List.mem_map.mp hr
  rw [List.mem_range] at hi
  have ok := (row_ok (t := upto needs i) h1 (show 0 ≤ needs.getD i 0 by
    rw [List.getD_eq_getElem?_getD, List.getElem?_eq_getElem hi]
    exact nn _ (List.getElem_mem hi)) (h i hi).1)
  have e := (filt_iff c _).mpr ok.1
  constructor
  · have := (h i hi).1
    have := ok.2
    omega
  · intro x hx
    rw [e] at hx
    have := mem_filt.mp hx
    exact this.2
theorem law_ok (ns : List Int) (h : ns.length ≤ 63) : lawEv Ps 1000 30 F_law ns = some (.bl true, .fz) := by
  obtain ⟨needs, c, u, hn, nb, h1c, hc, h1u, hu, e1⟩ : ∃ (needs : List Int) (c u : Nat), needs.length ≤ 6 ∧ (∀ x, x ∈ needs → 0 ≤ x ∧ x ≤ c + 3) ∧ 1 ≤ c ∧ c ≤ 6 ∧ 1 ≤ u ∧ u ≤ 4 ∧
    run Ps 1000 30 "_law_needs" [.scr ns, .int 0, .int 6] = some (.tup [.lst (needs.map .int), .int c, .int u], .fz) := r_needs (n := 28) ns
  obtain ⟨cell, e2⟩ : ∃ cell, run Ps 1000 30 "_law_cell" [.scr ns, .int 1] = some (.int cell, .fz) := ⟨_, Cm.law_cell (n := 29) rfl ns 1⟩
  obtain ⟨draws, hd, db, e3⟩ : ∃ l : List Int, l.length = 4 ∧ (∀ x, x ∈ l → 0 ≤ x ∧ x < 5040) ∧ run Ps 1000 30 "_law_numbers" [.int cell, .int 4, .int 5040] = some (.lst (l.map .int), .top) := Cm.law_numbers (Ps := Ps) (n := 29) rfl cell 4 (by omega)
  have nn : ∀ x, x ∈ needs → 0 ≤ x := fun x hx => (nb x hx).1
  have same : ∀ a b : Bool, run Ps 1000 30 "_law_same" [.bl a, .bl b] = some (.bl (a == b), .fz) := fun a b => Cm.same_bl (n := 29) rfl a b
  -- the program's own verdict, and what it says of each paper
  obtain ⟨told, ht, e4, e5, s, x, es, J⟩ : ∃ told : D, Told needs c told ∧ run Ps 1000 30 "find_wear" [.lst (needs.map .int), .int c, .int u] = some (told, .fz) ∧ run Ps 1000 30 "judge_wear" [.lst (needs.map .int), .int c, .int u, told] = some (.bl true, .fz) ∧
      ∃ (s : List Nat) (x : D), told = .tup [.str s, x] ∧ ∀ p, Shape p → ∃ b : Bool, run Ps 1000 30 "judge_wear" [.lst (needs.map .int), .int c, .int u, p] = some (.bl b, .fz) ∧ run Ps 1000 30 "_law_accepts_wear" [.lst (needs.map .int), .int c, .int u, p] = some (.bl b, .fz) ∧ (b = true → ∃ y, p = .tup [.str s, y]) := by
    have JL : ∀ P, smallP P → run Ps 1000 30 "judge_wear" [.lst (needs.map .int), .int c, .int u, .tup [sLasts, pl P]] = some (.bl (arePlans needs c u P), .fz) := fun P hP => r_judge_lasts (n := 25) needs c u P (by omega) fun r hr => by
      have := (hP.2 r hr).1
      omega
    have AL : ∀ P, run Ps 1000 30 "_law_accepts_wear" [.lst (needs.map .int), .int c, .int u, .tup [sLasts, pl P]] = some (.bl (arePlans needs c u P), .fz) := fun P => r_acc_lasts (n := 29) needs c u P h1c (by omega) (by omega)
    have JF : ∀ k : Int, run Ps 1000 30 "judge_wear" [.lst (needs.map .int), .int c, .int u, .tup [sFails, .int k]] = some (.bl (failsOk needs c u k), .fz) := fun k => r_judge_fails (n := 25) needs c u (by omega) (by omega) (by omega) k
    have AF : ∀ k : Int, run Ps 1000 30 "_law_accepts_wear" [.lst (needs.map .int), .int c, .int u, .tup [sFails, .int k]] = some (.bl (failsOk needs c u k), .fz) := fun k => r_acc_fails (n := 29) needs c u (by omega) (by omega) (by omega) k
    have JX : ∀ d : D, run Ps 1000 30 "judge_wear" [.lst (needs.map .int), .int c, .int u, .tup [sLast, d]] = some (.bl false, .fz) := fun d => r_judge_last (n := 25) needs c u d
    have AX : ∀ d : D, run Ps 1000 30 "_law_accepts_wear" [.lst (needs.map .int), .int c, .int u, .tup [sLast, d]] = some (.bl false, .fz) := fun d => r_acc_last (n := 29) needs c u d
    have JN : ∀ ds : List D, ds.length ≠ 2 → run Ps 1000 30 "judge_wear" [.lst (needs.map .int), .int c, .int u, .tup ds] = some (.bl false, .fz) := fun ds h => r_judge_len (n := 25) needs c u ds h
    have AN : ∀ ds : List D, ds.length ≠ 2 → run Ps 1000 30 "_law_accepts_wear" [.lst (needs.map .int), .int c, .int u, .tup ds] = some (.bl false, .fz) := fun ds h => r_acc_len (n := 29) needs c u ds h
    rcases r_find (n := 29) needs c u h1c (by omega) (by omega) (by omega) (fun x hx => by
      have := nb x hx
      exact ⟨this.1, by omega⟩) with ⟨k, hk, _, bad, ek⟩ | ⟨ok, eo⟩
    · have ek : run Ps 1000 30 "find_wear" [.lst (needs.map .int), .int c, .int u] = some (.tup [sFails, .int k], .fz) := ek
      refine ⟨_, .fails k hk, ek, by rw [JF, fails_good hk bad], _, _, rfl, fun p hp => ?_⟩
      cases hp with
      | lasts P hP =>
        have no : arePlans needs c u P = false := by
          cases q : arePlans needs c u P with
          | false => rfl
          | true => exact absurd (plan_ok q k hk) bad
        exact ⟨_, JL P hP, AL P, fun z => by rw [no] at z; cases z⟩
      | fails k' _ _ => exact ⟨_, JF k', AF k', fun _ => ⟨_, rfl⟩⟩
      | last d _ => exact ⟨_, JX d, AX d, fun z => (nomatch z)⟩
      | len ds hl _ => exact ⟨_, JN ds hl, AN ds hl, fun z => (nomatch z)⟩
    · have eo : run Ps 1000 30 "find_wear" [.lst (needs.map .int), .int c, .int u] = some (.tup [sLasts, pl (rowsTo c needs needs.length)], .fz) := eo
      have rsm := rows_small h1c hc nn ok
      have lr : (rowsTo c needs needs.length).length = needs.length := by simp [rowsTo]
      refine ⟨_, .lasts _ lr rsm, eo, ?_, _, _, rfl, fun p hp => ?_⟩
      · rw [JL _ ⟨by omega, fun r hr => ⟨by have := (rsm r hr).1; omega, fun x hx => by have := (rsm r hr).2 x hx; omega⟩⟩, own_good h1c nn ok]
      cases hp with
      | lasts P hP => exact ⟨_, JL P hP, AL P, fun _ => ⟨_, rfl⟩⟩
      | fails k' _ _ => exact ⟨_, JF k', AF k', fun z => by rw [fails_bad ok] at z; cases z⟩
      | last d _ => exact ⟨_, JX d, AX d, fun z => (nomatch z)⟩
      | len ds hl _ => exact ⟨_, JN ds hl, AN ds hl, fun z => (nomatch z)⟩
  obtain ⟨found, hf, e6⟩ : ∃ found : List D, (∀ p, p ∈ found → Shape p) ∧ run Ps 1000 30 "_law_papers" [.lst (needs.map .int), .int c, told, .lst (draws.map .int)] = some (.lst found, .top) := r_papers (n := 29) hn h1c hc nb (by omega) db ht
  let I (ys : List D) (ρ : PL.Env) : Prop := (∀ p, p ∈ ys → Shape p) ∧ ∃ (x6 x7 x8 : Option R), ρ = [some (.scr ns, .fz), some (.lst (needs.map .int), .fz), some (.int c, .fz), some (.int u, .fz), some (.lst (draws.map .int), .fz), some (told, .fz), x6, x7, x8]
  obtain ⟨o, e7, ρ', rfl⟩ := frGo_ind (tgt := asg (.n 6)) (body := sx (run Ps 1000 30) 1000 (.seq (.set 7 (.rpr (.var 6))) (.seq (.set 8 (.call "judge_wear" (.cons (.var 1) (.cons (.var 2) (.cons (.var 3) (.cons (.var 6) .nil)))))) (.seq (.iff (.bor (.bnot (.call "_law_same" (.cons (.var 8) (.cons (.call "_law_accepts_wear" (.cons (.var 1) (.cons (.var 2) (.cons (.var 3) (.cons (.var 6) .nil))))) .nil)))) (.bor (.cmp .NotEq (.rpr (.var 6)) (.var 7)) (.band (.var 8) (.cmp .NotEq (.idx (.var 6) (.con (D.int 0))) (.idx (.var 5) (.con (D.int 0))))))) (.seq (.ret (.con (D.bl false))) .nop) .nop) .nop))))
    I (fun o => ∃ ρ', o = .nx ρ') (fun y r ρ => by
      rintro ⟨hy, x6, x7, x8, rfl⟩
      have hs := hy y List.mem_cons_self
      obtain ⟨b, j1, j2, j3⟩ := J y hs
      have er : drpr y = some (.str (rprT y), .fz) := by
        unfold drpr
        rw [if_pos hs.rpr]
      refine ⟨_, .nx [some (.scr ns, .fz), some (.lst (needs.map .int), .fz), some (.int c, .fz), some (.int u, .fz), some (.lst (draws.map .int), .fz), some (told, .fz), some (y, .fz), some (.str (rprT y), .fz), some (.bl b, .fz)], rfl, ?_, fun p hp => hy p (List.mem_cons_of_mem _ hp), _, _, _, rfl⟩
      cases b with
      | false => simp -implicitDefEqProofs [er, j1, j2, same]
      | true =>
        obtain ⟨z, rfl⟩ := j3 rfl
        subst es
        simp -implicitDefEqProofs [er, j1, j2, same])
    (fun ρ _ => ⟨ρ, rfl⟩) (ys := found) (ρ := [some (.scr ns, .fz), some (.lst (needs.map .int), .fz), some (.int c, .fz), some (.int u, .fz), some (.lst (draws.map .int), .fz), some (told, .fz), none, none, none]) ⟨hf, _, _, _, rfl⟩
  unfold lawEv
  simp -implicitDefEqProofs [F_law, b_law, ent, e1, e2, e3, e4, e5, e6, same]
  rw [e7]
  simp -implicitDefEqProofs
end K66
set_option Elab.async false
set_option linter.all false
set_option maxRecDepth 100000
namespace K66
open PySem PySem.Spec PyProof.Rows L2 PL
def topS (i : Nat) : Stmt := PySem.Challenge.pw_wordsweighed_k66_judge_of_wear.main.body.getD i (.Pass ⟨0, 0, 0, 0⟩)
abbrev st_is_whole : Stmt := topS 1
theorem t_is_whole : FnT (T0.wr false) F_is_whole st_is_whole := ⟨⟨rfl, rfl, rfl, by decide +kernel, rfl, by decide +kernel, by decide +kernel⟩, by decide, by decide +kernel⟩
abbrev st_is_within : Stmt := topS 3
theorem t_is_within : FnT (T0.wr false) F_is_within st_is_within := ⟨⟨rfl, rfl, rfl, by decide +kernel, rfl, by decide +kernel, by decide +kernel⟩, by decide, by decide +kernel⟩
abbrev st_ascends : Stmt := topS 4
theorem t_ascends : FnT (T0.wr false) F_ascends st_ascends := ⟨⟨rfl, rfl, rfl, by decide +kernel, rfl, by decide +kernel, by decide +kernel⟩, by decide, by decide +kernel⟩
abbrev st_are_numbers : Stmt := topS 5
theorem t_are_numbers : FnT (T0.wr false) F_are_numbers st_are_numbers := ⟨⟨rfl, rfl, rfl, by decide +kernel, rfl, by decide +kernel, by decide +kernel⟩, by decide, by decide +kernel⟩
abbrev st_find_wear : Stmt := topS 7
theorem t_find_wear : FnT (T0.wr false) F_find_wear st_find_wear := ⟨⟨rfl, rfl, rfl, by decide +kernel, rfl, by decide +kernel, by decide +kernel⟩, by decide, by decide +kernel⟩
abbrev st_are_plans : Stmt := topS 8
theorem t_are_plans : FnT (T0.wr false) F_are_plans st_are_plans := ⟨⟨rfl, rfl, rfl, by decide +kernel, rfl, by decide +kernel, by decide +kernel⟩, by decide, by decide +kernel⟩
abbrev st_judge_wear : Stmt := topS 9
theorem t_judge_wear : FnT (T0.wr false) F_judge_wear st_judge_wear := ⟨⟨rfl, rfl, rfl, by decide +kernel, rfl, by decide +kernel, by decide +kernel⟩, by decide, by decide +kernel⟩
abbrev st__law_cell : Stmt := topS 11
theorem t__law_cell : FnT (T0.wr false) F__law_cell st__law_cell := ⟨⟨rfl, rfl, rfl, by decide +kernel, rfl, by decide +kernel, by decide +kernel⟩, by decide, by decide +kernel⟩
abbrev st__law_numbers : Stmt := topS 12
theorem t__law_numbers : FnT (T0.wr false) F__law_numbers st__law_numbers := ⟨⟨rfl, rfl, rfl, by decide +kernel, rfl, by decide +kernel, by decide +kernel⟩, by decide, by decide +kernel⟩
abbrev st__law_same : Stmt := topS 13
theorem t__law_same : FnT (T0.wr false) F__law_same st__law_same := ⟨⟨rfl, rfl, rfl, by decide +kernel, rfl, by decide +kernel, by decide +kernel⟩, by decide, by decide +kernel⟩
abbrev st__law_needs : Stmt := topS 14
theorem t__law_needs : FnT (T0.wr false) F__law_needs st__law_needs := ⟨⟨rfl, rfl, rfl, by decide +kernel, rfl, by decide +kernel, by decide +kernel⟩, by decide, by decide +kernel⟩
abbrev st__law_accepts_wear : Stmt := topS 15
theorem t__law_accepts_wear : FnT (T0.wr false) F__law_accepts_wear st__law_accepts_wear := ⟨⟨rfl, rfl, rfl, by decide +kernel, rfl, by decide +kernel, by decide +kernel⟩, by decide, by decide +kernel⟩
abbrev st__law_papers : Stmt := topS 16
theorem t__law_papers : FnT (T0.wr false) F__law_papers st__law_papers := ⟨⟨rfl, rfl, rfl, by decide +kernel, rfl, by decide +kernel, by decide +kernel⟩, by decide, by decide +kernel⟩
abbrev st_law : Stmt := topS 17
theorem t_law : LawT T0 F_law st_law "script" := ⟨⟨rfl, rfl, rfl, by decide +kernel, rfl, by decide +kernel, by decide +kernel⟩, by decide +kernel⟩
open PySem.W in
set_option maxHeartbeats 0 in
theorem walk : PySem.Challenge.rw_wordsweighed_k66_judge_of_wear.Holds := by
  w_on; o_law; k_head; (case hw => w_witness2)
  k_fill
  refine law_walk (l := PySem.Challenge.rw_wordsweighed_k66_judge_of_wear) (n := 63) (m := 30) (x := "script") (T := T0) (Ps := Ps) (fuel := 1000) (L := F_law) (st := st_law) rfl (by decide) rfl ⟨rfl, by decide, by decide⟩ (fun w h Y => PySem.W.kIn_of Y) t_law ?F law_ok
  case F =>
    intro w mg fa h KX G hmg
    have h_is_whole : ∃ a fd, FnA (L2.KOf KX) mg "is_whole" F_is_whole st_is_whole a fd := by
      refine' fnA_mk KX G ?a ?l ?c ?k (fun _ _ _ _ _ _ us hl => match us, hl with | [_], _ => rfl)
      (case a => k_is); (case l => k_is); (case c => k_is); (case k => k_is)
    have h_is_within : ∃ a fd, FnA (L2.KOf KX) mg "is_within" F_is_within st_is_within a fd := by
      refine' fnA_mk KX G ?a ?l ?c ?k (fun _ _ _ _ _ _ us hl => match us, hl with | [_, _, _], _ => rfl)
      (case a => k_is); (case l => k_is); (case c => k_is); (case k => k_is)
    have h_ascends : ∃ a fd, FnA (L2.KOf KX) mg "ascends" F_ascends st_ascends a fd := by
      refine' fnA_mk KX G ?a ?l ?c ?k (fun _ _ _ _ _ _ us hl => match us, hl with | [_], _ => rfl)
      (case a => k_is); (case l => k_is); (case c => k_is); (case k => k_is)
    have h_are_numbers : ∃ a fd, FnA (L2.KOf KX) mg "are_numbers" F_are_numbers st_are_numbers a fd := by
      refine' fnA_mk KX G ?a ?l ?c ?k (fun _ _ _ _ _ _ us hl => match us, hl with | [_, _], _ => rfl)
      (case a => k_is); (case l => k_is); (case c => k_is); (case k => k_is)
    have h_find_wear : ∃ a fd, FnA (L2.KOf KX) mg "find_wear" F_find_wear st_find_wear a fd := by
      refine' fnA_mk KX G ?a ?l ?c ?k (fun _ _ _ _ _ _ us hl => match us, hl with | [_, _, _], _ => rfl)
      (case a => k_is); (case l => k_is); (case c => k_is); (case k => k_is)
    have h_are_plans : ∃ a fd, FnA (L2.KOf KX) mg "are_plans" F_are_plans st_are_plans a fd := by
      refine' fnA_mk KX G ?a ?l ?c ?k (fun _ _ _ _ _ _ us hl => match us, hl with | [_, _, _, _], _ => rfl)
      (case a => k_is); (case l => k_is); (case c => k_is); (case k => k_is)
    have h_judge_wear : ∃ a fd, FnA (L2.KOf KX) mg "judge_wear" F_judge_wear st_judge_wear a fd := by
      refine' fnA_mk KX G ?a ?l ?c ?k (fun _ _ _ _ _ _ us hl => match us, hl with | [_, _, _, _], _ => rfl)
      (case a => k_is); (case l => k_is); (case c => k_is); (case k => k_is)
    have h__law_cell : ∃ a fd, FnA (L2.KOf KX) mg "_law_cell" F__law_cell st__law_cell a fd := by
      refine' fnA_mk KX G ?a ?l ?c ?k (fun _ _ _ _ _ _ us hl => match us, hl with | [_, _], _ => rfl)
      (case a => k_is); (case l => k_is); (case c => k_is); (case k => k_is)
    have h__law_numbers : ∃ a fd, FnA (L2.KOf KX) mg "_law_numbers" F__law_numbers st__law_numbers a fd := by
      refine' fnA_mk KX G ?a ?l ?c ?k (fun _ _ _ _ _ _ us hl => match us, hl with | [_, _, _], _ => rfl)
      (case a => k_is); (case l => k_is); (case c => k_is); (case k => k_is)
    have h__law_same : ∃ a fd, FnA (L2.KOf KX) mg "_law_same" F__law_same st__law_same a fd := by
      refine' fnA_mk KX G ?a ?l ?c ?k (fun _ _ _ _ _ _ us hl => match us, hl with | [_, _], _ => rfl)
      (case a => k_is); (case l => k_is); (case c => k_is); (case k => k_is)
    have h__law_needs : ∃ a fd, FnA (L2.KOf KX) mg "_law_needs" F__law_needs st__law_needs a fd := by
      refine' fnA_mk KX G ?a ?l ?c ?k (fun _ _ _ _ _ _ us hl => match us, hl with | [_, _, _], _ => rfl)
      (case a => k_is); (case l => k_is); (case c => k_is); (case k => k_is)
    have h__law_accepts_wear : ∃ a fd, FnA (L2.KOf KX) mg "_law_accepts_wear" F__law_accepts_wear st__law_accepts_wear a fd := by
      refine' fnA_mk KX G ?a ?l ?c ?k (fun _ _ _ _ _ _ us hl => match us, hl with | [_, _, _, _], _ => rfl)
      (case a => k_is); (case l => k_is); (case c => k_is); (case k => k_is)
    have h__law_papers : ∃ a fd, FnA (L2.KOf KX) mg "_law_papers" F__law_papers st__law_papers a fd := by
      refine' fnA_mk KX G ?a ?l ?c ?k (fun _ _ _ _ _ _ us hl => match us, hl with | [_, _, _, _], _ => rfl)
      (case a => k_is); (case l => k_is); (case c => k_is); (case k => k_is)
    obtain ⟨la, lfd, hl⟩ : ∃ a fd, FnA (L2.KOf KX) mg "law" F_law st_law a fd := by
      refine' fnA_mk KX G ?a ?l ?c ?k (fun _ _ _ _ _ _ us hl => match us, hl with | [_], _ => rfl)
      (case a => k_is); (case l => k_is); (case c => k_is); (case k => k_is)
    have z_all : mg "all" = none := by
      refine' PySem.W.mg_none_of KX G ?z
      (case z => k_is)
    have z_bool : mg "bool" = none := by
      refine' PySem.W.mg_none_of KX G ?z
      (case z => k_is)
    have z_enumerate : mg "enumerate" = none := by
      refine' PySem.W.mg_none_of KX G ?z
      (case z => k_is)
    have z_int : mg "int" = none := by
      refine' PySem.W.mg_none_of KX G ?z
      (case z => k_is)
    have z_isinstance : mg "isinstance" = none := by
      refine' PySem.W.mg_none_of KX G ?z
      (case z => k_is)
    have z_len : mg "len" = none := by
      refine' PySem.W.mg_none_of KX G ?z
      (case z => k_is)
    have z_list : mg "list" = none := by
      refine' PySem.W.mg_none_of KX G ?z
      (case z => k_is)
    have z_max : mg "max" = none := by
      refine' PySem.W.mg_none_of KX G ?z
      (case z => k_is)
    have z_range : mg "range" = none := by
      refine' PySem.W.mg_none_of KX G ?z
      (case z => k_is)
    have z_repr : mg "repr" = none := by
      refine' PySem.W.mg_none_of KX G ?z
      (case z => k_is)
    have z_set : mg "set" = none := by
      refine' PySem.W.mg_none_of KX G ?z
      (case z => k_is)
    have z_sorted : mg "sorted" = none := by
      refine' PySem.W.mg_none_of KX G ?z
      (case z => k_is)
    have z_str : mg "str" = none := by
      refine' PySem.W.mg_none_of KX G ?z
      (case z => k_is)
    have z_sum : mg "sum" = none := by
      refine' PySem.W.mg_none_of KX G ?z
      (case z => k_is)
    have z_tuple : mg "tuple" = none := by
      refine' PySem.W.mg_none_of KX G ?z
      (case z => k_is)
    have z_zip : mg "zip" = none := by
      refine' PySem.W.mg_none_of KX G ?z
      (case z => k_is)
    have e := hmg.symm.trans hl.g
    cases e
    refine ⟨lfd, ?qB, hl.U, ⟨FnsOk.at ?qN, BtsOk.at ?qZ, ?qC, ?qD⟩⟩
    case qB => exact fun s u => hl.one s u
    case qN => exact ⟨⟨F_is_whole, st_is_whole, rfl, rfl, t_is_whole, h_is_whole⟩, ⟨⟨F_is_within, st_is_within, rfl, rfl, t_is_within, h_is_within⟩, ⟨⟨F_ascends, st_ascends, rfl, rfl, t_ascends, h_ascends⟩, ⟨⟨F_are_numbers, st_are_numbers, rfl, rfl, t_are_numbers, h_are_numbers⟩, ⟨⟨F_find_wear, st_find_wear, rfl, rfl, t_find_wear, h_find_wear⟩, ⟨⟨F_are_plans, st_are_plans, rfl, rfl, t_are_plans, h_are_plans⟩, ⟨⟨F_judge_wear, st_judge_wear, rfl, rfl, t_judge_wear, h_judge_wear⟩, ⟨⟨F__law_cell, st__law_cell, rfl, rfl, t__law_cell, h__law_cell⟩, ⟨⟨F__law_numbers, st__law_numbers, rfl, rfl, t__law_numbers, h__law_numbers⟩, ⟨⟨F__law_same, st__law_same, rfl, rfl, t__law_same, h__law_same⟩, ⟨⟨F__law_needs, st__law_needs, rfl, rfl, t__law_needs, h__law_needs⟩, ⟨⟨F__law_accepts_wear, st__law_accepts_wear, rfl, rfl, t__law_accepts_wear, h__law_accepts_wear⟩, ⟨⟨F__law_papers, st__law_papers, rfl, rfl, t__law_papers, h__law_papers⟩, trivial⟩⟩⟩⟩⟩⟩⟩⟩⟩⟩⟩⟩⟩
    case qZ => exact ⟨z_all, ⟨z_bool, ⟨z_enumerate, ⟨z_int, ⟨z_isinstance, ⟨z_len, ⟨z_list, ⟨z_max, ⟨z_range, ⟨z_repr, ⟨z_set, ⟨z_sorted, ⟨z_str, ⟨z_sum, ⟨z_tuple, ⟨z_zip, trivial⟩⟩⟩⟩⟩⟩⟩⟩⟩⟩⟩⟩⟩⟩⟩⟩
    case qC => exact fun x d h => (nomatch h)
    case qD => exact fun h => (nomatch h)
end K66

theorem PySem.Challenge.cw_wordsweighed_k66_judge_of_wear_holds : PySem.Challenge.rw_wordsweighed_k66_judge_of_wear.Holds := by
  exact K66.walk
