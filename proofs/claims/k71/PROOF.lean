import PyProof.Rows.All
import Wide.All
import OpenK.AllK
import Wide.FinOn
import HandS.ForMost
import HandS.Flow
import HandS.IsInst
import HandS.Wide
import HandS.WideBits
import HandS.Zip
import HandS.Style
import HandS.TupAny
import HandS.TupMul
import HandS.TupLe
import HandS.SortInts
import HandS.Conv
import HandS.Gcd
import HandS.Walk
import HandS.Deep
import HandS.Defaults
import KE.GoesMore
import KE.GoesEnum
import KE.GoesZip
import HandS.Head0
import HandS.Head1
import HandS.Head2
import HandS.HeadEnd
import HandS.HeadHook1
import HandS.HeadHook2
import HandS.More
import HandS.Words
import HandS.WordsExc
import PySem.Challenge.RW_wholedepths_k71_recurrences_and_their_te
set_option Elab.async false
set_option linter.all false
set_option maxRecDepth 100000
set_option maxHeartbeats 0
/-! PD: pure data over the hand layer. -/
noncomputable section
namespace PD
open PySem PySem.Spec PyProof.Rows L2
/-- a def's value as plain data -/
abbrev D := PyData
abbrev St := List (Option V)
mutual
inductive Rep (K : PySem.W.Frag) (H : Hp) : V → D → Prop
  | non : Rep K H .non .none
  | bl (b : Bool) : Rep K H (.bl b) (.bool b)
  | int (i : Int) : Rep K H (.int i) (.int i)
  | str (x : Str) : Rep K H (.str x) (.str x)
  | lst {a : Addr} {xs : List V} {ds : List D} : H a = some (.lst xs) → Reps K H xs ds → Rep K H (.ref a) (.list ds)
  | tup {a : Addr} {xs : List V} {ds : List D} : SqT K H a xs → Reps K H xs ds → Rep K H (.ref a) (.tuple ds)
inductive Reps (K : PySem.W.Frag) (H : Hp) : List V → List D → Prop
  | nil : Reps K H [] []
  | cons {v : V} {vs : List V} {d : D} {ds : List D} : Rep K H v d → Reps K H vs ds → Reps K H (v :: vs) (d :: ds)
end
section
variable {K : PySem.W.Frag} {G H H' : Hp}
theorem same_seqT {a : Addr} {xs : List V} (e : Same H H') (h : SqT K H a xs) : SqT K H' a xs := by
  rcases h with (h | ⟨o, h⟩) | h
  · exact .inl (.inl (e _ _ h))
  · exact .inl (.inr ⟨o, e _ _ h⟩)
  · exact .inr h
mutual
theorem Rep.mono (e : Same H H') : ∀ (d : D) (v : V), Rep K H v d → Rep K H' v d
  | .none, _, h => by cases h; exact .non
  | .bool b, _, h => by cases h; exact .bl b
  | .int i, _, h => by cases h; exact .int i
  | .str x, _, h => by cases h; exact .str x
  | .list ds, _, h => by
    cases h with
    | lst h1 h2 => exact .lst (e _ _ h1) (Reps.mono e ds _ h2)
  | .tuple ds, _, h => by
    cases h with
    | tup h1 h2 => exact .tup (same_seqT e h1) (Reps.mono e ds _ h2)
  | .dict _, _, h => by cases h
theorem Reps.mono (e : Same H H') : ∀ (ds : List D) (vs : List V), Reps K H vs ds → Reps K H' vs ds
  | [], _, h => by cases h; exact .nil
  | d :: ds, _, h => by
    cases h with
    | cons h1 h2 => exact .cons (Rep.mono e d _ h1) (Reps.mono e ds _ h2)
end
mutual
theorem Rep.dp : ∀ (d : D) (v : V), Rep K H v d → Dp K H v d
  | .none, _, h => by cases h; exact .non
  | .bool b, _, h => by cases h; exact .bl b
  | .int i, _, h => by cases h; exact .int i
  | .str x, _, h => by cases h; exact .str x
  | .list ds, _, h => by
    cases h with
    | lst h1 h2 => exact .lst (SqL.of h1) (Reps.dp ds _ h2)
  | .tuple ds, _, h => by
    cases h with
    | tup h1 h2 => exact .tup h1 (Reps.dp ds _ h2)
  | .dict _, _, h => by cases h
theorem Reps.dp : ∀ (ds : List D) (vs : List V), Reps K H vs ds → DpAll K H vs ds
  | [], _, h => by cases h; exact .nil
  | d :: ds, _, h => by
    cases h with
    | cons h1 h2 => exact .cons (Rep.dp d _ h1) (Reps.dp ds _ h2)
end
theorem Reps.length : ∀ {ds : List D} {vs : List V}, Reps K H vs ds → vs.length = ds.length
  | [], _, h => by cases h; rfl
  | d :: ds, _, h => by
    cases h with
    | cons h1 h2 => simp only [List.length_cons, Reps.length h2]
theorem Reps.get : ∀ {ds : List D} {vs : List V} {i : Nat} {d : D}, Reps K H vs ds → ds[i]? = some d → ∃ v, vs[i]? = some v ∧ Rep K H v d
  | _, _, _, _, .nil, e => by simp at e
  | _, _, 0, _, .cons r _, e => by simp at e; subst e; exact ⟨_, rfl, r⟩
  | _, _, i + 1, x, .cons _ t, e => by
    obtain ⟨u, h1, h2⟩ := Reps.get (i := i) (d := x) t (by simpa using e)
    exact ⟨u, by simpa using h1, h2⟩
theorem Reps.append : ∀ {as bs : List D} {us ws : List V}, Reps K H us as → Reps K H ws bs → Reps K H (us ++ ws) (as ++ bs)
  | _, _, _, _, .nil, s => s
  | _, _, _, _, .cons r t, s => .cons r (Reps.append t s)
theorem Reps.take : ∀ {ds : List D} {us : List V} (n : Nat), Reps K H us ds → Reps K H (us.take n) (ds.take n)
  | _, _, 0, _ => .nil
  | _, _, _ + 1, .nil => .nil
  | _, _, n + 1, .cons r t => .cons r (Reps.take n t)
theorem Reps.drop : ∀ {ds : List D} {us : List V} (n : Nat), Reps K H us ds → Reps K H (us.drop n) (ds.drop n)
  | _, _, 0, r => r
  | _, _, _ + 1, .nil => .nil
  | _, _, n + 1, .cons _ t => Reps.drop n t
theorem Reps.set {d : D} {v : V} (r : Rep K H v d) : ∀ {ds : List D} {us : List V} (i : Nat), Reps K H us ds → Reps K H (us.set i v) (ds.set i d)
  | _, _, _, .nil => .nil
  | _, _, 0, .cons _ t => .cons r t
  | _, _, i + 1, .cons q t => .cons q (Reps.set r i t)
theorem Reps.reverse : ∀ {ds : List D} {us : List V}, Reps K H us ds → Reps K H us.reverse ds.reverse
  | _, _, .nil => .nil
  | _, _, .cons r t => by
    rw [List.reverse_cons, List.reverse_cons]
    exact Reps.append (Reps.reverse t) (.cons r .nil)
theorem Reps.dropLast : ∀ {ds : List D} {us : List V}, Reps K H us ds → Reps K H us.dropLast ds.dropLast
  | _, _, .nil => .nil
  | _, _, .cons _ .nil => .nil
  | _, _, .cons r (.cons q t) => .cons r (Reps.dropLast (.cons q t))
theorem Reps.rep {ds : List D} {us : List V} (h : Reps K H us ds) : ∀ k : Nat, Reps K H (List.replicate k us).flatten (List.replicate k ds).flatten
  | 0 => .nil
  | k + 1 => by
    rw [List.replicate_succ, List.replicate_succ, List.flatten_cons, List.flatten_cons]
    exact h.append (Reps.rep h k)
theorem Reps.ints : ∀ {ns : List Int} {vs : List V}, Reps K H vs (ns.map .int) → vs = ns.map V.int
  | [], _, h => by cases h; rfl
  | n :: ns, _, h => by
    cases h with
    | cons h1 h2 =>
      cases h1
      rw [Reps.ints h2]; rfl
theorem reps_ints : ∀ (ns : List Int), Reps K H (ns.map V.int) (ns.map .int)
  | [] => .nil
  | n :: ns => .cons (.int n) (reps_ints ns)
theorem Reps.bls : ∀ {ns : List Bool} {vs : List V}, Reps K H vs (ns.map .bool) → vs = ns.map V.bl
  | [], _, h => by cases h; rfl
  | n :: ns, _, h => by
    cases h with
    | cons h1 h2 =>
      cases h1
      rw [Reps.bls h2]; rfl
end
/-- what stands at a slot: nothing that is known; data; an own list (a parameter's; a new one); a list that is read; dicts of one's own -/
inductive Sl where
  | no | d (x : D) | pot (xs : List D) | ol (xs : List D) | rd (xs : List D) | dk (kvs : List (Key × D)) | dt (kvs : List (List Key × D))
/-- the entry: what was frozen, what was tracked, the parameter's own list -/
structure Fr where
  G : Hp
  H : Hp
  P : Option Addr
abbrev KReps (K : PySem.W.Frag) (G : Hp) {κ : Type} : List (κ × V) → List (κ × D) → Prop := Paired fun p q => p.1 = q.1 ∧ Rep K G p.2 q.2
def SlotOk (K : PySem.W.Frag) (F : Fr) (G H : Hp) : Sl → Option V → Prop
  | .no, _ => True
  | .d x, v => ∃ u, v = some u ∧ Rep K G u x
  | .pot xs, v => ∃ p vs, v = some (.ref p) ∧ F.P = some p ∧ G p = none ∧ H p = some (.lst vs) ∧ Reps K G vs xs
  | .ol xs, v => ∃ p vs, v = some (.ref p) ∧ F.H p = none ∧ G p = none ∧ H p = some (.lst vs) ∧ Reps K G vs xs
  | .rd xs, v => ∃ p vs, v = some (.ref p) ∧ SqL K G p vs ∧ Reps K G vs xs
  | .dk kvs, v => ∃ p vs, v = some (.ref p) ∧ F.H p = none ∧ G p = none ∧ H p = some (.dK vs) ∧ KReps K G vs kvs
  | .dt kvs, v => ∃ p vs, v = some (.ref p) ∧ F.H p = none ∧ G p = none ∧ H p = some (.dT vs) ∧ KReps K G vs kvs
/-- an own object at p -/
def OwnA : Sl → Option V → Addr → Prop
  | .pot _, v, p => v = some (.ref p)
  | .ol _, v, p => v = some (.ref p)
  | .dk _, v, p => v = some (.ref p)
  | .dt _, v, p => v = some (.ref p)
  | _, _, _ => False
structure Good (K : PySem.W.Frag) (F : Fr) (ρ : List Sl) (σ : St) (H G : Hp) : Prop where
  same : Same G H
  g0 : Same F.G G
  h0 : ∀ a o, F.H a = some o → F.P ≠ some a → H a = some o
  n0 : ∀ a o, F.H a = some o → F.G a = none → G a = none
  pp : ∀ p, F.P = some p → (∃ o, F.H p = some o) ∧ F.G p = none ∧ (∃ o, H p = some o)
  len : ρ.length = σ.length
  sl : ∀ (i : Nat) (s : Sl) (v : Option V), ρ[i]? = some s → σ[i]? = some v → SlotOk K F G H s v
  ds : ∀ (i j : Nat) (s t : Sl) (v w : Option V) (p : Addr), ρ[i]? = some s → σ[i]? = some v → ρ[j]? = some t → σ[j]? = some w → OwnA s v p → OwnA t w p → i = j
def OwnIn (ρ : List Sl) (σ : St) (a : Addr) : Prop := ∃ (i : Nat) (s : Sl) (v : Option V), ρ[i]? = some s ∧ σ[i]? = some v ∧ OwnA s v a
/-- from a state to a later one: the frozen part grows by new things; all stands but one's own -/
structure Tr (σ : St) (ρ : List Sl) (H G : Hp) (ρ' : List Sl) (H' G' : Hp) : Prop where
  sg : Same G G'
  fr : ∀ a o, H a = some o → ¬ OwnIn ρ σ a → H' a = some o
  nf : ∀ a o, H a = some o → G a = none → G' a = none
  ow : ∀ a, OwnIn ρ' σ a → OwnIn ρ σ a
  kp : ∀ a o, H a = some o → ∃ o', H' a = some o'
theorem Tr.refl {σ : St} {ρ : List Sl} {H G : Hp} : Tr σ ρ H G ρ H G := ⟨Same.refl G, fun _ _ h _ => h, fun _ _ _ h => h, fun _ h => h, fun _ o h => ⟨o, h⟩⟩
theorem Tr.trans {σ : St} {ρ ρ1 ρ2 : List Sl} {H G H1 G1 H2 G2 : Hp} (a : Tr σ ρ H G ρ1 H1 G1) (b : Tr σ ρ1 H1 G1 ρ2 H2 G2) : Tr σ ρ H G ρ2 H2 G2 :=
  ⟨a.sg.trans b.sg, fun c o h n => b.fr c o (a.fr c o h n) fun z => n (a.ow c z), fun c o h n => by
    obtain ⟨o', h'⟩ := a.kp c o h
    exact b.nf c o' h' (a.nf c o h n), fun c z => a.ow c (b.ow c z), fun c o h => by
    obtain ⟨o', h'⟩ := a.kp c o h
    exact b.kp c o' h'⟩
theorem Tr.back {σ : St} {ρ ρ1 : List Sl} {H G H1 G1 : Hp} (a : Tr σ ρ H G ρ1 H1 G1) {p : Addr} (n : H1 p = none) : H p = none := by
  cases z : H p with
  | none => rfl
  | some u =>
    obtain ⟨u', z'⟩ := a.kp p u z
    rw [n] at z'; cases z'
section
variable {K : PySem.W.Frag} {F : Fr} {ρ : List Sl} {σ : St} {H G H' G' : Hp}
/-- an own object's address is tracked, not frozen -/
theorem SlotOk.own {s : Sl} {v : Option V} {p : Addr} (h : SlotOk K F G H s v) (o : OwnA s v p) : (∃ u, H p = some u) ∧ G p = none ∧ (F.P = some p ∨ F.H p = none) := by
  cases s with
  | no => exact o.elim
  | d x => exact o.elim
  | rd x => exact o.elim
  | pot xs =>
    obtain ⟨q, vs, e, h1, h2, h3, _⟩ := h
    have e2 : v = some (.ref p) := o
    rw [e] at e2; cases e2
    exact ⟨⟨_, h3⟩, h2, .inl h1⟩
  | ol xs =>
    obtain ⟨q, vs, e, h1, h2, h3, _⟩ := h
    have e2 : v = some (.ref p) := o
    rw [e] at e2; cases e2
    exact ⟨⟨_, h3⟩, h2, .inr h1⟩
  | dk xs =>
    obtain ⟨q, vs, e, h1, h2, h3, _⟩ := h
    have e2 : v = some (.ref p) := o
    rw [e] at e2; cases e2
    exact ⟨⟨_, h3⟩, h2, .inr h1⟩
  | dt xs =>
    obtain ⟨q, vs, e, h1, h2, h3, _⟩ := h
    have e2 : v = some (.ref p) := o
    rw [e] at e2; cases e2
    exact ⟨⟨_, h3⟩, h2, .inr h1⟩
theorem KReps.mono {κ : Type} {vs : List (κ × V)} {kvs : List (κ × D)} (e : Same G G') (h : KReps K G vs kvs) : KReps K G' vs kvs := Paired.mapP h fun _ _ r => ⟨r.1, r.2.mono e⟩
/-- a slot that holds where its own object stands as it stood -/
theorem SlotOk.mono {s : Sl} {v : Option V} (h : SlotOk K F G H s v) (eg : Same G G') (eo : ∀ p, OwnA s v p → H' p = H p ∧ G' p = none) : SlotOk K F G' H' s v := by
  cases s with
  | no => trivial
  | d x =>
    obtain ⟨u, e, r⟩ := h
    exact ⟨u, e, r.mono eg⟩
  | rd xs =>
    obtain ⟨p, vs, e, h1, h2⟩ := h
    exact ⟨p, vs, e, eg.seq h1, h2.mono eg⟩
  | pot xs =>
    obtain ⟨p, vs, e, h1, h2, h3, h4⟩ := h
    obtain ⟨a, b⟩ := eo p e
    exact ⟨p, vs, e, h1, b, a.trans h3, h4.mono eg⟩
  | ol xs =>
    obtain ⟨p, vs, e, h1, h2, h3, h4⟩ := h
    obtain ⟨a, b⟩ := eo p e
    exact ⟨p, vs, e, h1, b, a.trans h3, h4.mono eg⟩
  | dk xs =>
    obtain ⟨p, vs, e, h1, h2, h3, h4⟩ := h
    obtain ⟨a, b⟩ := eo p e
    exact ⟨p, vs, e, h1, b, a.trans h3, KReps.mono eg h4⟩
  | dt xs =>
    obtain ⟨p, vs, e, h1, h2, h3, h4⟩ := h
    obtain ⟨a, b⟩ := eo p e
    exact ⟨p, vs, e, h1, b, a.trans h3, KReps.mono eg h4⟩
theorem Good.ownAt (g : Good K F ρ σ H G) {i : Nat} {s : Sl} {v : Option V} {p : Addr} (e1 : ρ[i]? = some s) (e2 : σ[i]? = some v) (o : OwnA s v p) : (∃ u, H p = some u) ∧ G p = none ∧ (F.P = some p ∨ F.H p = none) := (g.sl i s v e1 e2).own o
/-- the heap grows by what is new; the frozen part grows by new things alone -/
theorem Good.grow (g : Good K F ρ σ H G) (sh : Same H H') (sg : Same G G') (gh : Same G' H') (gn : ∀ a o, H a = some o → G a = none → G' a = none) : Good K F ρ σ H' G' where
  same := gh
  g0 := g.g0.trans sg
  h0 := fun a o e n => sh _ _ (g.h0 a o e n)
  n0 := fun a o e n => by
    have x := g.n0 a o e n
    by_cases q : F.P = some a
    · obtain ⟨_, _, ⟨u, z⟩⟩ := g.pp a q
      exact gn a u z x
    · exact gn a o (g.h0 a o e q) x
  pp := fun p e => by
    obtain ⟨a, b, ⟨u, c⟩⟩ := g.pp p e
    exact ⟨a, b, ⟨u, sh _ _ c⟩⟩
  len := g.len
  sl := fun i s v e1 e2 => (g.sl i s v e1 e2).mono sg fun p o => by
    obtain ⟨⟨u, a⟩, b, _⟩ := g.ownAt e1 e2 o
    exact ⟨(sh _ _ a).trans a.symm, gn p u a b⟩
  ds := g.ds
theorem upd_sameN {p : Addr} {o : HO} (n : H p = none) : Same H (upd H p o) := fun b x e => by
  rw [upd_ne (ne_of_none e n)]; exact e
theorem same_upd2 {p : Addr} {o : HO} (e : Same G H) : Same (upd G p o) (upd H p o) := fun b x h => by
  by_cases q : b = p
  · subst q; rw [upd_same] at h ⊢; exact h
  · rw [upd_ne q] at h ⊢; exact e _ _ h
/-- a new object, frozen at once -/
theorem Good.new (g : Good K F ρ σ H G) {p : Addr} {o : HO} (n : H p = none) : Good K F ρ σ (upd H p o) (upd G p o) ∧ Tr σ ρ H G ρ (upd H p o) (upd G p o) := by
  have ng : G p = none := g.same.free n
  have nn : ∀ (a : Addr) (u : HO), H a = some u → G a = none → (upd G p o) a = none := fun a u e q => by
    rw [upd_ne (ne_of_none e n)]; exact q
  exact ⟨g.grow (upd_sameN n) (upd_sameN ng) (same_upd2 g.same) nn, ⟨upd_sameN ng, fun a u e _ => upd_sameN n _ _ e, nn, fun _ h => h, fun a u e => ⟨u, upd_sameN n _ _ e⟩⟩⟩
theorem Good.fresh (g : Good K F ρ σ H G) {p : Addr} (n : H p = none) : F.H p = none ∧ G p = none ∧ ¬ OwnIn ρ σ p := by
  refine ⟨?_, g.same.free n, fun ⟨i, s, v, e1, e2, ow⟩ => ?_⟩
  · cases q : F.H p with
    | none => rfl
    | some u =>
      exfalso
      by_cases z : F.P = some p
      · obtain ⟨_, _, ⟨w, h⟩⟩ := g.pp p z
        rw [n] at h; cases h
      · rw [g.h0 p u q z] at n; cases n
  · obtain ⟨⟨u, h⟩, _, _⟩ := g.ownAt e1 e2 ow
    rw [n] at h; cases h
end
end PD
end
/-! PD2: expressions. -/
noncomputable section
namespace PD
open PySem PySem.Spec PyProof.Rows L2
/-- a reading: from the slots, a value and the slots behind it; none: not claimed -/
abbrev M (α : Type) := List Sl → Option (α × List Sl)
def bindM {α β : Type} (f : M α) (g : α → M β) : M β := fun ρ => match f ρ with
  | some (a, ρ1) => g a ρ1
  | none => none
def retM {α : Type} (a : α) : M α := fun ρ => some (a, ρ)
def optM {α : Type} (o : Option α) : M α := fun ρ => match o with
  | some a => some (a, ρ)
  | none => none
abbrev PostE (K : PySem.W.Frag) (F : Fr) (σ : St) (ρ : List Sl) (H G : Hp) (ρ' : List Sl) (d : D) (Q : VK) : Prop :=
  ∀ v H' G', Good K F ρ' σ H' G' → Tr σ ρ H G ρ' H' G' → Rep K G' v d → Q v H'
structure EM (X : Cx) (e : Expr) (f : M D) : Prop where
  ex : ∃ t, PE X e t ∧ ∀ (F : Fr) (σ : St) (H G : Hp) (ρ : List Sl) (d : D) (ρ' : List Sl) (Q : VK), Good X.K F ρ σ H G → f ρ = some (d, ρ') → PostE X.K F σ ρ H G ρ' d Q → t σ H Q
/-- arguments, items of a display -/
structure AM (X : Cx) (es : List Expr) (f : M (List D)) : Prop where
  ex : ∃ t, PA X es t ∧ ∀ (F : Fr) (σ : St) (H G : Hp) (ρ : List Sl) (ds : List D) (ρ' : List Sl) (Q : List V → Hp → Prop), Good X.K F ρ σ H G → f ρ = some (ds, ρ') →
    (∀ vs H' G', Good X.K F ρ' σ H' G' → Tr σ ρ H G ρ' H' G' → Reps X.K G' vs ds → Q vs H') → t σ H Q
  len : ∀ ρ ds ρ', f ρ = some (ds, ρ') → ds.length = es.length
/-- a test -/
structure TM (X : Cx) (e : Expr) (f : M Bool) : Prop where
  ex : ∃ t, PT X e t ∧ ∀ (F : Fr) (σ : St) (H G : Hp) (ρ : List Sl) (b : Bool) (ρ' : List Sl) (Q : Bool → Hp → Prop), Good X.K F ρ σ H G → f ρ = some (b, ρ') →
    (∀ H' G', Good X.K F ρ' σ H' G' → Tr σ ρ H G ρ' H' G' → Q b H') → t σ H Q
/-- a chain of and, or -/
structure WM (X : Cx) (e : Expr) (f : M Bool) : Prop where
  ex : ∃ t, PW X e t ∧ ∀ (F : Fr) (σ : St) (H G : Hp) (ρ : List Sl) (b : Bool) (ρ' : List Sl) (Q : Bool → Hp → Prop), Good X.K F ρ σ H G → f ρ = some (b, ρ') →
    (∀ H' G', Good X.K F ρ' σ H' G' → Tr σ ρ H G ρ' H' G' → Q b H') → t σ H Q
/-- a new list -/
structure EO (X : Cx) (e : Expr) (f : M (List D)) : Prop where
  ex : ∃ t, PE X e t ∧ ∀ (F : Fr) (σ : St) (H G : Hp) (ρ : List Sl) (ds : List D) (ρ' : List Sl) (Q : VK), Good X.K F ρ σ H G → f ρ = some (ds, ρ') →
    (∀ p vs H' G', Good X.K F ρ' σ H' G' → Tr σ ρ H G ρ' H' G' → H p = none → G' p = none → H' p = some (.lst vs) → Reps X.K G' vs ds → ¬ OwnIn ρ' σ p → Q (.ref p) H') → t σ H Q
/-- what a container is: data, or what a slot holds -/
inductive Rf where
  | d (x : D) | s (i : Nat)
def RfOk (K : PySem.W.Frag) (G : Hp) (σ : St) (v : V) : Rf → Prop
  | .d x => Rep K G v x
  | .s i => σ[i]? = some (some v)
structure CM (X : Cx) (e : Expr) (f : M Rf) : Prop where
  ex : ∃ t, PE X e t ∧ ∀ (F : Fr) (σ : St) (H G : Hp) (ρ : List Sl) (r : Rf) (ρ' : List Sl) (Q : VK), Good X.K F ρ σ H G → f ρ = some (r, ρ') →
    (∀ v H' G', Good X.K F ρ' σ H' G' → Tr σ ρ H G ρ' H' G' → RfOk X.K G' σ v r → Q v H') → t σ H Q
/-- a sequence's items: whether it is a tuple, they -/
abbrev look : Rf → List Sl → Option (Bool × List D)
  | .d (.list xs), _ => some (false, xs)
  | .d (.tuple xs), _ => some (true, xs)
  | .d _, _ => none
  | .s i, ρ => match ρ[i]? with
    | some (.pot xs) => some (false, xs)
    | some (.ol xs) => some (false, xs)
    | some (.rd xs) => some (false, xs)
    | some (.d (.list xs)) => some (false, xs)
    | some (.d (.tuple xs)) => some (true, xs)
    | _ => none
def SqV (K : PySem.W.Frag) (G H : Hp) (b : Bool) (a : Addr) (xs : List V) : Prop := if b = true then SqT K G a xs else SqL K H a xs
section
variable {K : PySem.W.Frag} {F : Fr} {ρ : List Sl} {σ : St} {H G : Hp}
theorem RfOk.mono {G' : Hp} {v : V} {r : Rf} (h : RfOk K G σ v r) (e : Same G G') : RfOk K G' σ v r := by
  cases r with
  | d x => exact Rep.mono e _ _ h
  | s i => exact h
theorem seq_of_rep {v : V} {x : D} {b : Bool} {ds : List D} (g : Same G H) (h : Rep K G v x) (hl : look (.d x) ρ = some (b, ds)) : ∃ a xs, v = .ref a ∧ SqV K G H b a xs ∧ Reps K G xs ds := by
  cases x with
  | list ys =>
    cases hl
    cases h with
    | lst h1 h2 => exact ⟨_, _, rfl, SqL.of (g _ _ h1), h2⟩
  | tuple ys =>
    cases hl
    cases h with
    | tup h1 h2 => exact ⟨_, _, rfl, h1, h2⟩
  | none => cases hl
  | bool _ => cases hl
  | int _ => cases hl
  | str _ => cases hl
  | dict _ => cases hl
theorem look_ok {v : V} {r : Rf} {b : Bool} {ds : List D} (g : Good K F ρ σ H G) (h : RfOk K G σ v r) (hl : look r ρ = some (b, ds)) : ∃ a xs, v = .ref a ∧ SqV K G H b a xs ∧ Reps K G xs ds := by
  cases r with
  | d x => exact seq_of_rep g.same h hl
  | s i =>
    have hv : σ[i]? = some (some v) := h
    have hi : i < σ.length := by
      rcases Nat.lt_or_ge i σ.length with q | q
      · exact q
      · rw [List.getElem?_eq_none q] at hv; cases hv
    have hr : ∃ s, ρ[i]? = some s := ⟨_, List.getElem?_eq_getElem (by rw [g.len]; exact hi)⟩
    obtain ⟨s, hs⟩ := hr
    have ok := g.sl i s _ hs hv
    simp only [look, hs] at hl
    cases s with
    | no => cases hl
    | dk _ => cases hl
    | dt _ => cases hl
    | d x =>
      obtain ⟨u, e, r⟩ := ok
      cases e
      refine seq_of_rep (ρ := ρ) g.same r ?_
      cases x <;> first | exact hl | cases hl
    | pot xs =>
      cases hl
      obtain ⟨p, vs, e, h1, h2, h3, h4⟩ := ok
      cases e
      exact ⟨_, _, rfl, SqL.of h3, h4⟩
    | ol xs =>
      cases hl
      obtain ⟨p, vs, e, h1, h2, h3, h4⟩ := ok
      cases e
      exact ⟨_, _, rfl, SqL.of h3, h4⟩
    | rd xs =>
      cases hl
      obtain ⟨p, vs, e, h1, h2⟩ := ok
      cases e
      exact ⟨_, _, rfl, g.same.seq h1, h2⟩
theorem SqV.either {b : Bool} {a : Addr} {xs : List V} (e : Same G H) (h : SqV K G H b a xs) : SqL K H a xs ∨ SqT K H a xs := by
  cases b with
  | true => exact .inr (same_seqT e h)
  | false => exact .inl h
/-- a new list of one's own, frozen -/
theorem Good.freeze {p : Addr} {vs : List V} (g : Good K F ρ σ H G) (hF : F.H p = none) (hG : G p = none) (hH : H p = some (.lst vs)) (no : ¬ OwnIn ρ σ p) :
    Good K F ρ σ H (upd G p (.lst vs)) ∧ Same G (upd G p (.lst vs)) := by
  have sg : Same G (upd G p (.lst vs)) := upd_sameN hG
  refine ⟨⟨fun b o e => ?_, g.g0.trans sg, g.h0, fun a o e n => ?_, g.pp, g.len, fun i s v e1 e2 => (g.sl i s v e1 e2).mono sg fun q o => ⟨rfl, ?_⟩, g.ds⟩, sg⟩
  · by_cases q : b = p
    · subst q; rw [upd_same] at e; rw [hH]; exact e
    · rw [upd_ne q] at e; exact g.same _ _ e
  · have hne : a ≠ p := fun z => by rw [z, hF] at e; cases e
    rw [upd_ne hne]; exact g.n0 a o e n
  · obtain ⟨_, b, _⟩ := g.ownAt e1 e2 o
    have hne : q ≠ p := fun z => no ⟨i, s, v, e1, e2, z ▸ o⟩
    rw [upd_ne hne]; exact b
/-- a new object of one's own -/
theorem Good.newO {p : Addr} {o : HO} (g : Good K F ρ σ H G) (n : H p = none) : Good K F ρ σ (upd H p o) G ∧ Tr σ ρ H G ρ (upd H p o) G :=
  ⟨g.grow (upd_sameN n) (Same.refl G) (g.same.trans (upd_sameN n)) fun a u _ q => q, ⟨Same.refl G, fun a u e _ => upd_sameN n _ _ e, fun _ _ _ q => q, fun _ h => h, fun a u e => ⟨u, upd_sameN n _ _ e⟩⟩⟩
end
section
variable {X : Cx} {pos : Pos} {e a b c : Expr} {es : List Expr} {f fa fb fc : M D}
/-! ### names and constants -/
def varM (i : Nat) : M D := fun ρ => match ρ[i]? with
  | some (.d x) => some (x, ρ)
  | _ => none
theorem em_var (i : Nat) {x : Str} (h : PE X (.Name x pos) (tVar i)) : EM X (.Name x pos) (varM i) := by
  refine ⟨_, h, fun F σ H G ρ d ρ' Q g hf q => ?_⟩
  unfold varM at hf
  split at hf
  · rename_i x' e1
    cases hf
    have hi : i < ρ.length := by
      rcases Nat.lt_or_ge i ρ.length with z | z
      · exact z
      · rw [List.getElem?_eq_none z] at e1; cases e1
    have hv : σ[i]? = some (σ[i]'(by rw [← g.len]; exact hi)) := List.getElem?_eq_getElem _
    obtain ⟨u, e2, r⟩ := g.sl i _ _ e1 hv
    refine ⟨u, by rw [hv, e2], q u H G g Tr.refl r⟩
  · cases hf
theorem em_c {v : V} {d : D} (h : PE X e (tC v)) (r : ∀ H, Rep X.K H v d) : EM X e (retM d) :=
  ⟨_, h, fun F σ H G ρ d' ρ' Q g hf q => by cases hf; exact q v H G g Tr.refl (r G)⟩
theorem em_int {i : Int} {j} : EM X (.Constant (.int i) j pos) (retM (.int i)) := em_c pe_int fun _ => .int i
theorem em_bl {i : Bool} {j} : EM X (.Constant (.bool i) j pos) (retM (.bool i)) := em_c pe_bl fun _ => .bl i
theorem em_non {j} : EM X (.Constant .none j pos) (retM .none) := em_c pe_non fun _ => .non
theorem em_str {x : Str} {j} : EM X (.Constant (.str x) j pos) (retM (.str x)) := em_c pe_str fun _ => .str x
theorem em_glob {x : Str} {i : Int} {t : Tok} (hg : Gl X x) (hm : X.mg x = some (.int i t)) (hd : (x == ("__debug__" : Str)) = false := by decide) : EM X (.Name x pos) (retM (.int i)) := em_c (v := .int i) (pe_glob hg hm ⟨_, rfl⟩ hd) fun _ => .int i
/-! ### containers -/
theorem cm_em (h : EM X e f) : CM X e (bindM f fun d => retM (.d d)) := by
  obtain ⟨t, p, w⟩ := h.ex
  refine ⟨t, p, fun F σ H G ρ r ρ' Q g hf q => ?_⟩
  simp only [bindM] at hf
  split at hf
  · rename_i d ρ1 e1
    cases hf
    exact w F σ H G ρ d _ Q g e1 fun v H' G' g' s' r' => q v H' G' g' s' r'
  · cases hf
theorem cm_own (i : Nat) {x : Str} (h : PE X (.Name x pos) (tVar i)) : CM X (.Name x pos) (fun ρ => match look (.s i) ρ with | some _ => some (.s i, ρ) | none => none) := by
  refine ⟨_, h, fun F σ H G ρ r ρ' Q g hf q => ?_⟩
  split at hf
  · rename_i y e1
    cases hf
    have hi : i < ρ.length := by
      rcases Nat.lt_or_ge i ρ.length with z | z
      · exact z
      · simp [look, List.getElem?_eq_none z] at e1
    have hv : σ[i]? = some (σ[i]'(by rw [← g.len]; exact hi)) := List.getElem?_eq_getElem _
    have hr : ρ[i]? = some ρ[i] := List.getElem?_eq_getElem hi
    have ok := g.sl i _ _ hr hv
    have : ∃ u, σ[i]'(by rw [← g.len]; exact hi) = some u := by
      simp only [look, hr] at e1
      cases hs : ρ[i] with
      | no => rw [hs] at e1; cases e1
      | dk _ => rw [hs] at e1; cases e1
      | dt _ => rw [hs] at e1; cases e1
      | d x => rw [hs] at ok; obtain ⟨u, e, _⟩ := ok; exact ⟨u, e⟩
      | pot x => rw [hs] at ok; obtain ⟨p, _, e, _⟩ := ok; exact ⟨_, e⟩
      | ol x => rw [hs] at ok; obtain ⟨p, _, e, _⟩ := ok; exact ⟨_, e⟩
      | rd x => rw [hs] at ok; obtain ⟨p, _, e, _⟩ := ok; exact ⟨_, e⟩
    obtain ⟨u, eu⟩ := this
    have hv2 : σ[i]? = some (some u) := by rw [hv, eu]
    exact ⟨u, hv2, q u H G g Tr.refl hv2⟩
  · cases hf
theorem em_eo {f : M (List D)} (h : EO X e f) : EM X e (bindM f fun ds => retM (.list ds)) := by
  obtain ⟨t, p, w⟩ := h.ex
  refine ⟨t, p, fun F σ H G ρ r ρ' Q g hf q => ?_⟩
  simp only [bindM] at hf
  split at hf
  · rename_i d ρ1 e1
    cases hf
    refine w F σ H G ρ d _ Q g e1 fun p vs H' G' g' s' h1 h2 h3 h4 h5 => ?_
    obtain ⟨g2, s2⟩ := g'.freeze (g.fresh h1).1 h2 h3 h5
    refine q _ _ _ g2 ⟨s'.sg.trans s2, s'.fr, fun a o e n => ?_, s'.ow, s'.kp⟩ (.lst upd_same (h4.mono s2))
    have hne : a ≠ p := fun z => by rw [z, h1] at e; cases e
    rw [upd_ne hne]
    exact s'.nf a o e n
  · cases hf
/-! ### operators -/
/-- an operator by values -/
structure OpD (X : Cx) (op : Value → Value → Sem Value) (g : D → D → Option D) : Prop where
  ex : ∃ r, OpR X op r ∧ ∀ (F : Fr) (ρ : List Sl) (σ : St) (H G : Hp) (a b : D) (x y : V) (d : D) (Q : VK), Good X.K F ρ σ H G → Rep X.K G x a → Rep X.K G y b → g a b = some d → PostE X.K F σ ρ H G ρ d Q → r x y H Q
def bin2 (g : D → D → Option D) (fa fb : M D) : M D := bindM fa fun a => bindM fb fun b => optM (g a b)
theorem em_op {op : Operator} {g : D → D → Option D} (ho : OpD X (binaryOp op) g) (ha : EM X a fa) (hb : EM X b fb) : EM X (.BinOp a op b pos) (bin2 g fa fb) := by
  obtain ⟨r, hr, wr⟩ := ho.ex
  obtain ⟨ta, pa, wa⟩ := ha.ex
  obtain ⟨tb, pb, wb⟩ := hb.ex
  refine ⟨_, pe_op hr pa pb, fun F σ H G ρ d ρ' Q g0 hf q => ?_⟩
  simp only [bin2, bindM, optM] at hf
  split at hf
  · rename_i x ρ1 e1
    split at hf
    · rename_i y ρ2 e2
      split at hf
      · rename_i z e3
        cases hf
        refine wa F σ H G ρ x ρ1 _ g0 e1 fun v H1 G1 g1 s1 r1 => ?_
        refine wb F σ H1 G1 ρ1 y _ _ g1 e2 fun u H2 G2 g2 s2 r2 => ?_
        exact wr F _ σ H2 G2 x y v u _ Q g2 (r1.mono s2.sg) r2 e3 fun v H' G' g' s' r' => q v H' G' g' ((s1.trans s2).trans s') r'
      · cases hf
    · cases hf
  · cases hf
theorem OpD.or {op : Value → Value → Sem Value} {g g' : D → D → Option D} (h : OpD X op g) (h' : OpD X op g') : OpD X op (fun a b => match g a b with | some d => some d | none => g' a b) := by
  obtain ⟨r, hr, w⟩ := h.ex
  obtain ⟨r', hr', w'⟩ := h'.ex
  refine ⟨_, hr.or hr', fun F ρ σ H G a b x y d Q g0 ra rb hg q => ?_⟩
  split at hg
  · rename_i e1; cases hg; exact .inl (w F ρ σ H G a b x y _ Q g0 ra rb e1 q)
  · exact .inr (w' F ρ σ H G a b x y d Q g0 ra rb hg q)
theorem opd_I {op : Value → Value → Sem Value} {C : Int → Int → Prop} [inst : ∀ i j, Decidable (C i j)] {gv : Int → Int → V} {gd : Int → Int → D} (h : OpR X op (rI C gv)) (hr : ∀ H i j, Rep X.K H (gv i j) (gd i j)) :
    OpD X op (fun a b => match a, b with | .int i, .int j => if C i j then some (gd i j) else none | _, _ => none) := by
  refine ⟨_, h, fun F ρ σ H G a b x y d Q g ra rb hg q => ?_⟩
  split at hg
  · split at hg
    · rename_i hc
      cases hg; cases ra; cases rb
      exact ⟨_, _, rfl, rfl, hc, q _ _ _ g Tr.refl (hr G _ _)⟩
    · cases hg
  · cases hg
theorem opd_I0 {op : Value → Value → Sem Value} {gv : Int → Int → V} {gd : Int → Int → D} (h : OpR X op (rI0 gv)) (hr : ∀ H i j, Rep X.K H (gv i j) (gd i j)) :
    OpD X op (fun a b => match a, b with | .int i, .int j => some (gd i j) | _, _ => none) := by
  refine ⟨_, h, fun F ρ σ H G a b x y d Q g ra rb hg q => ?_⟩
  split at hg
  · cases hg; cases ra; cases rb
    exact ⟨_, _, rfl, rfl, q _ _ _ g Tr.refl (hr G _ _)⟩
  · cases hg
theorem OpD.congr {op : Value → Value → Sem Value} {g g' : D → D → Option D} (h : OpD X op g) (e : ∀ a b d, g' a b = some d → g a b = some d) : OpD X op g' := by
  obtain ⟨r, hr, w⟩ := h.ex
  exact ⟨r, hr, fun F ρ σ H G a b x y d Q g0 ra rb hg q => w F ρ σ H G a b x y d Q g0 ra rb (e _ _ _ hg) q⟩
abbrev addD : D → D → Option D
  | .int i, .int j => some (.int (i + j))
  | .tuple xs, .tuple ys => if xs.length + ys.length ≤ 16000000 then some (.tuple (xs ++ ys)) else none
  | .list xs, .list ys => if xs.length + ys.length ≤ 16000000 then some (.list (xs ++ ys)) else none
  | _, _ => none
theorem line16 {n : Nat} (h : n ≤ 16000000) : n ≤ sizeLine := by rw [sizeLine_eq]; omega
theorem opd_catT : OpD X (binaryOp .Add) (fun a b => match a, b with | .tuple xs, .tuple ys => if xs.length + ys.length ≤ 16000000 then some (.tuple (xs ++ ys)) else none | _, _ => none) := by
  refine ⟨_, op_catA, fun F ρ σ H G a b x y d Q g ra rb hg q => ?_⟩
  split at hg
  · split at hg
    · rename_i hz
      cases hg
      cases ra with
      | tup h1 h2 =>
        cases rb with
        | tup k1 k2 =>
          refine ⟨_, _, _, _, rfl, rfl, same_seqT g.same h1, same_seqT g.same k1, by rw [h2.length, k2.length]; exact line16 hz, fun e => ?_, fun e e2 => ?_, fun _ _ p np => ?_⟩
          · subst e; cases h2
            exact q _ _ _ g Tr.refl (.tup k1 k2)
          · subst e2; cases k2
            rw [List.append_nil] at q
            exact q _ _ _ g Tr.refl (.tup h1 h2)
          · obtain ⟨g2, s2⟩ := g.new (o := .tup _) np
            exact q _ _ _ g2 s2 (.tup (SqT.of upd_same) ((h2.mono s2.sg).append (k2.mono s2.sg)))
    · cases hg
  · cases hg
theorem opd_catL : OpD X (binaryOp .Add) (fun a b => match a, b with | .list xs, .list ys => if xs.length + ys.length ≤ 16000000 then some (.list (xs ++ ys)) else none | _, _ => none) := by
  refine ⟨_, op_cat, fun F ρ σ H G a b x y d Q g ra rb hg q => ?_⟩
  split at hg
  · split at hg
    · rename_i hz
      cases hg
      cases ra with
      | lst h1 h2 =>
        cases rb with
        | lst k1 k2 =>
          refine ⟨_, _, _, _, rfl, rfl, g.same _ _ h1, g.same _ _ k1, by rw [h2.length, k2.length]; exact line16 hz, fun p np => ?_⟩
          obtain ⟨g2, s2⟩ := g.new (o := .lst _) np
          exact q _ _ _ g2 s2 (.lst upd_same ((h2.mono s2.sg).append (k2.mono s2.sg)))
    · cases hg
  · cases hg
theorem o_add : OpD X (binaryOp .Add) addD := ((opd_I0 (gd := fun i j => .int (i + j)) op_add fun _ _ _ => .int _).or (opd_catT.or opd_catL)).congr fun a b d h => by
  unfold addD at h
  split at h
  · exact h
  · simp only [h]
  · simp only [h]
  · cases h
abbrev subD : D → D → Option D
  | .int i, .int j => some (.int (i - j))
  | _, _ => none
theorem o_sub : OpD X (binaryOp .Sub) subD := (opd_I0 (gd := fun i j => .int (i - j)) op_sub fun _ _ _ => .int _).congr fun a b d h => by
  unfold subD at h
  split at h
  · exact h
  · cases h
/-- a product's size -/
def MulOk (i j : Int) : Prop := i.natAbs < 18446744073709551616 ∨ j.natAbs < 18446744073709551616 ∨ i.natAbs.log2 + j.natAbs.log2 < 1000000
noncomputable instance (i j : Int) : Decidable (MulOk i j) := Classical.propDecidable _
theorem MulOk.ok {i j : Int} (h : MulOk i j) : IntMulOk i j := by
  rcases h with h | h | h
  · exact CMul.ok (.inl ⟨by omega, by omega⟩)
  · exact CMul.ok (.inr ⟨by omega, by omega⟩)
  · exact CMulW.ok h
theorem op_mulD : OpR X (binaryOp .Mult) (rI MulOk fun i j => .int (i * j)) := opI fun _ _ _ _ _ _ _ hc q => mul_int q hc.ok
abbrev mulD : D → D → Option D
  | .int i, .int j => if MulOk i j then some (.int (i * j)) else none
  | .list xs, .int k => if xs.length * k.toNat ≤ 16000000 ∧ k < 1000000000 ∧ -1000000000 < k then some (.list (List.replicate k.toNat xs).flatten) else none
  | .tuple xs, .int k => if xs ≠ [] ∧ xs.length ≤ 1000 ∧ 1 < k ∧ k ≤ 1000 then some (.tuple (List.replicate k.toNat xs).flatten) else none
  | _, _ => none
theorem opd_repL : OpD X (binaryOp .Mult) (fun a b => match a, b with | .list xs, .int k => if xs.length * k.toNat ≤ 16000000 ∧ k < 1000000000 ∧ -1000000000 < k then some (.list (List.replicate k.toNat xs).flatten) else none | _, _ => none) := by
  refine ⟨_, op_rep, fun F ρ σ H G a b x y d Q g ra rb hg q => ?_⟩
  split at hg
  · split at hg
    · rename_i hz
      cases hg
      cases rb
      cases ra with
      | lst h1 h2 =>
        refine ⟨_, _, _, rfl, rfl, g.same _ _ h1, by omega, by omega, by rw [h2.length]; exact line16 hz.1, fun p np => ?_⟩
        obtain ⟨g2, s2⟩ := g.new (o := .lst _) np
        exact q _ _ _ g2 s2 (.lst upd_same ((h2.mono s2.sg).rep _))
    · cases hg
  · cases hg
end
end PD
end
/-! PD3: more expressions. -/
noncomputable section
namespace PD
open PySem PySem.Spec PyProof.Rows L2
theorem bind_some {α β : Type} {f : M α} {g : α → M β} {ρ : List Sl} {r : β × List Sl} (h : bindM f g ρ = some r) : ∃ a ρ1, f ρ = some (a, ρ1) ∧ g a ρ1 = some r := by
  simp only [bindM] at h
  split at h
  · rename_i a ρ1 e
    exact ⟨a, ρ1, e, h⟩
  · cases h
theorem opt_some {α : Type} {o : Option α} {ρ ρ' : List Sl} {a : α} (h : optM o ρ = some (a, ρ')) : o = some a ∧ ρ = ρ' := by
  simp only [optM] at h
  split at h
  · cases h; exact ⟨rfl, rfl⟩
  · cases h
section
variable {X : Cx} {pos : Pos} {e a b c : Expr} {es : List Expr} {f fa fb fc : M D}
theorem opd_repT : OpD X (binaryOp .Mult) (fun a b => match a, b with | .tuple xs, .int k => if xs ≠ [] ∧ xs.length ≤ 1000 ∧ 1 < k ∧ k ≤ 1000 then some (.tuple (List.replicate k.toNat xs).flatten) else none | _, _ => none) := by
  refine ⟨_, op_repT, fun F ρ σ H G a b x y d Q g ra rb hg q => ?_⟩
  split at hg
  · split at hg
    · rename_i hz
      cases hg
      cases rb
      cases ra with
      | tup h1 h2 =>
        obtain ⟨z0, z1, z2, z3⟩ := hz
        refine ⟨_, _, _, rfl, rfl, same_seqT g.same h1, fun e => ?_, by omega, by omega, by rw [h2.length]; omega, fun p np => ?_⟩
        · subst e; cases h2; exact z0 rfl
        · obtain ⟨g2, s2⟩ := g.new (o := .tup _) np
          exact q _ _ _ g2 s2 (.tup (SqT.of upd_same) ((h2.mono s2.sg).rep _))
    · cases hg
  · cases hg
theorem o_mul : OpD X (binaryOp .Mult) mulD := ((opd_I (gd := fun i j => .int (i * j)) op_mulD fun _ _ _ => .int _).or (opd_repL.or opd_repT)).congr fun a b d h => by
  unfold mulD at h
  split at h
  · simp only [h]
  · simp only [h]
  · simp only [h]
  · cases h
abbrev modD : D → D → Option D
  | .int i, .int j => if 0 < j then some (.int (i % j)) else if j < 0 then some (.int (i.fmod j)) else none
  | _, _ => none
theorem o_mod : OpD X (binaryOp .Mod) modD := (opd_I (gd := fun i j => .int (i.fmod j)) op_modN fun _ _ _ => .int _).congr fun a b d h => by
  unfold modD at h
  split at h
  · rename_i i j
    split at h
    · rename_i hj
      cases h
      show (if j ≠ 0 then some (PyData.int (i.fmod j)) else none) = _
      rw [if_pos (by omega), Int.fmod_eq_emod_of_nonneg i (by omega)]
    · split at h
      · rename_i hj
        cases h
        show (if j ≠ 0 then some (PyData.int (i.fmod j)) else none) = _
        rw [if_pos (by omega)]
      · cases h
  · cases h
/-- a divisor -/
def DivOk (j : Int) : Prop := j ≠ 0 ∧ (j.natAbs < 1073741824 ∨ j.natAbs.log2 < 9000)
noncomputable instance (j : Int) : Decidable (DivOk j) := Classical.propDecidable _
theorem op_fdivD : OpR X (binaryOp .FloorDiv) (rI (fun _ j => DivOk j) fun i j => .int (i.fdiv j)) := opI fun _ _ _ _ _ _ _ hc q => floordiv_int hc.1 q (.inl (by
  rcases hc.2 with h | h
  · exact PyProof.noPylong_small h
  · exact PyProof.noPylong_of_log2 h))
abbrev fdivD : D → D → Option D
  | .int i, .int j => if DivOk j then some (.int (if 0 < j then i / j else i.fdiv j)) else none
  | _, _ => none
theorem o_fdiv : OpD X (binaryOp .FloorDiv) fdivD := (opd_I (gd := fun i j => .int (i.fdiv j)) op_fdivD fun _ _ _ => .int _).congr fun a b d h => by
  unfold fdivD at h
  split at h
  · rename_i i j
    split at h
    · rename_i hj
      cases h
      simp only [if_pos hj]
      split
      · rw [Int.fdiv_eq_ediv_of_nonneg i (by omega)]
      · rfl
    · cases h
  · cases h
def PowOk (i j : Int) : Prop := 0 ≤ j ∧ ((i.natAbs.log2 + 1 : Nat) : Int) * j ≤ 134217728
noncomputable instance (i j : Int) : Decidable (PowOk i j) := Classical.propDecidable _
theorem op_powD : OpR X (binaryOp .Pow) (rI PowOk fun i j => .int (i ^ j.toNat)) := opI fun i j _ _ _ _ _ hc q => by
  refine pow_int hc.1 ?_ q
  have h : (Builtin.Int.intBits i : Int) ≤ ((i.natAbs.log2 + 1 : Nat) : Int) := by
    unfold Builtin.Int.intBits
    split <;> omega
  have := Int.mul_le_mul_of_nonneg_right h hc.1
  have e : (2 : Int) ^ 27 = 134217728 := by decide
  rw [e]
  exact Int.le_trans this hc.2
abbrev powD : D → D → Option D
  | .int i, .int j => if PowOk i j then some (.int (i ^ j.toNat)) else none
  | _, _ => none
theorem o_pow : OpD X (binaryOp .Pow) powD := (opd_I (gd := fun i j => .int (i ^ j.toNat)) op_powD fun _ _ _ => .int _).congr fun a b d h => by
  unfold powD at h
  split at h
  · exact h
  · cases h
def bin1 (g : D → Option D) (fa : M D) : M D := bindM fa fun a => optM (g a)
abbrev negD : D → Option D
  | .int i => some (.int (-i))
  | _ => none
theorem em_neg (ha : EM X a fa) : EM X (.UnaryOp .USub a pos) (bin1 negD fa) := by
  obtain ⟨ta, pa, wa⟩ := ha.ex
  refine ⟨_, pe_un un_neg pa, fun F σ H G ρ d ρ' Q g0 hf q => ?_⟩
  simp only [bin1, bindM, optM] at hf
  split at hf
  · rename_i x ρ1 e1
    split at hf
    · rename_i y e2
      cases hf
      refine wa F σ H G ρ x _ _ g0 e1 fun v H1 G1 g1 s1 r1 => ?_
      unfold negD at e2
      split at e2
      · cases e2; cases r1
        exact ⟨_, rfl, q _ _ _ g1 s1 (.int _)⟩
      · cases e2
    · cases hf
  · cases hf
/-! ### comparisons -/
abbrev cmpI (p : Int → Int → Bool) : D → D → Option D
  | .int i, .int j => some (.bool (p i j))
  | _, _ => none
theorem o_cmpI {op : CmpOp} {p : Int → Int → Bool} (h : OpR X (compareOp op) (rI0 fun i j => .bl (p i j))) : OpD X (compareOp op) (cmpI p) := (opd_I0 (gd := fun i j => .bool (p i j)) h fun _ _ _ => .bl _).congr fun a b d h => by
  unfold cmpI at h
  split at h
  · exact h
  · cases h
theorem o_lt : OpD X (compareOp .Lt) (cmpI fun i j => decide (i < j)) := o_cmpI op_lt
theorem o_le : OpD X (compareOp .LtE) (cmpI fun i j => decide (i ≤ j)) := o_cmpI op_le
theorem o_gt : OpD X (compareOp .Gt) (cmpI fun i j => decide (j < i)) := o_cmpI op_gt
theorem o_ge : OpD X (compareOp .GtE) (cmpI fun i j => decide (j ≤ i)) := o_cmpI op_ge
/-- == of data -/
abbrev eqB : D → D → Option Bool
  | .int i, .int j => some (decide (i = j))
  | .bool i, .bool j => some (decide (i = j))
  | a, b => if SeqAt.shaped a = true ∧ SeqAt.shaped b = true then some (PyData.eqv a b) else none
abbrev eqD : D → D → Option D := fun a b => (eqB a b).map .bool
abbrev neD : D → D → Option D := fun a b => (eqB a b).map fun k => .bool (!k)
theorem dp_up {K : PySem.W.Frag} {F : Fr} {ρ : List Sl} {σ : St} {H G : Hp} {v : V} {d : D} (g : Good K F ρ σ H G) (r : Rep K G v d) : Dp K H v d := (r.mono g.same).dp
theorem dec_vint {i j : Int} : decide (V.int i = V.int j) = decide (i = j) := by by_cases e : i = j <;> simp [e]
theorem dec_vbl {i j : Bool} : decide (V.bl i = V.bl j) = decide (i = j) := by by_cases e : i = j <;> simp [e]
theorem o_eq (hu : X.A.units + 64 < cLine) : OpD X (compareOp .Eq) eqD := by
  refine ⟨_, op_eq.or (op_eqD hu), fun F ρ σ H G a b x y d Q g ra rb hg q => ?_⟩
  simp only [eqD, Option.map_eq_some_iff] at hg
  obtain ⟨k, hk, rfl⟩ := hg
  unfold eqB at hk
  split at hk
  · cases hk; cases ra; cases rb
    refine .inl ⟨rfl, ?_⟩
    rw [dec_vint]; exact q _ _ _ g Tr.refl (.bl _)
  · cases hk; cases ra; cases rb
    refine .inl ⟨rfl, ?_⟩
    rw [dec_vbl]; exact q _ _ _ g Tr.refl (.bl _)
  · split at hk
    · rename_i hs
      cases hk
      exact .inr ⟨_, _, dp_up g ra, dp_up g rb, hs.1, hs.2, q _ _ _ g Tr.refl (.bl _)⟩
    · cases hk
theorem o_ne (hu : X.A.units + 64 < cLine) : OpD X (compareOp .NotEq) neD := by
  refine ⟨_, op_ne.or (op_neD hu), fun F ρ σ H G a b x y d Q g ra rb hg q => ?_⟩
  simp only [neD, Option.map_eq_some_iff] at hg
  obtain ⟨k, hk, rfl⟩ := hg
  unfold eqB at hk
  split at hk
  · cases hk; cases ra; cases rb
    refine .inl ⟨rfl, ?_⟩
    rw [dec_vint]; exact q _ _ _ g Tr.refl (.bl _)
  · cases hk; cases ra; cases rb
    refine .inl ⟨rfl, ?_⟩
    rw [dec_vbl]; exact q _ _ _ g Tr.refl (.bl _)
  · split at hk
    · rename_i hs
      cases hk
      exact .inr ⟨_, _, dp_up g ra, dp_up g rb, hs.1, hs.2, q _ _ _ g Tr.refl (.bl _)⟩
    · cases hk
abbrev isNoneD : D → Bool
  | .none => true
  | _ => false
theorem rep_isNone {K : PySem.W.Frag} {G : Hp} {v : V} {d : D} (r : Rep K G v d) : decide (v = .non) = isNoneD d := by
  cases r <;> rfl
abbrev isD : D → D → Option D
  | a, .none => some (.bool (isNoneD a))
  | .bool a, .bool b => some (.bool (decide (a = b)))
  | _, _ => none
abbrev isNotD : D → D → Option D
  | a, .none => some (.bool (!isNoneD a))
  | .bool a, .bool b => some (.bool (!decide (a = b)))
  | _, _ => none
theorem o_is : OpD X (compareOp .Is) isD := by
  refine ⟨_, op_isN.or op_isBl, fun F ρ σ H G a b x y d Q g ra rb hg q => ?_⟩
  unfold isD at hg
  split at hg
  · cases hg; cases rb
    refine .inl ⟨rfl, ?_⟩
    rw [rep_isNone ra]; exact q _ _ _ g Tr.refl (.bl _)
  · cases hg; cases ra; cases rb
    exact .inr ⟨_, _, rfl, rfl, q _ _ _ g Tr.refl (.bl _)⟩
  · cases hg
theorem o_isNot : OpD X (compareOp .IsNot) isNotD := by
  refine ⟨_, op_notN.or op_notBl, fun F ρ σ H G a b x y d Q g ra rb hg q => ?_⟩
  unfold isNotD at hg
  split at hg
  · cases hg; cases rb
    refine .inl ⟨rfl, ?_⟩
    rw [rep_isNone ra]; exact q _ _ _ g Tr.refl (.bl _)
  · cases hg; cases ra; cases rb
    exact .inr ⟨_, _, rfl, rfl, q _ _ _ g Tr.refl (.bl _)⟩
  · cases hg
theorem em_cmp {op : CmpOp} {g : D → D → Option D} (ho : OpD X (compareOp op) g) (ha : EM X a fa) (hb : EM X b fb) (hm : behindInMarks op b = false) : EM X (.Compare a [op] [b] pos) (bin2 g fa fb) := by
  obtain ⟨r, hr, wr⟩ := ho.ex
  obtain ⟨ta, pa, wa⟩ := ha.ex
  obtain ⟨tb, pb, wb⟩ := hb.ex
  refine ⟨_, pe_cmpR hr pa pb hm, fun F σ H G ρ d ρ' Q g0 hf q => ?_⟩
  simp only [bin2, bindM, optM] at hf
  split at hf
  · rename_i x ρ1 e1
    split at hf
    · rename_i y ρ2 e2
      split at hf
      · rename_i z e3
        cases hf
        refine wa F σ H G ρ x ρ1 _ g0 e1 fun v H1 G1 g1 s1 r1 => ?_
        refine wb F σ H1 G1 ρ1 y _ _ g1 e2 fun u H2 G2 g2 s2 r2 => ?_
        exact wr F _ σ H2 G2 x y v u _ Q g2 (r1.mono s2.sg) r2 e3 fun v H' G' g' s' r' => q v H' G' g' ((s1.trans s2).trans s') r'
      · cases hf
    · cases hf
  · cases hf
abbrev boolO : D → Option Bool
  | .bool k => some k
  | _ => none
theorem bool_some {d : D} {k : Bool} (h : boolO d = some k) : d = .bool k := by
  unfold boolO at h
  split at h
  · cases h; rfl
  · cases h
/-- a < b < c -/
def chainM (g g' : D → D → Option D) (fa fb fc : M D) : M D := bindM fa fun a => bindM fb fun b => bindM (optM (g a b)) fun z => bindM (optM (boolO z)) fun k => if k = true then bindM fc fun c => optM (g' b c) else retM (.bool false)
theorem chain_ex {op op' : CmpOp} {g g' : D → D → Option D} (ho : OpD X (compareOp op) g) (ho' : OpD X (compareOp op') g') (ha : EM X a fa) (hb : EM X b fb) (hc : EM X c fc) (hm : lastMarks [op, op'] [b, c] = false := by with_unfolding_all rfl) :
    ∃ t, PE X (.Compare a [op, op'] [b, c] pos) t ∧ PT X (.Compare a [op, op'] [b, c] pos) (tTest t) ∧ ∀ (F : Fr) (σ : St) (H G : Hp) (ρ : List Sl) (d : D) (ρ' : List Sl) (Q : VK), Good X.K F ρ σ H G → chainM g g' fa fb fc ρ = some (d, ρ') → PostE X.K F σ ρ H G ρ' d Q → t σ H Q := by
  obtain ⟨r, hr, wr⟩ := ho.ex
  obtain ⟨r', hr', wr'⟩ := ho'.ex
  obtain ⟨ta, pa, wa⟩ := ha.ex
  obtain ⟨tb, pb, wb⟩ := hb.ex
  obtain ⟨tc, pc, wc⟩ := hc.ex
  refine ⟨_, pe_chain hr hr' pa pb pc hm, pt_chain hr hr' pa pb pc hm, fun F σ H G ρ d ρ' Q g0 hf q => ?_⟩
  obtain ⟨x, ρ1, e1, f1⟩ := bind_some hf
  obtain ⟨y, ρ2, e2, f2⟩ := bind_some f1
  obtain ⟨z, ρ3, e3, f3⟩ := bind_some f2
  obtain ⟨k3, rfl⟩ := opt_some e3
  obtain ⟨k, ρ4, e4, f4⟩ := bind_some f3
  obtain ⟨k4, rfl⟩ := opt_some e4
  refine wa F σ H G ρ x ρ1 _ g0 e1 fun v H1 G1 g1 s1 r1 => ?_
  refine wb F σ H1 G1 ρ1 y _ _ g1 e2 fun u H2 G2 g2 s2 r2 => ?_
  refine wr F _ σ H2 G2 x y v u _ _ g2 (r1.mono s2.sg) r2 k3 fun w H3 G3 g3 s3 r3 => ?_
  have hz := bool_some k4
  subst hz
  cases r3
  refine ⟨_, rfl, ?_⟩
  cases k with
  | true =>
    have f5 : bindM fc (fun c => optM (g' y c)) ρ2 = some (d, ρ') := f4
    obtain ⟨x3, ρ5, e5, f6⟩ := bind_some f5
    obtain ⟨e6, rfl⟩ := opt_some f6
    refine iteT (wc F σ H3 G3 _ x3 _ _ g3 e5 fun v4 H4 G4 g4 s4 r4 => ?_)
    exact wr' F _ σ H4 G4 y x3 u v4 _ Q g4 ((r2.mono s3.sg).mono s4.sg) r4 e6 fun v5 H5 G5 g5 s5 r5 => q v5 H5 G5 g5 ((((s1.trans s2).trans s3).trans s4).trans s5) r5
  | false =>
    have f5 : some (PyData.bool false, ρ2) = some (d, ρ') := f4
    cases f5
    exact iteF (q _ _ _ g3 ((s1.trans s2).trans s3) (.bl _))
theorem em_chain {op op' : CmpOp} {g g' : D → D → Option D} (ho : OpD X (compareOp op) g) (ho' : OpD X (compareOp op') g') (ha : EM X a fa) (hb : EM X b fb) (hc : EM X c fc) (hm : lastMarks [op, op'] [b, c] = false := by with_unfolding_all rfl) :
    EM X (.Compare a [op, op'] [b, c] pos) (chainM g g' fa fb fc) := by
  obtain ⟨t, p, _, w⟩ := chain_ex ho ho' ha hb hc (pos := pos) hm
  exact ⟨t, p, w⟩
end
end PD
end
/-! PD4: tests, displays, sequences, built-in functions. -/
noncomputable section
namespace PD
open PySem PySem.Spec PyProof.Rows L2
section
variable {X : Cx} {pos : Pos} {e a b c : Expr} {es rest : List Expr} {f fa fb fc : M D} {ta tb : M Bool}
/-! ### tests -/
def boolM (fa : M D) : M Bool := bindM fa fun d => optM (boolO d)
theorem tm_val (ha : EM X e fa) (he : ∀ whole, isTrue e X.env whole = (do let v ← whole; standAt e.pos; holding [v] (truthy v)) := by intro _; rfl) : TM X e (boolM fa) := by
  obtain ⟨t, p, w⟩ := ha.ex
  refine ⟨_, pt_val p he, fun F σ H G ρ b ρ' Q g hf q => ?_⟩
  obtain ⟨d, ρ1, e1, f1⟩ := bind_some hf
  obtain ⟨e2, rfl⟩ := opt_some f1
  refine w F σ H G ρ d _ _ g e1 fun v H1 G1 g1 s1 r1 => ?_
  have hd := bool_some e2
  subst hd
  cases r1
  exact ⟨_, rfl, q H1 G1 g1 s1⟩
theorem tm_wm (h : WM X e ta) : TM X e ta := by
  obtain ⟨t, p, w⟩ := h.ex
  exact ⟨t, p.pt, w⟩
theorem wm_and1 (h : TM X a ta) : WM X (.BoolOp .And [a] pos) ta := by
  obtain ⟨t, p, w⟩ := h.ex
  exact ⟨t, pw_and1 p, w⟩
theorem wm_or1 (h : TM X a ta) : WM X (.BoolOp .Or [a] pos) ta := by
  obtain ⟨t, p, w⟩ := h.ex
  exact ⟨t, pw_or1 p, w⟩
def andT (ta tb : M Bool) : M Bool := bindM ta fun k => if k = true then tb else retM false
def orT (ta tb : M Bool) : M Bool := bindM ta fun k => if k = true then retM true else tb
def notT (ta : M Bool) : M Bool := bindM ta fun k => retM (!k)
theorem wm_and (ha : TM X a ta) (hb : WM X (.BoolOp .And (b :: rest) pos) tb) : WM X (.BoolOp .And (a :: b :: rest) pos) (andT ta tb) := by
  obtain ⟨t, p, w⟩ := ha.ex
  obtain ⟨t2, p2, w2⟩ := hb.ex
  refine ⟨_, pw_and p p2, fun F σ H G ρ k ρ' Q g hf q => ?_⟩
  obtain ⟨k1, ρ1, e1, f1⟩ := bind_some hf
  refine w F σ H G ρ k1 ρ1 _ g e1 fun H1 G1 g1 s1 => ?_
  cases k1 with
  | true => exact iteT (w2 F σ H1 G1 ρ1 k ρ' Q g1 f1 fun H2 G2 g2 s2 => q H2 G2 g2 (s1.trans s2))
  | false =>
    have f2 : some (false, ρ1) = some (k, ρ') := f1
    cases f2
    exact iteF (q H1 G1 g1 s1)
theorem wm_or (ha : TM X a ta) (hb : WM X (.BoolOp .Or (b :: rest) pos) tb) : WM X (.BoolOp .Or (a :: b :: rest) pos) (orT ta tb) := by
  obtain ⟨t, p, w⟩ := ha.ex
  obtain ⟨t2, p2, w2⟩ := hb.ex
  refine ⟨_, pw_or p p2, fun F σ H G ρ k ρ' Q g hf q => ?_⟩
  obtain ⟨k1, ρ1, e1, f1⟩ := bind_some hf
  refine w F σ H G ρ k1 ρ1 _ g e1 fun H1 G1 g1 s1 => ?_
  cases k1 with
  | false => exact iteF (w2 F σ H1 G1 ρ1 k ρ' Q g1 f1 fun H2 G2 g2 s2 => q H2 G2 g2 (s1.trans s2))
  | true =>
    have f2 : some (true, ρ1) = some (k, ρ') := f1
    cases f2
    exact iteT (q H1 G1 g1 s1)
theorem tm_not (ha : TM X a ta) : TM X (.UnaryOp .Not a pos) (notT ta) := by
  obtain ⟨t, p, w⟩ := ha.ex
  refine ⟨_, pt_not p, fun F σ H G ρ k ρ' Q g hf q => ?_⟩
  obtain ⟨k1, ρ1, e1, f1⟩ := bind_some hf
  have f2 : some (!k1, ρ1) = some (k, ρ') := f1
  cases f2
  exact w F σ H G ρ k1 _ _ g e1 fun H1 G1 g1 s1 => q H1 G1 g1 s1
/-! ### and, or, not as values -/
theorem em_one {op} (h : EM X a fa) : EM X (.BoolOp op [a] pos) fa := by
  obtain ⟨t, p, w⟩ := h.ex
  exact ⟨t, pe_one p, w⟩
def andV (fa fb : M D) : M D := bindM (boolM fa) fun k => if k = true then fb else retM (.bool false)
def orV (fa fb : M D) : M D := bindM (boolM fa) fun k => if k = true then retM (.bool true) else fb
theorem em_and (ha : EM X a fa) (hb : EM X (.BoolOp .And (b :: rest) pos) fb) : EM X (.BoolOp .And (a :: b :: rest) pos) (andV fa fb) := by
  obtain ⟨t, p, w⟩ := ha.ex
  obtain ⟨t2, p2, w2⟩ := hb.ex
  refine ⟨_, pe_and p p2, fun F σ H G ρ k ρ' Q g hf q => ?_⟩
  obtain ⟨k1, ρ1, e0, f1⟩ := bind_some hf
  obtain ⟨d1, ρ2, e1, f2⟩ := bind_some e0
  obtain ⟨e2, rfl⟩ := opt_some f2
  have hd := bool_some e2
  subst hd
  refine w F σ H G ρ _ _ _ g e1 fun v H1 G1 g1 s1 r1 => ?_
  cases r1
  refine ⟨_, rfl, ?_⟩
  cases k1 with
  | true => exact iteT (w2 F σ H1 G1 _ k ρ' Q g1 f1 fun v H2 G2 g2 s2 r2 => q v H2 G2 g2 (s1.trans s2) r2)
  | false =>
    have f3 : some (PyData.bool false, ρ2) = some (k, ρ') := f1
    cases f3
    exact iteF (q _ H1 G1 g1 s1 (.bl _))
theorem em_or (ha : EM X a fa) (hb : EM X (.BoolOp .Or (b :: rest) pos) fb) : EM X (.BoolOp .Or (a :: b :: rest) pos) (orV fa fb) := by
  obtain ⟨t, p, w⟩ := ha.ex
  obtain ⟨t2, p2, w2⟩ := hb.ex
  refine ⟨_, pe_or p p2, fun F σ H G ρ k ρ' Q g hf q => ?_⟩
  obtain ⟨k1, ρ1, e0, f1⟩ := bind_some hf
  obtain ⟨d1, ρ2, e1, f2⟩ := bind_some e0
  obtain ⟨e2, rfl⟩ := opt_some f2
  have hd := bool_some e2
  subst hd
  refine w F σ H G ρ _ _ _ g e1 fun v H1 G1 g1 s1 r1 => ?_
  cases r1
  refine ⟨_, rfl, ?_⟩
  cases k1 with
  | false => exact iteF (w2 F σ H1 G1 _ k ρ' Q g1 f1 fun v H2 G2 g2 s2 r2 => q v H2 G2 g2 (s1.trans s2) r2)
  | true =>
    have f3 : some (PyData.bool true, ρ2) = some (k, ρ') := f1
    cases f3
    exact iteT (q _ H1 G1 g1 s1 (.bl _))
theorem em_not (ha : EM X a fa) : EM X (.UnaryOp .Not a pos) (bindM (boolM fa) fun k => retM (.bool (!k))) := by
  obtain ⟨t, p, w⟩ := ha.ex
  refine ⟨_, pe_not p, fun F σ H G ρ k ρ' Q g hf q => ?_⟩
  obtain ⟨k1, ρ1, e0, f1⟩ := bind_some hf
  obtain ⟨d1, ρ2, e1, f2⟩ := bind_some e0
  obtain ⟨e2, rfl⟩ := opt_some f2
  have hd := bool_some e2
  subst hd
  have f3 : some (PyData.bool (!k1), ρ2) = some (k, ρ') := f1
  cases f3
  refine w F σ H G ρ _ _ _ g e1 fun v H1 G1 g1 s1 r1 => ?_
  cases r1
  exact ⟨_, rfl, q _ H1 G1 g1 s1 (.bl _)⟩
def ifM {α : Type} (t : M Bool) (fa fb : M α) : M α := bindM t fun k => if k = true then fa else fb
theorem em_if (hc : TM X c ta) (ha : EM X a fa) (hb : EM X b fb) : EM X (.IfExp c a b pos) (ifM ta fa fb) := by
  obtain ⟨t, p, w⟩ := hc.ex
  obtain ⟨t2, p2, w2⟩ := ha.ex
  obtain ⟨t3, p3, w3⟩ := hb.ex
  refine ⟨_, pe_ifExp p p2 p3, fun F σ H G ρ d ρ' Q g hf q => ?_⟩
  obtain ⟨k1, ρ1, e1, f1⟩ := bind_some hf
  refine w F σ H G ρ k1 ρ1 _ g e1 fun H1 G1 g1 s1 => ?_
  cases k1 with
  | true => exact iteT (w2 F σ H1 G1 ρ1 d ρ' Q g1 f1 fun v H2 G2 g2 s2 r2 => q v H2 G2 g2 (s1.trans s2) r2)
  | false => exact iteF (w3 F σ H1 G1 ρ1 d ρ' Q g1 f1 fun v H2 G2 g2 s2 r2 => q v H2 G2 g2 (s1.trans s2) r2)
/-! ### displays -/
theorem am_nil : AM X [] (retM []) := ⟨⟨_, pa_nil, fun F σ H G ρ ds ρ' Q g hf q => by
  cases hf
  exact q [] H G g Tr.refl .nil⟩, fun ρ ds ρ' h => by cases h; rfl⟩
def consM (fa : M D) (fs : M (List D)) : M (List D) := bindM fa fun d => bindM fs fun ds => retM (d :: ds)
theorem am_cons {fs : M (List D)} (ha : EM X e fa) (hs : AM X es fs) (hst : starEach (e :: es) X.env = (false, eval e X.env) :: starEach es X.env := by rfl) : AM X (e :: es) (consM fa fs) := by
  obtain ⟨t, p, w⟩ := ha.ex
  obtain ⟨t2, p2, w2⟩ := hs.ex
  refine ⟨⟨_, pa_cons p p2 hst, fun F σ H G ρ ds ρ' Q g hf q => ?_⟩, fun ρ ds ρ' hf => ?_⟩
  · obtain ⟨d, ρ1, e1, f1⟩ := bind_some hf
    obtain ⟨ds', ρ2, e2, f2⟩ := bind_some f1
    have f3 : some (d :: ds', ρ2) = some (ds, ρ') := f2
    cases f3
    refine w F σ H G ρ d ρ1 _ g e1 fun v H1 G1 g1 s1 r1 => ?_
    exact w2 F σ H1 G1 ρ1 ds' _ _ g1 e2 fun vs H2 G2 g2 s2 r2 => q (v :: vs) H2 G2 g2 (s1.trans s2) (.cons (r1.mono s2.sg) r2)
  · obtain ⟨d, ρ1, e1, f1⟩ := bind_some hf
    obtain ⟨ds', ρ2, e2, f2⟩ := bind_some f1
    have f3 : some (d :: ds', ρ2) = some (ds, ρ') := f2
    cases f3
    rw [List.length_cons, List.length_cons, hs.len _ _ _ e2]
theorem em_tup {fs : M (List D)} {x1} (h : AM X es fs) (hl : es.length ≤ 1000 := by decide) : EM X (.Tuple es x1 pos) (bindM fs fun ds => retM (.tuple ds)) := by
  obtain ⟨t, p, w⟩ := h.ex
  refine ⟨_, pe_tup p, fun F σ H G ρ d ρ' Q g hf q => ?_⟩
  obtain ⟨ds, ρ1, e1, f1⟩ := bind_some hf
  have f3 : some (PyData.tuple ds, ρ1) = some (d, ρ') := f1
  cases f3
  refine w F σ H G ρ ds _ _ g e1 fun vs H1 G1 g1 s1 r1 => ⟨?_, fun p np => ?_⟩
  · rw [r1.length, h.len _ _ _ e1]; exact Nat.le_of_lt (small1000 hl)
  · obtain ⟨g2, s2⟩ := g1.new (o := .tup vs) np
    exact q _ _ _ g2 (s1.trans s2) (.tup (SqT.of upd_same) (r1.mono s2.sg))
theorem eo_lst {fs : M (List D)} (h : AM X es fs) (hl : es.length ≤ 1000 := by decide) : EO X (.List es pos) fs := by
  obtain ⟨t, p, w⟩ := h.ex
  refine ⟨_, pe_lst p, fun F σ H G ρ ds ρ' Q g hf q => ?_⟩
  refine w F σ H G ρ ds _ _ g hf fun vs H1 G1 g1 s1 r1 => ⟨?_, fun p np => ?_⟩
  · rw [r1.length, h.len _ _ _ hf]; exact Nat.le_of_lt (small1000 hl)
  · obtain ⟨g2, s2⟩ := g1.newO (o := .lst vs) np
    obtain ⟨k1, k2, k3⟩ := g1.fresh np
    exact q p vs _ G1 g2 (s1.trans s2) (s1.back np) k2 upd_same r1 k3
/-! ### items, slices -/
theorem atI_rep {K : PySem.W.Frag} {G : Hp} {xs : List V} {ds : List D} {k : Int} {d : D} (r : Reps K G xs ds) (h : atI ds k = some d) : ∃ v, atI xs k = some v ∧ Rep K G v d := by
  unfold atI at h ⊢
  rw [r.length]
  cases q : ixN ds.length k with
  | none => rw [q] at h; cases h
  | some j =>
    rw [q] at h
    exact r.get h
abbrev ixD (r : Rf) (i : D) : List Sl → Option D := fun ρ => match look r ρ, i with
  | some (_, ds), .int k => atI ds k
  | _, _ => none
def lookM {α : Type} (k : List Sl → Option α) : M α := fun ρ => match k ρ with
  | some a => some (a, ρ)
  | none => none
theorem look_some {α : Type} {k : List Sl → Option α} {ρ ρ' : List Sl} {a : α} (h : lookM k ρ = some (a, ρ')) : k ρ = some a ∧ ρ = ρ' := by
  simp only [lookM] at h
  split at h
  · cases h; exact ⟨by assumption, rfl⟩
  · cases h
theorem em_ix {fr : M Rf} (ha : CM X a fr) (hb : EM X b fb) (hs : PlainIx b := by intro _ _; rfl) : EM X (.Subscript a b pos) (bindM fr fun r => bindM fb fun i => lookM (ixD r i)) := by
  obtain ⟨t, p, w⟩ := ha.ex
  obtain ⟨t2, p2, w2⟩ := hb.ex
  refine ⟨_, pe_ix ix_seq p p2 hs, fun F σ H G ρ d ρ' Q g hf q => ?_⟩
  obtain ⟨r, ρ1, e1, f1⟩ := bind_some hf
  obtain ⟨i, ρ2, e2, f2⟩ := bind_some f1
  obtain ⟨e3, rfl⟩ := look_some f2
  refine w F σ H G ρ r ρ1 _ g e1 fun v H1 G1 g1 s1 r1 => ?_
  refine w2 F σ H1 G1 ρ1 i _ _ g1 e2 fun u H2 G2 g2 s2 r2 => ?_
  simp only [ixD] at e3
  split at e3
  · rename_i b ds k e4
    cases r2
    obtain ⟨l, xs, rfl, hq, hr⟩ := look_ok g2 (r1.mono s2.sg) e4
    obtain ⟨x, hx, rx⟩ := atI_rep hr e3
    cases b with
    | true => exact .inr (.inl ⟨l, xs, k, x, rfl, rfl, same_seqT g2.same hq, hx, q x H2 G2 g2 (s1.trans s2) rx⟩)
    | false => exact .inl ⟨l, xs, k, x, rfl, rfl, hq, hx, q x H2 G2 g2 (s1.trans s2) rx⟩
  · cases e3
/-- a slice's bound -/
structure OM (X : Cx) (o : Option Expr) (f : M (Option Int)) : Prop where
  ex : ∃ t, PO X o t ∧ ∀ (F : Fr) (σ : St) (H G : Hp) (ρ : List Sl) (d : Option Int) (ρ' : List Sl) (Q : Option Int → Hp → Prop), Good X.K F ρ σ H G → f ρ = some (d, ρ') →
    (∀ H' G', Good X.K F ρ' σ H' G' → Tr σ ρ H G ρ' H' G' → Q d H') → t σ H Q
theorem om_none : OM X none (retM none) := ⟨⟨_, po_none, fun F σ H G ρ d ρ' Q g hf q => by cases hf; exact q H G g Tr.refl⟩⟩
abbrev intO : D → Option Int
  | .int i => some i
  | _ => none
theorem int_some {d : D} {i : Int} (h : intO d = some i) : d = .int i := by
  unfold intO at h
  split at h
  · cases h; rfl
  · cases h
def intM (f : M D) : M Int := bindM f fun d => optM (intO d)
theorem om_some (h : EM X e fa) : OM X (some e) (bindM (intM fa) fun i => retM (some i)) := by
  obtain ⟨t, p, w⟩ := h.ex
  refine ⟨_, po_some p, fun F σ H G ρ d ρ' Q g hf q => ?_⟩
  obtain ⟨i, ρ1, e1, f1⟩ := bind_some hf
  obtain ⟨d1, ρ2, e2, f2⟩ := bind_some e1
  obtain ⟨e3, rfl⟩ := opt_some f2
  have hd := int_some e3
  subst hd
  have f3 : some (some i, ρ2) = some (d, ρ') := f1
  cases f3
  refine w F σ H G ρ _ _ _ g e2 fun v H1 G1 g1 s1 r1 => ?_
  cases r1
  exact ⟨_, rfl, q H1 G1 g1 s1⟩
abbrev cutD (ds : List D) (lo hi : Option Int) : List D := (ds.drop (HT.sIx ds.length 0 lo)).take (HT.sIx ds.length ds.length hi - HT.sIx ds.length 0 lo)
theorem cut_rep {K : PySem.W.Frag} {G : Hp} {xs : List V} {ds : List D} (lo hi : Option Int) (r : Reps K G xs ds) : Reps K G (cutV xs lo hi) (cutD ds lo hi) := by
  unfold cutV cutD
  rw [r.length]
  exact (r.drop _).take _
/-- a slice of a sequence: a list's is a list, a tuple's a tuple -/
abbrev sliceD (r : Rf) (lo hi : Option Int) : List Sl → Option D := fun ρ => match look r ρ with
  | some (true, ds) => some (.tuple (cutD ds lo hi))
  | some (false, ds) => some (.list (cutD ds lo hi))
  | none => none
theorem cut_whole {ds : List D} {lo hi : Option Int} (h : HT.sIx ds.length 0 lo = 0 ∧ HT.sIx ds.length ds.length hi = ds.length) : cutD ds lo hi = ds := by
  unfold cutD
  rw [h.1, h.2, List.drop_zero, Nat.sub_zero, List.take_length]
theorem em_slice {fr : M Rf} {lo hi : Option Expr} {fl fh : M (Option Int)} {p2} (ha : CM X a fr) (hl : OM X lo fl) (hh : OM X hi fh) : EM X (.Subscript a (.Slice lo hi none p2) pos) (bindM fr fun r => bindM fl fun l => bindM fh fun h => lookM (sliceD r l h)) := by
  obtain ⟨t, p, w⟩ := ha.ex
  obtain ⟨t2, q2, w2⟩ := hl.ex
  obtain ⟨t3, q3, w3⟩ := hh.ex
  refine ⟨_, pe_slice (sl_list.or sl_tupA) p q2 q3, fun F σ H G ρ d ρ' Q g hf q => ?_⟩
  obtain ⟨r, ρ1, e1, f1⟩ := bind_some hf
  obtain ⟨l, ρ2, e2, f2⟩ := bind_some f1
  obtain ⟨u, ρ3, e3, f3⟩ := bind_some f2
  obtain ⟨e4, rfl⟩ := look_some f3
  refine w F σ H G ρ r ρ1 _ g e1 fun v H1 G1 g1 s1 r1 => ?_
  refine w2 F σ H1 G1 ρ1 l _ _ g1 e2 fun H2 G2 g2 s2 => ?_
  refine w3 F σ H2 G2 ρ2 u _ _ g2 e3 fun H3 G3 g3 s3 => ?_
  simp only [sliceD] at e4
  split at e4
  · rename_i ds e5
    cases e4
    obtain ⟨l', xs, rfl, hq', hr⟩ := look_ok g3 ((r1.mono s2.sg).mono s3.sg) e5
    refine .inr ⟨l', xs, rfl, same_seqT g3.same (show SqT X.K G3 l' xs from hq'), fun hw => ?_, fun _ p np => ?_⟩
    · rw [hr.length] at hw
      rw [cut_whole hw] at q
      exact q _ H3 G3 g3 ((s1.trans s2).trans s3) (.tup (show SqT X.K G3 l' xs from hq') hr)
    · obtain ⟨g4, s4⟩ := g3.new (o := .tup _) np
      exact q _ _ _ g4 (((s1.trans s2).trans s3).trans s4) (.tup (SqT.of upd_same) (cut_rep l u (hr.mono s4.sg)))
  · rename_i ds e5
    cases e4
    obtain ⟨l', xs, rfl, hq, hr⟩ := look_ok g3 ((r1.mono s2.sg).mono s3.sg) e5
    refine .inl ⟨l', xs, rfl, hq, fun p np => ?_⟩
    obtain ⟨g4, s4⟩ := g3.new (o := .lst _) np
    exact q _ _ _ g4 (((s1.trans s2).trans s3).trans s4) (.lst upd_same (cut_rep l u (hr.mono s4.sg)))
  · cases e4
end
end PD
end
/-! PD5: built-in functions, calls. -/
noncomputable section
namespace PD
open PySem PySem.Spec PyProof.Rows L2
/-- the built-in names that are free in the text -/
structure Blt (mg : Str → Option Value) : Prop where
  len : mg "len" = none
  range : mg "range" = none
  list : mg "list" = none
  tuple : mg "tuple" = none
  sum : mg "sum" = none
  all : mg "all" = none
  any : mg "any" = none
  zip : mg "zip" = none
  enumerate : mg "enumerate" = none
  sorted : mg "sorted" = none
  set : mg "set" = none
  int : mg "int" = none
  bool : mg "bool" = none
  str : mg "str" = none
  isinstance : mg "isinstance" = none
  max : mg "max" = none
  min : mg "min" = none
  abs : mg "abs" = none
section
variable {X : Cx} {pos p : Pos} {x : Str} {e a b c : Expr} {es rest : List Expr} {f fa fb fc : M D} {id T : String} {r : List V → Hp → VK → Prop} {fr : M Rf} {fs : M (List D)}
/-! ### one container -/
def contM {α : Type} (g : Bool → List D → Option α) (fr : M Rf) : M α := bindM fr fun r => lookM fun ρ => match look r ρ with
  | some (b, ds) => g b ds
  | none => none
theorem cont_some {α : Type} {g : Bool → List D → Option α} {ρ ρ' : List Sl} {d : α} (h : contM g fr ρ = some (d, ρ')) : ∃ r k ds, fr ρ = some (r, ρ') ∧ look r ρ' = some (k, ds) ∧ g k ds = some d := by
  obtain ⟨r1, ρ1, e1, f1⟩ := bind_some h
  obtain ⟨e2, rfl⟩ := look_some f1
  split at e2
  · rename_i k ds e3
    exact ⟨r1, k, ds, e1, e3, e2⟩
  · cases e2
theorem em_cont {rr : List V → Hp → VK → Prop} {g : Bool → List D → Option D} (hp : ∀ t, PA X [a] t → PE X e (tCB rr t)) (ha : CM X a fr) (hst : starEach [a] X.env = (false, eval a X.env) :: starEach [] X.env)
    (wr : ∀ (F : Fr) (ρ : List Sl) (σ : St) (H G : Hp) (k : Bool) (l : Addr) (xs : List V) (ds : List D) (d : D) (Q : VK), Good X.K F ρ σ H G → SqV X.K G H k l xs → Reps X.K G xs ds → g k ds = some d → PostE X.K F σ ρ H G ρ d Q → rr [.ref l] H Q) :
    EM X e (contM g fr) := by
  obtain ⟨t, q, w⟩ := ha.ex
  refine ⟨_, hp _ (pa_cons q pa_nil hst), fun F σ H G ρ d ρ' Q g0 hf q => ?_⟩
  obtain ⟨r1, k, ds, e1, e2, e3⟩ := cont_some hf
  refine w F σ H G ρ r1 _ _ g0 e1 fun v H1 G1 g1 s1 k1 => ?_
  obtain ⟨l, xs, rfl, hq, hr⟩ := look_ok g1 k1 e2
  exact wr F _ σ H1 G1 k l xs ds d Q g1 hq hr e3 fun v' H' G' g' s' r' => q v' H' G' g' (s1.trans s') r'
theorem em_len (ha : CM X a fr) (hm : X.mg "len" = none) (hg : Gl X "len" := by rfl) (hst : starEach [a] X.env = (false, eval a X.env) :: starEach [] X.env := by rfl) (hpl : (backTo pos (starEach [] X.env)).any (·.1) = false := by rfl) :
    EM X (.Call (.Name "len" p) [a] [] pos) (contM (fun _ ds => some (.int ds.length)) fr) :=
  em_cont (fun t h => pe_callB call_len_seq hg hm PySem.boot_len h (he := hst) (hpl := hpl)) ha hst fun F ρ σ H G k l xs ds d Q g hq hr hg' q => by
    cases hg'
    refine ⟨l, xs, rfl, hq.either g.same, ?_⟩
    rw [hr.length]
    exact q _ _ _ g Tr.refl (.int _)
theorem em_tupleOf (ha : CM X a fr) (hm : X.mg "tuple" = none) (hg : Gl X "tuple" := by rfl) (hst : starEach [a] X.env = (false, eval a X.env) :: starEach [] X.env := by rfl) (hpl : (backTo pos (starEach [] X.env)).any (·.1) = false := by rfl) :
    EM X (.Call (.Name "tuple" p) [a] [] pos) (contM (fun _ ds => some (.tuple ds)) fr) :=
  em_cont (fun t h => pe_callTy call_tuple_of hg hm PyProof.Rows.boot_tuple h (he := hst) (hpl := hpl)) ha hst fun F ρ σ H G k l xs ds d Q g hq hr hg' q => by
    cases hg'
    cases k with
    | true => exact ⟨l, xs, rfl, .inr ⟨same_seqT g.same hq, q _ _ _ g Tr.refl (.tup hq hr)⟩⟩
    | false =>
      refine ⟨l, xs, rfl, .inl ⟨hq, fun p np => ?_⟩⟩
      obtain ⟨g2, s2⟩ := g.new (o := .tup xs) np
      exact q _ _ _ g2 s2 (.tup (SqT.of upd_same) (hr.mono s2.sg))
abbrev intsO : List D → Option (List Int)
  | [] => some []
  | d :: ds => match intO d, intsO ds with
    | some i, some r => some (i :: r)
    | _, _ => none
theorem ints_some : ∀ {ds : List D} {ns : List Int}, intsO ds = some ns → ds = ns.map .int
  | [], ns, h => by cases h; rfl
  | d :: ds, ns, h => by
    unfold intsO at h
    split at h
    · rename_i i r e1 e2
      cases h
      rw [int_some e1, ints_some e2]; rfl
    · cases h
abbrev boolsO : List D → Option (List Bool)
  | [] => some []
  | d :: ds => match boolO d, boolsO ds with
    | some i, some r => some (i :: r)
    | _, _ => none
theorem bools_some : ∀ {ds : List D} {ns : List Bool}, boolsO ds = some ns → ds = ns.map .bool
  | [], ns, h => by cases h; rfl
  | d :: ds, ns, h => by
    unfold boolsO at h
    split at h
    · rename_i i r e1 e2
      cases h
      rw [bool_some e1, bools_some e2]; rfl
    · cases h
abbrev listG (g : List D → Option D) : Bool → List D → Option D := fun k ds => if k = true then none else g ds
theorem listG_some {g : List D → Option D} {k : Bool} {ds : List D} {d : D} (h : listG g k ds = some d) : k = false ∧ g ds = some d := by
  cases k with
  | true => simp [listG] at h
  | false => exact ⟨rfl, by simpa [listG] using h⟩
theorem em_sum (ha : CM X a fr) (hm : X.mg "sum" = none) (hg : Gl X "sum" := by rfl) (hst : starEach [a] X.env = (false, eval a X.env) :: starEach [] X.env := by rfl) (hpl : (backTo pos (starEach [] X.env)).any (·.1) = false := by rfl) (hc : X.calm = true := by rfl) :
    EM X (.Call (.Name "sum" p) [a] [] pos) (contM (listG fun ds => (intsO ds).map fun ns => .int ns.sum) fr) :=
  em_cont (fun t h => pe_callB (cr_sum hc) hg hm (by decide +kernel) h (he := hst) (hpl := hpl)) ha hst fun F ρ σ H G k l xs ds d Q g hq hr hg' q => by
    obtain ⟨rfl, h1⟩ := listG_some hg'
    obtain ⟨ns, h2, rfl⟩ := Option.map_eq_some_iff.mp h1
    have e := ints_some h2
    subst e
    have e2 := hr.ints
    subst e2
    exact ⟨l, ns, rfl, hq, q _ _ _ g Tr.refl (.int _)⟩
theorem em_all (ha : CM X a fr) (hm : X.mg "all" = none) (hg : Gl X "all" := by rfl) (hst : starEach [a] X.env = (false, eval a X.env) :: starEach [] X.env := by rfl) (hpl : (backTo pos (starEach [] X.env)).any (·.1) = false := by rfl) (hc : X.calm = true := by rfl) :
    EM X (.Call (.Name "all" p) [a] [] pos) (contM (listG fun ds => (boolsO ds).map fun ns => .bool (ns.all fun b => b)) fr) :=
  em_cont (fun t h => pe_callB (cr_all hc) hg hm (by decide +kernel) h (he := hst) (hpl := hpl)) ha hst fun F ρ σ H G k l xs ds d Q g hq hr hg' q => by
    obtain ⟨rfl, h1⟩ := listG_some hg'
    obtain ⟨ns, h2, rfl⟩ := Option.map_eq_some_iff.mp h1
    have e := bools_some h2
    subst e
    have e2 := hr.bls
    subst e2
    exact ⟨l, ns, rfl, hq, q _ _ _ g Tr.refl (.bl _)⟩
theorem em_any (ha : CM X a fr) (hm : X.mg "any" = none) (hg : Gl X "any" := by rfl) (hst : starEach [a] X.env = (false, eval a X.env) :: starEach [] X.env := by rfl) (hpl : (backTo pos (starEach [] X.env)).any (·.1) = false := by rfl) (hc : X.calm = true := by rfl) :
    EM X (.Call (.Name "any" p) [a] [] pos) (contM (listG fun ds => (boolsO ds).map fun ns => .bool (ns.any fun b => b)) fr) :=
  em_cont (fun t h => pe_callB (cr_any hc) hg hm (by decide +kernel) h (he := hst) (hpl := hpl)) ha hst fun F ρ σ H G k l xs ds d Q g hq hr hg' q => by
    obtain ⟨rfl, h1⟩ := listG_some hg'
    obtain ⟨ns, h2, rfl⟩ := Option.map_eq_some_iff.mp h1
    have e := bools_some h2
    subst e
    have e2 := hr.bls
    subst e2
    exact ⟨l, ns, rfl, hq, q _ _ _ g Tr.refl (.bl _)⟩
/-- a new list of a container -/
theorem eo_cont {rr : List V → Hp → VK → Prop} {g : Bool → List D → Option (List D)} (hp : ∀ t, PA X [a] t → PE X e (tCB rr t)) (ha : CM X a fr) (hst : starEach [a] X.env = (false, eval a X.env) :: starEach [] X.env)
    (wr : ∀ (F : Fr) (ρ : List Sl) (σ : St) (H G : Hp) (k : Bool) (l : Addr) (xs : List V) (ds ds' : List D) (Q : VK), Good X.K F ρ σ H G → SqV X.K G H k l xs → Reps X.K G xs ds → g k ds = some ds' →
      (∀ q ys, H q = none → Reps X.K G ys ds' → Q (.ref q) (upd H q (.lst ys))) → rr [.ref l] H Q) :
    EO X e (contM g fr) := by
  obtain ⟨t, q, w⟩ := ha.ex
  refine ⟨_, hp _ (pa_cons q pa_nil hst), fun F σ H G ρ d ρ' Q g0 hf q => ?_⟩
  obtain ⟨r1, k, ds, e1, e2, e3⟩ := cont_some hf
  refine w F σ H G ρ r1 _ _ g0 e1 fun v H1 G1 g1 s1 k1 => ?_
  obtain ⟨l, xs, rfl, hq, hr⟩ := look_ok g1 k1 e2
  refine wr F _ σ H1 G1 k l xs ds d Q g1 hq hr e3 fun p ys np ry => ?_
  obtain ⟨g2, s2⟩ := g1.newO (o := .lst ys) np
  obtain ⟨k1, k2, k3⟩ := g1.fresh np
  exact q p ys _ G1 g2 (s1.trans s2) (s1.back np) k2 upd_same ry k3
theorem eo_list (ha : CM X a fr) (hm : X.mg "list" = none) (hg : Gl X "list" := by rfl) (hst : starEach [a] X.env = (false, eval a X.env) :: starEach [] X.env := by rfl) (hpl : (backTo pos (starEach [] X.env)).any (·.1) = false := by rfl) :
    EO X (.Call (.Name "list" p) [a] [] pos) (contM (fun _ ds => some ds) fr) :=
  eo_cont (fun t h => pe_callTy call_list_of hg hm PyProof.Rows.boot_list h (he := hst) (hpl := hpl)) ha hst fun F ρ σ H G k l xs ds ds' Q g hq hr hg' q => by
    cases hg'
    exact ⟨l, xs, rfl, hq.either g.same, fun p np => q p xs np hr⟩
/-- the ints of a list, ascending -/
abbrev sortI (ns : List Int) : List Int := ns.mergeSort (fun a b => decide (a ≤ b))
theorem sortI_uniq {ns ms : List Int} (h : ms.Perm ns) (s : ms.Pairwise (· ≤ ·)) : ms = sortI ns := by
  refine List.Perm.eq_of_pairwise (le := (· ≤ ·)) (fun a b _ _ h1 h2 => Int.le_antisymm h1 h2) s ?_ (h.trans (List.mergeSort_perm _ _).symm)
  have := List.pairwise_mergeSort (le := fun a b : Int => decide (a ≤ b)) (fun a b c h1 h2 => by simp at *; omega) (fun a b => by simp; omega) ns
  exact this.imp fun h => by simpa using h
theorem eo_sorted (ha : CM X a fr) (hm : X.mg "sorted" = none) (hg : Gl X "sorted" := by rfl) (hst : starEach [a] X.env = (false, eval a X.env) :: starEach [] X.env := by rfl) (hpl : (backTo pos (starEach [] X.env)).any (·.1) = false := by rfl) :
    EO X (.Call (.Name "sorted" p) [a] [] pos) (contM (fun k ds => if k = true then none else (intsO ds).map fun ns => (sortI ns).map .int) fr) :=
  eo_cont (fun t h => pe_callB cr_sortedI hg hm (by decide +kernel) h (he := hst) (hpl := hpl)) ha hst fun F ρ σ H G k l xs ds ds' Q g hq hr hg' q => by
    cases k with
    | true => simp at hg'
    | false =>
      simp only [Bool.false_eq_true, if_false] at hg'
      obtain ⟨ns, h2, rfl⟩ := Option.map_eq_some_iff.mp hg'
      have e := ints_some h2
      subst e
      have e2 := hr.ints
      subst e2
      refine ⟨l, ns, rfl, hq, fun ns' p hp hs np => ?_⟩
      rw [sortI_uniq hp hs]
      exact q p _ np (reps_ints _)
/-! ### built-in functions of data -/
structure CallD (X : Cx) (f : Value) (g : List D → Option D) : Prop where
  ex : ∃ r, CallR X f r ∧ ∀ (F : Fr) (ρ : List Sl) (σ : St) (H G : Hp) (ds : List D) (vs : List V) (d : D) (Q : VK), Good X.K F ρ σ H G → Reps X.K G vs ds → g ds = some d → PostE X.K F σ ρ H G ρ d Q → r vs H Q
theorem em_callB {g : List D → Option D} (hc : CallD X (.builtin id) g) (hs : AM X (e :: es) fs) (hm : X.mg x = none) (hv : bootBuiltins x = some (.builtin id)) (hg : Gl X x := by rfl) (hn : x ≠ "__name__" := by decide) (hdb : (x == ("__debug__" : Str)) = false := by decide)
    (he : starEach (e :: es) X.env = (false, eval e X.env) :: starEach es X.env := by rfl) (hpl : (backTo pos (starEach es X.env)).any (·.1) = false := by rfl) : EM X (.Call (.Name x p) (e :: es) [] pos) (bindM fs fun ds => optM (g ds)) := by
  obtain ⟨r, hr, wr⟩ := hc.ex
  obtain ⟨t, q, w⟩ := hs.ex
  refine ⟨_, pe_callB hr hg hm hv q hn hdb he hpl, fun F σ H G ρ d ρ' Q g0 hf q => ?_⟩
  obtain ⟨ds, ρ1, e1, f1⟩ := bind_some hf
  obtain ⟨e2, rfl⟩ := opt_some f1
  exact w F σ H G ρ ds _ _ g0 e1 fun vs H1 G1 g1 s1 r1 => wr F _ σ H1 G1 ds vs d Q g1 r1 e2 fun v' H' G' g' s' r' => q v' H' G' g' (s1.trans s') r'
theorem em_callTy {g : List D → Option D} (hc : CallD X (.type T) g) (hs : AM X (e :: es) fs) (hm : X.mg x = none) (hv : bootBuiltins x = some (.type T)) (hg : Gl X x := by rfl) (hn : x ≠ "__name__" := by decide) (hdb : (x == ("__debug__" : Str)) = false := by decide)
    (he : starEach (e :: es) X.env = (false, eval e X.env) :: starEach es X.env := by rfl) (hpl : (backTo pos (starEach es X.env)).any (·.1) = false := by rfl) : EM X (.Call (.Name x p) (e :: es) [] pos) (bindM fs fun ds => optM (g ds)) := by
  obtain ⟨r, hr, wr⟩ := hc.ex
  obtain ⟨t, q, w⟩ := hs.ex
  refine ⟨_, pe_callTy hr hg hm hv q hn hdb he hpl, fun F σ H G ρ d ρ' Q g0 hf q => ?_⟩
  obtain ⟨ds, ρ1, e1, f1⟩ := bind_some hf
  obtain ⟨e2, rfl⟩ := opt_some f1
  exact w F σ H G ρ ds _ _ g0 e1 fun vs H1 G1 g1 s1 r1 => wr F _ σ H1 G1 ds vs d Q g1 r1 e2 fun v' H' G' g' s' r' => q v' H' G' g' (s1.trans s') r'
theorem reps1 {K : PySem.W.Frag} {G : Hp} {vs : List V} {d : D} (h : Reps K G vs [d]) : ∃ v, vs = [v] ∧ Rep K G v d := by
  cases h with
  | cons h1 h2 => cases h2; exact ⟨_, rfl, h1⟩
theorem reps2 {K : PySem.W.Frag} {G : Hp} {vs : List V} {d d' : D} (h : Reps K G vs [d, d']) : ∃ v w, vs = [v, w] ∧ Rep K G v d ∧ Rep K G w d' := by
  cases h with
  | cons h1 h2 =>
    obtain ⟨w, rfl, h3⟩ := reps1 h2
    exact ⟨_, _, rfl, h1, h3⟩
abbrev intG : List D → Option D
  | [.int i] => some (.int i)
  | [.bool k] => some (.int (if k = true then 1 else 0))
  | _ => none
theorem c_int : CallD X (.type "int") intG := by
  refine ⟨_, call_int1, fun F ρ σ H G ds vs d Q g hr hg q => ?_⟩
  unfold intG at hg
  split at hg
  · cases hg
    obtain ⟨v, rfl, h⟩ := reps1 hr
    cases h
    exact .inl ⟨_, rfl, q _ _ _ g Tr.refl (.int _)⟩
  · cases hg
    obtain ⟨v, rfl, h⟩ := reps1 hr
    cases h
    exact .inr ⟨_, rfl, q _ _ _ g Tr.refl (.int _)⟩
  · cases hg
abbrev absG : List D → Option D
  | [.int i] => some (.int (if i < 0 then -i else i))
  | _ => none
theorem c_abs : CallD X (.builtin "abs") absG := by
  refine ⟨_, call_abs, fun F ρ σ H G ds vs d Q g hr hg q => ?_⟩
  unfold absG at hg
  split at hg
  · cases hg
    obtain ⟨v, rfl, h⟩ := reps1 hr
    cases h
    exact ⟨_, rfl, q _ _ _ g Tr.refl (.int _)⟩
  · cases hg
abbrev int2G (h : Int → Int → Int) : List D → Option D
  | [.int i, .int j] => some (.int (h i j))
  | _ => none
theorem c_int2 {f : Value} {h : Int → Int → Int} (hc : CallR X f (fun xs H Q => ∃ i j, xs = [.int i, .int j] ∧ Q (.int (h i j)) H)) : CallD X f (int2G h) := by
  refine ⟨_, hc, fun F ρ σ H G ds vs d Q g hr hg q => ?_⟩
  unfold int2G at hg
  split at hg
  · cases hg
    obtain ⟨v, w, rfl, h1, h2⟩ := reps2 hr
    cases h1; cases h2
    exact ⟨_, _, rfl, q _ _ _ g Tr.refl (.int _)⟩
  · cases hg
theorem c_max (hc : X.calm = true := by rfl) : CallD X (.builtin "max") (int2G fun i j => if j > i then j else i) := c_int2 (call_max2 hc)
theorem c_min (hc : X.calm = true := by rfl) : CallD X (.builtin "min") (int2G fun i j => if j < i then j else i) := c_int2 (call_min2 hc)
/-! ### isinstance -/
inductive Ty where
  | int | bool | tuple | list | str
def Ty.name : Ty → String
  | .int => "int" | .bool => "bool" | .tuple => "tuple" | .list => "list" | .str => "str"
abbrev Ty.has : Ty → D → Bool
  | .int, .int _ => true
  | .int, .bool _ => true
  | .bool, .bool _ => true
  | .tuple, .tuple _ => true
  | .list, .list _ => true
  | .str, .str _ => true
  | _, _ => false
def tyN : D → String
  | .none => "NoneType" | .bool _ => "bool" | .int _ => "int" | .str _ => "str" | .list _ => "list" | .tuple _ => "tuple" | .dict _ => "dict"
theorem kit_has (T : Ty) (d : D) (K : PySem.W.Frag) : PySem.W.kitOne K (.type (tyN d)) (.type T.name) = some (T.has d) := by
  refine kit_ty ?_
  cases T <;> cases d <;> first | decide +kernel | (show kitB _ _ = some _; simp only [tyN, Ty.name, Ty.has]; decide +kernel)
theorem tyx_rep {K : PySem.W.Frag} {F : Fr} {ρ : List Sl} {σ : St} {H G : Hp} {v : V} {d : D} (g : Good K F ρ σ H G) (r : Rep K G v d) : TyX K H v (.type (tyN d)) := by
  cases r with
  | non => exact .base .non
  | bl b => exact .base (.bl b)
  | int i => exact .base (.int i)
  | str x => exact .base (.str x)
  | lst h1 h2 => exact .base (.lst (g.same _ _ h1))
  | tup h1 h2 =>
    rcases h1 with (h1 | ⟨o, h1⟩) | ⟨o, its, n, h1, h2, _⟩
    · exact .base (.tup (g.same _ _ h1))
    · exact .fTuple (g.same _ _ h1)
    · exact .kTuple h1 h2
theorem em_isin {ty : Str} {p2 : Pos} {T : Ty} (ha : EM X a fa) (hm : X.mg "isinstance" = none) (hm2 : X.mg ty = none) (hv : bootBuiltins ty = some (.type T.name)) (hg : Gl X "isinstance" := by rfl) (hg2 : Gl X ty := by rfl) (hn : ty ≠ "__name__" := by decide) (hdb : (ty == ("__debug__" : Str)) = false := by decide)
    (h1 : starEach [a, .Name ty p2] X.env = (false, eval a X.env) :: starEach [.Name ty p2] X.env := by rfl) (h2 : starEach [.Name ty p2] X.env = (false, eval (.Name ty p2) X.env) :: starEach [] X.env := by rfl) (hpl : (backTo pos (starEach [.Name ty p2] X.env)).any (·.1) = false := by rfl) :
    EM X (.Call (.Name "isinstance" p) [a, .Name ty p2] [] pos) (bindM fa fun d => retM (.bool (T.has d))) := by
  obtain ⟨t, q, w⟩ := ha.ex
  refine ⟨_, pe_callB call_isi hg hm (by decide +kernel) (pa_cons q (pa_cons (pe_bltn hg2 hm2 hv (v := .ty T.name) rfl hn hdb) pa_nil h2) h1) (he := h1) (hpl := hpl), fun F σ H G ρ d ρ' Q g0 hf q => ?_⟩
  obtain ⟨d1, ρ1, e1, f1⟩ := bind_some hf
  have f2 : some (PyData.bool (T.has d1), ρ1) = some (d, ρ') := f1
  cases f2
  refine w F σ H G ρ d1 _ _ g0 e1 fun v H1 G1 g1 s1 r1 => ?_
  exact ⟨v, .ty T.name, _, _, _, rfl, .ty _, tyx_rep g1 r1, kit_has T d1 _, q _ _ _ g1 s1 (.bl _)⟩
theorem em_isin2 {ty ty2 : Str} {p2 p3 pt : Pos} {kt} {T T2 : Ty} (ha : EM X a fa) (hm : X.mg "isinstance" = none) (hm2 : X.mg ty = none) (hm3 : X.mg ty2 = none) (hv : bootBuiltins ty = some (.type T.name)) (hv2 : bootBuiltins ty2 = some (.type T2.name)) (hg : Gl X "isinstance" := by rfl) (hg2 : Gl X ty := by rfl) (hg3 : Gl X ty2 := by rfl)
    (hn : ty ≠ "__name__" := by decide) (hdb : (ty == ("__debug__" : Str)) = false := by decide) (hn2 : ty2 ≠ "__name__" := by decide) (hdb2 : (ty2 == ("__debug__" : Str)) = false := by decide)
    (h1 : starEach [a, .Tuple [.Name ty p2, .Name ty2 p3] kt pt] X.env = (false, eval a X.env) :: starEach [.Tuple [.Name ty p2, .Name ty2 p3] kt pt] X.env := by rfl)
    (h2 : starEach [.Tuple [.Name ty p2, .Name ty2 p3] kt pt] X.env = (false, eval (.Tuple [.Name ty p2, .Name ty2 p3] kt pt) X.env) :: starEach [] X.env := by rfl)
    (h3 : starEach [.Name ty p2, .Name ty2 p3] X.env = (false, eval (.Name ty p2) X.env) :: starEach [.Name ty2 p3] X.env := by rfl) (h4 : starEach [.Name ty2 p3] X.env = (false, eval (.Name ty2 p3) X.env) :: starEach [] X.env := by rfl)
    (hpl : (backTo pos (starEach [.Tuple [.Name ty p2, .Name ty2 p3] kt pt] X.env)).any (·.1) = false := by rfl) :
    EM X (.Call (.Name "isinstance" p) [a, .Tuple [.Name ty p2, .Name ty2 p3] kt pt] [] pos) (bindM fa fun d => retM (.bool (T.has d || T2.has d))) := by
  obtain ⟨t, q, w⟩ := ha.ex
  refine ⟨_, pe_callB call_isiT hg hm (by decide +kernel) (pa_cons q (pa_cons (pe_tup (pa_cons (pe_bltn hg2 hm2 hv (v := .ty T.name) rfl hn hdb) (pa_cons (pe_bltn hg3 hm3 hv2 (v := .ty T2.name) rfl hn2 hdb2) pa_nil h4) h3)) pa_nil h2) h1) (he := h1) (hpl := hpl), fun F σ H G ρ d ρ' Q g0 hf q => ?_⟩
  obtain ⟨d1, ρ1, e1, f1⟩ := bind_some hf
  have f2 : some (PyData.bool (T.has d1 || T2.has d1), ρ1) = some (d, ρ') := f1
  cases f2
  refine w F σ H G ρ d1 _ _ g0 e1 fun v H1 G1 g1 s1 r1 => ?_
  refine ⟨by show 2 ≤ sizeLine; decide, fun tp ntp => ?_⟩
  obtain ⟨g2, s2⟩ := g1.new (o := .tup [.ty T.name, .ty T2.name]) ntp
  refine ⟨v, tp, _, _, [.type T.name, .type T2.name], _, rfl, upd_same, .cons (.ty _) (.cons (.ty _) .nil), tyx_rep g2 (r1.mono s2.sg), ?_, q _ _ _ g2 (s1.trans s2) (.bl _)⟩
  refine kitAny_cons (kit_has T d1 _) (fun e => ?_) fun e => by rw [e]; rfl
  rw [e, Bool.false_or]
  refine kitAny_cons (kit_has T2 d1 _) (fun e => ?_) fun e => e
  rw [e]; exact kitAny_nil
end
end PD
end
/-! PD6: calls of defs. -/
noncomputable section
namespace PD
open PySem PySem.Spec PyProof.Rows L2
/-! ### promises -/
/-- from data to data -/
def spD (K : PySem.W.Frag) (n : Nat) (f : List D → Option D) : Sp := fun vs H Q _ => ∃ G ds d, Same G H ∧ ds.length = n ∧ Reps K G vs ds ∧ f ds = some d ∧
  ∀ v H' G', Same H H' → Same G G' → Same G' H' → (∀ a o, H a = some o → G a = none → G' a = none) → Rep K G' v d → Q v H'
/-- the same, with a list of the caller's ahead that may be changed -/
def spM (K : PySem.W.Frag) (n : Nat) (f : List D → List D → Option (D × List D)) : Sp := fun vs H Q _ => ∃ G p ps pot us ds d pot', vs = .ref p :: us ∧ ds.length = n ∧ Same G H ∧ G p = none ∧ H p = some (.lst ps) ∧ Reps K G ps pot ∧ Reps K G us ds ∧ f pot ds = some (d, pot') ∧
  ∀ v H' G' ps', (∀ a o, H a = some o → a ≠ p → H' a = some o) → Same G G' → Same G' H' → (∀ a o, H a = some o → G a = none → G' a = none) → H' p = some (.lst ps') → Reps K G' ps' pot' → Rep K G' v d → Q v H'
/-- from data to a new list -/
def spO (K : PySem.W.Frag) (n : Nat) (f : List D → Option (List D)) : Sp := fun vs H Q _ => ∃ G ds d, Same G H ∧ ds.length = n ∧ Reps K G vs ds ∧ f ds = some d ∧
  ∀ p xs H' G', Same H H' → Same G G' → Same G' H' → (∀ a o, H a = some o → G a = none → G' a = none) → H p = none → G' p = none → H' p = some (.lst xs) → Reps K G' xs d → Q (.ref p) H'
/-- from a list that is read to a new list -/
def spR (K : PySem.W.Frag) (f : List D → Option (List D)) : Sp := fun vs H Q _ => ∃ G a xs ds d, vs = [.ref a] ∧ Same G H ∧ SqL K G a xs ∧ Reps K G xs ds ∧ f ds = some d ∧
  ∀ p xs H' G', Same H H' → Same G G' → Same G' H' → (∀ a o, H a = some o → G a = none → G' a = none) → H p = none → G' p = none → H' p = some (.lst xs) → Reps K G' xs d → Q (.ref p) H'
section
variable {K : PySem.W.Frag} {F : Fr} {ρ : List Sl} {σ : St} {H G H' G' : Hp}
theorem Tr.of_same (sh : Same H H') (sg : Same G G') (nf : ∀ a o, H a = some o → G a = none → G' a = none) : Tr σ ρ H G ρ H' G' := ⟨sg, fun a o e _ => sh _ _ e, nf, fun _ h => h, fun a o e => ⟨o, sh _ _ e⟩⟩
/-- one's own object at slot i is changed -/
theorem Good.put {i : Nat} {s s' : Sl} {p : Addr} (g : Good K F ρ σ H G) (hi : ρ[i]? = some s) (hv : σ[i]? = some (some (.ref p))) (ow : OwnA s (some (.ref p)) p) (ow' : OwnA s' (some (.ref p)) p)
    (fr : ∀ a o, H a = some o → a ≠ p → H' a = some o) (sg : Same G G') (gh : Same G' H') (nf : ∀ a o, H a = some o → G a = none → G' a = none) (ok : SlotOk K F G' H' s' (some (.ref p))) :
    Good K F (ρ.set i s') σ H' G' ∧ Tr σ ρ H G (ρ.set i s') H' G' := by
  have hlt : i < ρ.length := by
    rcases Nat.lt_or_ge i ρ.length with z | z
    · exact z
    · rw [List.getElem?_eq_none z] at hi; cases hi
  obtain ⟨⟨u, hu⟩, hgp, hpf⟩ := g.ownAt hi hv ow
  obtain ⟨⟨u', hu'⟩, hgp', _⟩ := ok.own ow'
  have hown : ∀ (j : Nat) (t : Sl) (v : Option V) (q : Addr), ρ[j]? = some t → σ[j]? = some v → OwnA t v q → j ≠ i → q ≠ p := fun j t v q e1 e2 o hj z => by
    subst z
    exact hj (g.ds j i t s v _ _ e1 e2 hi hv o ow)
  have inP : OwnIn ρ σ p := ⟨i, s, _, hi, hv, ow⟩
  refine ⟨⟨gh, g.g0.trans sg, fun a o e n => ?_, fun a o e n => ?_, fun q e => ?_, by rw [List.length_set, g.len], fun j t v e1 e2 => ?_, fun j k t t' v w q e1 e2 e3 e4 o1 o2 => ?_⟩, ⟨sg, fun a o e n => fr a o e fun z => n (z ▸ inP), nf, fun a h => ?_, fun a o e => ?_⟩⟩
  · have hne : a ≠ p := fun z => by
      subst z
      rcases hpf with z | z
      · exact n z
      · rw [z] at e; cases e
    exact fr a o (g.h0 a o e n) hne
  · have x := g.n0 a o e n
    by_cases q : F.P = some a
    · obtain ⟨_, _, ⟨w, z⟩⟩ := g.pp a q
      exact nf a w z x
    · exact nf a o (g.h0 a o e q) x
  · obtain ⟨h1, h2, ⟨w, h3⟩⟩ := g.pp q e
    refine ⟨h1, h2, ?_⟩
    by_cases z : q = p
    · rw [z]; exact ⟨u', hu'⟩
    · exact ⟨w, fr q w h3 z⟩
  · by_cases hj : j = i
    · subst hj
      rw [List.getElem?_set_self hlt] at e1
      cases e1
      rw [hv] at e2; cases e2
      exact ok
    · rw [List.getElem?_set_ne (Ne.symm hj)] at e1
      refine (g.sl j t v e1 e2).mono sg fun q o => ?_
      obtain ⟨⟨w, h1⟩, h2, _⟩ := g.ownAt e1 e2 o
      exact ⟨(fr q w h1 (hown j t v q e1 e2 o hj)).trans h1.symm, nf q w h1 h2⟩
  · have key : ∀ (j : Nat) (t : Sl) (v : Option V), (ρ.set i s')[j]? = some t → σ[j]? = some v → OwnA t v q → ∃ t', ρ[j]? = some t' ∧ OwnA t' v q := fun j t v e1 e2 o => by
      by_cases hj : j = i
      · subst hj
        rw [List.getElem?_set_self hlt] at e1
        cases e1
        rw [hv] at e2; cases e2
        have e : q = p := by
          cases s' <;> first | exact o.elim | (have z := V.ref.inj (Option.some.inj (show some (V.ref p) = some (V.ref q) from o)); exact z.symm)
        exact ⟨s, hi, e ▸ ow⟩
      · rw [List.getElem?_set_ne (Ne.symm hj)] at e1
        exact ⟨t, e1, o⟩
    obtain ⟨t1, a1, a2⟩ := key j t v e1 e2 o1
    obtain ⟨t2, b1, b2⟩ := key k t' w e3 e4 o2
    exact g.ds j k t1 t2 v w q a1 e2 b1 e4 a2 b2
  · obtain ⟨j, t, v, e1, e2, o⟩ := h
    by_cases hj : j = i
    · subst hj
      rw [List.getElem?_set_self hlt] at e1
      cases e1
      rw [hv] at e2; cases e2
      have e : a = p := by
        cases s' <;> first | exact o.elim | (have z := V.ref.inj (Option.some.inj (show some (V.ref p) = some (V.ref a) from o)); exact z.symm)
      rw [e]; exact inP
    · rw [List.getElem?_set_ne (Ne.symm hj)] at e1
      exact ⟨j, t, v, e1, e2, o⟩
  · by_cases z : a = p
    · rw [z]; exact ⟨u', hu'⟩
    · exact ⟨o, fr a o e z⟩
end
section
variable {X : Cx} {pos p : Pos} {x : Str} {e a b c : Expr} {es rest : List Expr} {kws : List Keyword} {fs ks : M (List D)} {n : Nat}
theorem em_call {f : List D → Option D} (hp : ∀ t, PA X es t → PE X e (tCall (spD X.K n f) [] E0 t)) (hs : AM X es fs) (hn : es.length = n := by rfl) : EM X e (bindM fs fun ds => optM (f ds)) := by
  obtain ⟨t, q, w⟩ := hs.ex
  refine ⟨_, hp t q, fun F σ H G ρ d ρ' Q g0 hf q => ?_⟩
  obtain ⟨ds, ρ1, e1, f1⟩ := bind_some hf
  obtain ⟨e2, rfl⟩ := opt_some f1
  refine w F σ H G ρ ds _ _ g0 e1 fun vs H1 G1 g1 s1 r1 => ?_
  show spD X.K n f (vs ++ []) H1 Q E0
  rw [List.append_nil]
  exact ⟨G1, ds, d, g1.same, (hs.len _ _ _ e1).trans hn, r1, e2, fun v H' G' sh sg gh nf r => q v H' G' (g1.grow sh sg gh nf) (s1.trans (Tr.of_same sh sg nf)) r⟩
theorem eo_call {f : List D → Option (List D)} (hp : ∀ t, PA X es t → PE X e (tCall (spO X.K n f) [] E0 t)) (hs : AM X es fs) (hn : es.length = n := by rfl) : EO X e (bindM fs fun ds => optM (f ds)) := by
  obtain ⟨t, q, w⟩ := hs.ex
  refine ⟨_, hp t q, fun F σ H G ρ d ρ' Q g0 hf q => ?_⟩
  obtain ⟨ds, ρ1, e1, f1⟩ := bind_some hf
  obtain ⟨e2, rfl⟩ := opt_some f1
  refine w F σ H G ρ ds _ _ g0 e1 fun vs H1 G1 g1 s1 r1 => ?_
  show spO X.K n f (vs ++ []) H1 Q E0
  rw [List.append_nil]
  refine ⟨G1, ds, d, g1.same, (hs.len _ _ _ e1).trans hn, r1, e2, fun p xs H' G' sh sg gh nf hn hgp hp r => ?_⟩
  have tr : Tr σ _ H1 G1 _ H' G' := Tr.of_same (ρ := ρ1) sh sg nf
  exact q p xs H' G' (g1.grow sh sg gh nf) (s1.trans tr) (s1.back hn) hgp hp r (g1.fresh hn).2.2
/-- what a def that takes the own list ahead hands back -/
def callP (i : Nat) (f : List D → List D → Option (D × List D)) (ds : List D) : M D := fun ρ => match ρ[i]? with
  | some (.pot xs) => (match f xs ds with
    | some (d, xs') => some (d, ρ.set i (.pot xs'))
    | none => none)
  | some (.ol xs) => (match f xs ds with
    | some (d, xs') => some (d, ρ.set i (.ol xs'))
    | none => none)
  | _ => none
abbrev ownB (i : Nat) (ρ : List Sl) : Bool := match ρ[i]? with
  | some (.pot _) => true
  | some (.ol _) => true
  | _ => false
def guardM (b : List Sl → Bool) : M Unit := fun ρ => if b ρ = true then some ((), ρ) else none
theorem guard_some {b : List Sl → Bool} {ρ ρ' : List Sl} {u : Unit} (h : guardM b ρ = some (u, ρ')) : b ρ = true ∧ ρ = ρ' := by
  simp only [guardM] at h
  split at h
  · cases h; exact ⟨by assumption, rfl⟩
  · cases h
theorem own_val {K : PySem.W.Frag} {F : Fr} {ρ : List Sl} {σ : St} {H G : Hp} {i : Nat} (g : Good K F ρ σ H G) (h : ownB i ρ = true) : ∃ v, σ[i]? = some (some v) := by
  simp only [ownB] at h
  cases hr : ρ[i]? with
  | none => rw [hr] at h; cases h
  | some s =>
    have hlt : i < ρ.length := by
      rcases Nat.lt_or_ge i ρ.length with z | z
      · exact z
      · rw [List.getElem?_eq_none z] at hr; cases hr
    have hv : σ[i]? = some (σ[i]'(by rw [← g.len]; exact hlt)) := List.getElem?_eq_getElem _
    have ok := g.sl i s _ hr hv
    rw [hr] at h
    cases s with
    | pot xs => obtain ⟨p, vs, e, _⟩ := ok; exact ⟨_, by rw [hv, e]⟩
    | ol xs => obtain ⟨p, vs, e, _⟩ := ok; exact ⟨_, by rw [hv, e]⟩
    | no => cases h
    | d _ => cases h
    | rd _ => cases h
    | dk _ => cases h
    | dt _ => cases h
theorem em_callP {f : List D → List D → Option (D × List D)} {y : Str} {p2 : Pos} (i : Nat) (hp : ∀ t, PA X es t → PE X e (tCall (spM X.K n f) [] E0 (tCons (tVar i) t))) (hs : AM X es fs) (hn : es.length = n := by rfl) : EM X e (bindM (guardM (ownB i)) fun _ => bindM fs fun ds => callP i f ds) := by
  obtain ⟨t, q, w⟩ := hs.ex
  refine ⟨_, hp t q, fun F σ H G ρ d ρ' Q g0 hf q => ?_⟩
  obtain ⟨_, ρ0, e0, f0⟩ := bind_some hf
  obtain ⟨hb, rfl⟩ := guard_some e0
  obtain ⟨v, hv⟩ := own_val g0 hb
  obtain ⟨ds, ρ1, e1, f1⟩ := bind_some f0
  have hlt : i < ρ1.length := by
    rcases Nat.lt_or_ge i ρ1.length with z | z
    · exact z
    · simp [callP, List.getElem?_eq_none z] at f1
  · refine ⟨v, hv, w F σ H G ρ ds _ _ g0 e1 fun vs H1 G1 g1 s1 r1 => ?_⟩
    show spM X.K n f ((v :: vs) ++ []) H1 Q E0
    rw [List.append_nil]
    have hr : ρ1[i]? = some ρ1[i] := List.getElem?_eq_getElem hlt
    have ok := g1.sl i _ _ hr hv
    simp only [callP, hr] at f1
    cases hs' : ρ1[i] with
    | no => rw [hs'] at f1; cases f1
    | d _ => rw [hs'] at f1; cases f1
    | rd _ => rw [hs'] at f1; cases f1
    | dk _ => rw [hs'] at f1; cases f1
    | dt _ => rw [hs'] at f1; cases f1
    | pot xs =>
      rw [hs'] at f1 ok hr
      obtain ⟨p, ps, ev, h1, h2, h3, h4⟩ := ok
      cases ev
      simp only at f1
      split at f1
      · rename_i d' xs' e2
        cases f1
        refine ⟨G1, p, ps, xs, vs, ds, d, xs', rfl, (hs.len _ _ _ e1).trans hn, g1.same, h2, h3, h4, r1, e2, fun v' H' G' ps' fr sg gh nf hp' rp rv => ?_⟩
        obtain ⟨g2, s2⟩ := g1.put (s' := .pot xs') hr hv rfl rfl fr sg gh nf ⟨p, ps', rfl, h1, nf _ _ h3 h2, hp', rp⟩
        exact q v' H' G' g2 (s1.trans s2) rv
      · cases f1
    | ol xs =>
      rw [hs'] at f1 ok hr
      obtain ⟨p, ps, ev, h1, h2, h3, h4⟩ := ok
      cases ev
      simp only at f1
      split at f1
      · rename_i d' xs' e2
        cases f1
        refine ⟨G1, p, ps, xs, vs, ds, d, xs', rfl, (hs.len _ _ _ e1).trans hn, g1.same, h2, h3, h4, r1, e2, fun v' H' G' ps' fr sg gh nf hp' rp rv => ?_⟩
        obtain ⟨g2, s2⟩ := g1.put (s' := .ol xs') hr hv rfl rfl fr sg gh nf ⟨p, ps', rfl, h1, nf _ _ h3 h2, hp', rp⟩
        exact q v' H' G' g2 (s1.trans s2) rv
      · cases f1
end
end PD
end
/-! PD7: statements. -/
noncomputable section
namespace PD
open PySem PySem.Spec PyProof.Rows L2
/-! ### calls by keywords -/
structure KM (X : Cx) (kws : List Keyword) (f : M (List D)) : Prop where
  ex : ∃ t, PK X kws t ∧ ∀ (F : Fr) (σ : St) (H G : Hp) (ρ : List Sl) (ds : List D) (ρ' : List Sl) (Q : List V → Hp → Prop), Good X.K F ρ σ H G → f ρ = some (ds, ρ') →
    (∀ vs H' G', Good X.K F ρ' σ H' G' → Tr σ ρ H G ρ' H' G' → Reps X.K G' vs ds → Q vs H') → t σ H Q
  len : ∀ ρ ds ρ', f ρ = some (ds, ρ') → ds.length = kws.length
/-- the values put in the parameters' order -/
abbrev pick {α : Type} (idx : List Nat) (us ws : List α) : List α := idx.filterMap fun i => (us ++ ws)[i]?
theorem vals_pick (idx : List Nat) {vs : List V} {us : List Value} {zs : List V} {ws : List Value} (r : Vals vs us) (q : Vals zs ws) : Vals (pick idx vs zs) (pick idx us ws) := by
  have r2 := r.append q
  induction idx with
  | nil => exact .nil
  | cons i idx ih =>
    unfold pick
    cases h : (vs ++ zs)[i]? with
    | none =>
      have h2 := r2.none_of h
      rw [List.filterMap_cons_none h, List.filterMap_cons_none h2]
      exact ih
    | some x =>
      obtain ⟨u, h2, h3⟩ := r2.get h
      rw [List.filterMap_cons_some h, List.filterMap_cons_some h2]
      exact .cons h3 ih
theorem reps_pick {K : PySem.W.Frag} {G : Hp} (idx : List Nat) {vs zs : List V} {as bs : List D} (r : Reps K G vs as) (q : Reps K G zs bs) : Reps K G (pick idx vs zs) (pick idx as bs) := by
  have r2 := r.append q
  induction idx with
  | nil => exact .nil
  | cons i idx ih =>
    unfold pick
    cases h : (as ++ bs)[i]? with
    | none =>
      have h2 : (vs ++ zs)[i]? = none := by
        rw [List.getElem?_eq_none_iff] at h ⊢
        rw [r2.length]; exact h
      rw [List.filterMap_cons_none h, List.filterMap_cons_none h2]
      exact ih
    | some x =>
      obtain ⟨u, h2, h3⟩ := r2.get h
      rw [List.filterMap_cons_some h, List.filterMap_cons_some h2]
      exact .cons h3 ih
section
variable {K : PySem.W.Frag} {x qual : Str} {params : Arguments} {body : List Stmt} {scope : Scope} {f : Addr} {fd : FuncData} {ps : List Str}
theorem kbn_of (F : FunD K x qual params body scope [] [] f fd) (n : Nat) (ks : List Str) (idx : List Nat)
    (h : ∀ (kV doc pm : Value) (an : Option Addr) (cdv ct : Value) (us ws : List Value), us.length = n → ws.length = ks.length → bindArgs (PySem.W.fnOf x qual params body scope .none kV doc pm an cdv ct) ⟨us, ks.zip ws⟩ = pure (ps.zip (pick idx us ws))) :
    KBn K fd ps n ks (pick idx) (pick idx) := by
  obtain ⟨oc, od, dV, kV, doc, pm, an, cdv, ct, osl, rfl, lk, hcd, hD, hK⟩ := F.ex
  rcases hD with ⟨_, rfl⟩ | ⟨e, _⟩
  · exact ⟨fun s us ws X l1 l2 => BindsTo.of_eq (h kV doc pm an cdv ct us ws l1 l2), fun r q => vals_pick idx r q⟩
  · exact absurd rfl e
end
section
variable {X : Cx} {CX : CXT} {k n : Nat} {f : Addr} {fd : FuncData} {ps ks : List Str} {sp : Sp} {E : XK} {x : Str} {p pos kpos : Pos} {e : Expr} {es : List Expr} {kws : List Keyword} {t tk : TA} {g : List Value → List Value → List Value} {gV : List V → List V → List V} {fa : M D} {fs fk : M (List D)} {nm : Option Str}
/-- f(k = v, ..) -/
theorem pe_callN0 (F : FnOk X.prog X.w X.K X.mg X.base CX k f fd ps sp) (hr : Room k X.A) (hg : Gl X x) (hm : X.mg x = some (.ref f)) (hk : PySem.W.keepIn X.K (.ref f) = true) (hb : KBn X.K fd ps 0 ks g gV) (hx : Passes CX X E)
    (hkw : PK X kws tk) (hall : (backToKw pos (keywordEach kws X.env)).all (·.1.isSome) = true := by rfl) (hks : (backToKw pos (keywordEach kws X.env)).filterMap (·.1) = ks := by rfl)
    (hdb : (x == ("__debug__" : Str)) = false := by decide) (hpl : ((backTo pos (starEach [] X.env)).any (·.1) || (backToKw pos (keywordEach kws X.env)).any (·.1.isNone)) = false := by rfl) :
    PE X (.Call (.Name x p) [] kws pos) (tCallN 0 ks.length sp gV E tNil tk) := by
  refine ⟨fun pins s σ H Q I h => ?_⟩
  refine wpAny_Call_Name_kw (ld_glob I hg hm ?_ hdb)
  refine PySem.W.callWith_KW0 (h₀ := X.base) I.ok.mod.kin hk hall ?_ hpl
  refine thn (hkw.run pos pins s σ H _ I h) fun ws s2 ⟨zs, H2, I2, rz, l1, l2, q2⟩ => ⟨I2.kIn, ?_⟩
  rw [hks]
  exact run_fnN (us := []) (vs := []) F hr hb hx I2 .nil rz rfl l2 q2
theorem km_nil : KM X [] (retM []) := ⟨⟨_, pk_nil, fun F σ H G ρ ds ρ' Q g hf q => by
  cases hf
  exact q [] H G g Tr.refl .nil⟩, fun ρ ds ρ' h => by cases h; rfl⟩
theorem km_cons (ha : EM X e fa) (hs : KM X kws fk) : KM X (⟨nm, e, kpos⟩ :: kws) (consM fa fk) := by
  obtain ⟨t, p, w⟩ := ha.ex
  obtain ⟨t2, p2, w2⟩ := hs.ex
  refine ⟨⟨_, pk_cons p p2, fun F σ H G ρ ds ρ' Q g hf q => ?_⟩, fun ρ ds ρ' hf => ?_⟩
  · obtain ⟨d, ρ1, e1, f1⟩ := bind_some hf
    obtain ⟨ds', ρ2, e2, f2⟩ := bind_some f1
    have f3 : some (d :: ds', ρ2) = some (ds, ρ') := f2
    cases f3
    refine w F σ H G ρ d ρ1 _ g e1 fun v H1 G1 g1 s1 r1 => ?_
    exact w2 F σ H1 G1 ρ1 ds' _ _ g1 e2 fun vs H2 G2 g2 s2 r2 => q (v :: vs) H2 G2 g2 (s1.trans s2) (.cons (r1.mono s2.sg) r2)
  · obtain ⟨d, ρ1, e1, f1⟩ := bind_some hf
    obtain ⟨ds', ρ2, e2, f2⟩ := bind_some f1
    have f3 : some (d :: ds', ρ2) = some (ds, ρ') := f2
    cases f3
    rw [List.length_cons, List.length_cons, hs.len _ _ _ e2]
theorem reps_len_pick {K : PySem.W.Frag} {G : Hp} {vs : List V} {ds : List D} (h : Reps K G vs ds) : vs.length = ds.length := h.length
/-- a def called with keywords: m positional values, keywords; idx: the parameters' order -/
theorem em_callK {fn : List D → Option D} {m q : Nat} {idx : List Nat} (hp : ∀ t tk, PA X es t → PK X kws tk → PE X e (tCallN m q (spD X.K n fn) (pick idx) E0 t tk)) (hs : AM X es fs) (hk : KM X kws fk) (h1 : es.length = m := by rfl) (h2 : kws.length = q := by rfl)
    (h3 : ∀ (as bs : List D), as.length = m → bs.length = q → (pick idx as bs).length = n) : EM X e (bindM fs fun as => bindM fk fun bs => optM (fn (pick idx as bs))) := by
  obtain ⟨t, p, w⟩ := hs.ex
  obtain ⟨t2, p2, w2⟩ := hk.ex
  refine ⟨_, hp t t2 p p2, fun F σ H G ρ d ρ' Q g0 hf q => ?_⟩
  obtain ⟨as, ρ1, e1, f1⟩ := bind_some hf
  obtain ⟨bs, ρ2, e2, f2⟩ := bind_some f1
  obtain ⟨e3, rfl⟩ := opt_some f2
  refine w F σ H G ρ as _ _ g0 e1 fun vs H1 G1 g1 s1 r1 => ?_
  refine w2 F σ H1 G1 ρ1 bs _ _ g1 e2 fun zs H2 G2 g2 s2 r2 => ?_
  have l1 : as.length = m := (hs.len _ _ _ e1).trans h1
  have l2 : bs.length = _ := (hk.len _ _ _ e2).trans h2
  refine ⟨by rw [r1.length, l1], by rw [r2.length, l2], ?_⟩
  exact ⟨G2, _, d, g2.same, h3 as bs l1 l2, reps_pick idx (r1.mono s2.sg) r2, e3, fun v H' G' sh sg gh nf r => q v H' G' (g2.grow sh sg gh nf) ((s1.trans s2).trans (Tr.of_same sh sg nf)) r⟩
theorem am_nil0 : AM X [] (retM []) := am_nil
end
/-! ### statements -/
inductive Out where
  | nx | ret (d : D) | ro (ds : List D) | bk | ct
def EndsOk (K : PySem.W.Frag) (F : Fr) (o : Out) (ρ' : List Sl) (G : Hp) (E : Ends) : Prop := match o with
  | .nx => ∀ σ' H' G', Good K F ρ' σ' H' G' → Same G G' → E.nx σ' H'
  | .bk => ∀ σ' H' G', Good K F ρ' σ' H' G' → Same G G' → E.bk σ' H'
  | .ct => ∀ σ' H' G', Good K F ρ' σ' H' G' → Same G G' → E.ct σ' H'
  | .ret d => ∀ v σ' H' G', Good K F ρ' σ' H' G' → Same G G' → Rep K G' v d → E.rt v H'
  | .ro ds => ∀ p vs σ' H' G', Good K F ρ' σ' H' G' → Same G G' → F.H p = none → G' p = none → H' p = some (.lst vs) → Reps K G' vs ds → E.rt (.ref p) H'
theorem EndsOk.mono {K : PySem.W.Frag} {F : Fr} {o : Out} {ρ' : List Sl} {G G1 : Hp} {E : Ends} (h : EndsOk K F o ρ' G E) (s : Same G G1) : EndsOk K F o ρ' G1 E := by
  cases o with
  | nx => exact fun σ' H' G' g q => h σ' H' G' g (s.trans q)
  | bk => exact fun σ' H' G' g q => h σ' H' G' g (s.trans q)
  | ct => exact fun σ' H' G' g q => h σ' H' G' g (s.trans q)
  | ret d => exact fun v σ' H' G' g q r => h v σ' H' G' g (s.trans q) r
  | ro ds => exact fun p vs σ' H' G' g q r1 r2 r3 r4 => h p vs σ' H' G' g (s.trans q) r1 r2 r3 r4
structure SM (X : Cx) (st : Stmt) (f : M Out) : Prop where
  ex : ∃ t, PS X st t ∧ ∀ (F : Fr) (σ : St) (H G : Hp) (ρ : List Sl) (o : Out) (ρ' : List Sl) (E : Ends), Good X.K F ρ σ H G → f ρ = some (o, ρ') → EndsOk X.K F o ρ' G E → t E σ H
structure SsM (X : Cx) (sts : List Stmt) (f : M Out) : Prop where
  ex : ∃ t, PSs X sts t ∧ ∀ (F : Fr) (σ : St) (H G : Hp) (ρ : List Sl) (o : Out) (ρ' : List Sl) (E : Ends), Good X.K F ρ σ H G → f ρ = some (o, ρ') → EndsOk X.K F o ρ' G E → t E σ H
/-- a slot's new value -/
def NewV (K : PySem.W.Frag) (σ : St) (ρ' : List Sl) (H H' G' : Hp) (v : V) : Sl → Prop
  | .d x => Rep K G' v x
  | .ol ds => ∃ p vs, v = .ref p ∧ H p = none ∧ G' p = none ∧ H' p = some (.lst vs) ∧ Reps K G' vs ds ∧ ¬ OwnIn ρ' σ p
  | .dk kvs => ∃ p vs, v = .ref p ∧ H p = none ∧ G' p = none ∧ H' p = some (.dK vs) ∧ KReps K G' vs kvs ∧ ¬ OwnIn ρ' σ p
  | .dt kvs => ∃ p vs, v = .ref p ∧ H p = none ∧ G' p = none ∧ H' p = some (.dT vs) ∧ KReps K G' vs kvs ∧ ¬ OwnIn ρ' σ p
  | _ => False
structure EV (X : Cx) (e : Expr) (f : M Sl) : Prop where
  ex : ∃ t, PE X e t ∧ ∀ (F : Fr) (σ : St) (H G : Hp) (ρ : List Sl) (s : Sl) (ρ' : List Sl) (Q : VK), Good X.K F ρ σ H G → f ρ = some (s, ρ') →
    (∀ v H' G', Good X.K F ρ' σ H' G' → Tr σ ρ H G ρ' H' G' → NewV X.K σ ρ' H H' G' v s → Q v H') → t σ H Q
section
variable {K : PySem.W.Frag} {F : Fr} {ρ ρ1 ρ2 : List Sl} {σ : St} {H G H1 G1 H2 G2 : Hp} {v : V} {s : Sl}
/-- a slot's new value through what comes behind -/
theorem NewV.step (h : NewV K σ ρ1 H H1 G1 v s) (t : Tr σ ρ1 H1 G1 ρ2 H2 G2) : NewV K σ ρ2 H H2 G2 v s := by
  cases s with
  | d x => exact Rep.mono t.sg _ _ h
  | ol ds =>
    obtain ⟨p, vs, e, h1, h2, h3, h4, h5⟩ := h
    exact ⟨p, vs, e, h1, t.nf _ _ h3 h2, t.fr _ _ h3 h5, h4.mono t.sg, fun z => h5 (t.ow _ z)⟩
  | dk ds =>
    obtain ⟨p, vs, e, h1, h2, h3, h4, h5⟩ := h
    exact ⟨p, vs, e, h1, t.nf _ _ h3 h2, t.fr _ _ h3 h5, KReps.mono t.sg h4, fun z => h5 (t.ow _ z)⟩
  | dt ds =>
    obtain ⟨p, vs, e, h1, h2, h3, h4, h5⟩ := h
    exact ⟨p, vs, e, h1, t.nf _ _ h3 h2, t.fr _ _ h3 h5, KReps.mono t.sg h4, fun z => h5 (t.ow _ z)⟩
  | no => exact h.elim
  | pot _ => exact h.elim
  | rd _ => exact h.elim
theorem own_set {i : Nat} {v : V} {s : Sl} {a : Addr} (h : OwnIn (ρ.set i s) (σ.set i (some v)) a) : OwnIn ρ σ a ∨ OwnA s (some v) a := by
  obtain ⟨j, t, w, e1, e2, o⟩ := h
  by_cases hj : j = i
  · subst hj
    by_cases hl : j < ρ.length
    · rw [List.getElem?_set_self hl] at e1
      cases e1
      by_cases hl2 : j < σ.length
      · rw [List.getElem?_set_self hl2] at e2
        cases e2
        exact .inr o
      · rw [List.getElem?_eq_none (by simpa using hl2)] at e2; cases e2
    · rw [List.getElem?_eq_none (by simpa using hl)] at e1; cases e1
  · rw [List.getElem?_set_ne (Ne.symm hj)] at e1 e2
    exact .inl ⟨j, t, w, e1, e2, o⟩
/-- a name is bound -/
theorem Good.bind {i : Nat} (g : Good K F ρ σ H G) (h0 : ∀ a, H1 a = none → F.H a = none) (h : NewV K σ ρ H1 H G v s) : Good K F (ρ.set i s) (σ.set i (some v)) H G := by
  have hown : ∀ a, OwnA s (some v) a → ¬ OwnIn ρ σ a := fun a o => by
    cases s with
    | ol ds =>
      obtain ⟨p, vs, rfl, _, _, _, _, h5⟩ := h
      have e : p = a := by have z : some (V.ref p) = some (V.ref a) := o; exact V.ref.inj (Option.some.inj z)
      exact e ▸ h5
    | dk ds =>
      obtain ⟨p, vs, rfl, _, _, _, _, h5⟩ := h
      have e : p = a := by have z : some (V.ref p) = some (V.ref a) := o; exact V.ref.inj (Option.some.inj z)
      exact e ▸ h5
    | dt ds =>
      obtain ⟨p, vs, rfl, _, _, _, _, h5⟩ := h
      have e : p = a := by have z : some (V.ref p) = some (V.ref a) := o; exact V.ref.inj (Option.some.inj z)
      exact e ▸ h5
    | d x => exact o.elim
    | no => exact o.elim
    | pot _ => exact h.elim
    | rd _ => exact o.elim
  have ok : SlotOk K F G H s (some v) := by
    cases s with
    | d x => exact ⟨v, rfl, h⟩
    | ol ds =>
      obtain ⟨p, vs, rfl, h1, h2, h3, h4, _⟩ := h
      exact ⟨p, vs, rfl, h0 _ h1, h2, h3, h4⟩
    | dk ds =>
      obtain ⟨p, vs, rfl, h1, h2, h3, h4, _⟩ := h
      exact ⟨p, vs, rfl, h0 _ h1, h2, h3, h4⟩
    | dt ds =>
      obtain ⟨p, vs, rfl, h1, h2, h3, h4, _⟩ := h
      exact ⟨p, vs, rfl, h0 _ h1, h2, h3, h4⟩
    | no => trivial
    | pot _ => exact h.elim
    | rd _ => exact h.elim
  have key : ∀ (j : Nat) (t : Sl) (w : Option V), (ρ.set i s)[j]? = some t → (σ.set i (some v))[j]? = some w → (j = i ∧ t = s ∧ w = some v) ∨ (j ≠ i ∧ ρ[j]? = some t ∧ σ[j]? = some w) := fun j t w e1 e2 => by
    by_cases hj : j = i
    · subst hj
      have hl : j < ρ.length := by
        rcases Nat.lt_or_ge j ρ.length with z | z
        · exact z
        · rw [List.getElem?_eq_none (by simpa using z)] at e1; cases e1
      rw [List.getElem?_set_self hl] at e1
      rw [List.getElem?_set_self (by rw [← g.len]; exact hl)] at e2
      cases e1; cases e2
      exact .inl ⟨rfl, rfl, rfl⟩
    · rw [List.getElem?_set_ne (Ne.symm hj)] at e1 e2
      exact .inr ⟨hj, e1, e2⟩
  refine ⟨g.same, g.g0, g.h0, g.n0, g.pp, by rw [List.length_set, List.length_set, g.len], fun j t w e1 e2 => ?_, fun j k t u w z p e1 e2 e3 e4 o1 o2 => ?_⟩
  · rcases key j t w e1 e2 with ⟨_, rfl, rfl⟩ | ⟨_, a, b⟩
    · exact ok
    · exact g.sl j t w a b
  · rcases key j t w e1 e2 with ⟨rfl, rfl, rfl⟩ | ⟨n1, a1, b1⟩
    · rcases key k u z e3 e4 with ⟨rfl, rfl, rfl⟩ | ⟨n2, a2, b2⟩
      · rfl
      · exact absurd ⟨k, u, z, a2, b2, o2⟩ (hown p o1)
    · rcases key k u z e3 e4 with ⟨rfl, rfl, rfl⟩ | ⟨n2, a2, b2⟩
      · exact absurd ⟨j, t, w, a1, b1, o1⟩ (hown p o2)
      · exact g.ds j k t u w z p a1 b1 a2 b2 o1 o2
end
section
variable {X : Cx} {pos pos' : Pos} {x : Str} {e a b c : Expr} {st : Stmt} {rest body : List Stmt} {f fa fb : M D} {fo : M (List D)} {fv fw : M Sl} {u w : M Out}
theorem ev_d (h : EM X e f) : EV X e (bindM f fun d => retM (.d d)) := by
  obtain ⟨t, p, w⟩ := h.ex
  refine ⟨t, p, fun F σ H G ρ s ρ' Q g hf q => ?_⟩
  obtain ⟨d, ρ1, e1, f1⟩ := bind_some hf
  have f2 : some (Sl.d d, ρ1) = some (s, ρ') := f1
  cases f2
  exact w F σ H G ρ d _ Q g e1 fun v H' G' g' t' r => q v H' G' g' t' r
theorem ev_o (h : EO X e fo) : EV X e (bindM fo fun d => retM (.ol d)) := by
  obtain ⟨t, p, w⟩ := h.ex
  refine ⟨t, p, fun F σ H G ρ s ρ' Q g hf q => ?_⟩
  obtain ⟨d, ρ1, e1, f1⟩ := bind_some hf
  have f2 : some (Sl.ol d, ρ1) = some (s, ρ') := f1
  cases f2
  exact w F σ H G ρ d _ Q g e1 fun p vs H' G' g' t' h1 h2 h3 h4 h5 => q _ H' G' g' t' ⟨p, vs, rfl, h1, h2, h3, h4, h5⟩
abbrev nxM : M Out := retM .nx
theorem ssm_nil : SsM X [] nxM := ⟨_, pss_nil, fun F σ H G ρ o ρ' E g hf q => by
  cases hf
  exact q σ H G g (Same.refl G)⟩
theorem ssm_one (h : SM X st u) : SsM X [st] u := by
  obtain ⟨t, p, w⟩ := h.ex
  exact ⟨t, pss_one p, w⟩
def seqM (u w : M Out) : M Out := bindM u fun o => match o with
  | .nx => w
  | o => retM o
theorem ssm_cons (h : SM X st u) (hr : SsM X rest w) : SsM X (st :: rest) (seqM u w) := by
  obtain ⟨t, p, k⟩ := h.ex
  obtain ⟨t2, p2, k2⟩ := hr.ex
  refine ⟨_, pss_cons p p2, fun F σ H G ρ o ρ' E g hf q => ?_⟩
  obtain ⟨o1, ρ1, e1, f1⟩ := bind_some hf
  refine k F σ H G ρ o1 ρ1 _ g e1 ?_
  cases o1 with
  | nx => exact fun σ' H' G' g' s' => k2 F σ' H' G' ρ1 o ρ' E g' f1 (q.mono s')
  | ret d =>
    have f2 : some (Out.ret d, ρ1) = some (o, ρ') := f1
    cases f2; exact q
  | ro d =>
    have f2 : some (Out.ro d, ρ1) = some (o, ρ') := f1
    cases f2; exact q
  | bk =>
    have f2 : some (Out.bk, ρ1) = some (o, ρ') := f1
    cases f2; exact q
  | ct =>
    have f2 : some (Out.ct, ρ1) = some (o, ρ') := f1
    cases f2; exact q
theorem sm_pass : SM X (.Pass pos) nxM := ⟨_, ps_pass, fun F σ H G ρ o ρ' E g hf q => by cases hf; exact q σ H G g (Same.refl G)⟩
theorem sm_break : SM X (.Break pos) (retM .bk) := ⟨_, ps_break, fun F σ H G ρ o ρ' E g hf q => by cases hf; exact q σ H G g (Same.refl G)⟩
theorem sm_continue : SM X (.Continue pos) (retM .ct) := ⟨_, ps_continue, fun F σ H G ρ o ρ' E g hf q => by cases hf; exact q σ H G g (Same.refl G)⟩
/-- a statement that is not claimed (raise) -/
theorem sm_never : SM X st (fun _ => none) := ⟨_, ps_never, fun F σ H G ρ o ρ' E g hf q => by cases hf⟩
theorem sm_expr (h : EM X e f) (hs : swapsWith e none pos.line X.env = pure false := by rfl) : SM X (.Expr e pos) (bindM f fun _ => nxM) := by
  obtain ⟨t, p, k⟩ := h.ex
  refine ⟨_, ps_expr p hs, fun F σ H G ρ o ρ' E g hf q => ?_⟩
  obtain ⟨d, ρ1, e1, f1⟩ := bind_some hf
  have f2 : some (Out.nx, ρ1) = some (o, ρ') := f1
  cases f2
  exact k F σ H G ρ d _ _ g e1 fun v H' G' g' t' _ => q σ H' G' g' t'.sg
theorem sm_ret (h : EM X e f) : SM X (.Return (some e) pos) (bindM f fun d => retM (.ret d)) := by
  obtain ⟨t, p, k⟩ := h.ex
  refine ⟨_, ps_ret p, fun F σ H G ρ o ρ' E g hf q => ?_⟩
  obtain ⟨d, ρ1, e1, f1⟩ := bind_some hf
  have f2 : some (Out.ret d, ρ1) = some (o, ρ') := f1
  cases f2
  exact k F σ H G ρ d _ _ g e1 fun v H' G' g' t' r => q v σ H' G' g' t'.sg r
theorem sm_reto (h : EO X e fo) : SM X (.Return (some e) pos) (bindM fo fun d => retM (.ro d)) := by
  obtain ⟨t, p, k⟩ := h.ex
  refine ⟨_, ps_ret p, fun F σ H G ρ o ρ' E g hf q => ?_⟩
  obtain ⟨d, ρ1, e1, f1⟩ := bind_some hf
  have f2 : some (Out.ro d, ρ1) = some (o, ρ') := f1
  cases f2
  exact k F σ H G ρ d _ _ g e1 fun p vs H' G' g' t' h1 h2 h3 h4 h5 => q p vs σ H' G' g' t'.sg (g.fresh h1).1 h2 h3 h4
theorem sm_retN : SM X (.Return none pos) (retM (.ret .none)) := ⟨_, ps_retN, fun F σ H G ρ o ρ' E g hf q => by
  cases hf
  exact q _ σ H G g (Same.refl G) .non⟩
/-- return of an own list's name: it is frozen -/
abbrev olAt (i : Nat) : List Sl → Option (List D) := fun ρ => match ρ[i]? with
  | some (.ol ds) => some ds
  | _ => none
theorem ol_some {i : Nat} {ρ : List Sl} {ds : List D} (h : olAt i ρ = some ds) : ρ[i]? = some (.ol ds) := by
  simp only [olAt] at h
  split at h
  · cases h; assumption
  · cases h
theorem slot_at {K : PySem.W.Frag} {F : Fr} {ρ : List Sl} {σ : St} {H G : Hp} {i : Nat} {s : Sl} (g : Good K F ρ σ H G) (h : ρ[i]? = some s) : ∃ v, σ[i]? = some v ∧ SlotOk K F G H s v := by
  have hlt : i < ρ.length := by
    rcases Nat.lt_or_ge i ρ.length with z | z
    · exact z
    · rw [List.getElem?_eq_none z] at h; cases h
  have hv : σ[i]? = some (σ[i]'(by rw [← g.len]; exact hlt)) := List.getElem?_eq_getElem _
  exact ⟨_, hv, g.sl i s _ h hv⟩
/-- an own list's name taken as data: from now on it is frozen -/
theorem Good.freezeAt {K : PySem.W.Frag} {F : Fr} {ρ : List Sl} {σ : St} {H G : Hp} {i : Nat} {ds : List D} (g : Good K F ρ σ H G) (h : ρ[i]? = some (.ol ds)) :
    ∃ p vs, σ[i]? = some (some (.ref p)) ∧ G p = none ∧ F.H p = none ∧ H p = some (.lst vs) ∧ Reps K G vs ds ∧ Good K F (ρ.set i (.d (.list ds))) σ H (upd G p (.lst vs)) ∧ Same G (upd G p (.lst vs)) ∧ Rep K (upd G p (.lst vs)) (.ref p) (.list ds) := by
  obtain ⟨v, hv, ok⟩ := slot_at g h
  obtain ⟨p, vs, rfl, h1, h2, h3, h4⟩ := ok
  have sg : Same G (upd G p (.lst vs)) := upd_sameN h2
  have rp : Rep K (upd G p (.lst vs)) (.ref p) (.list ds) := .lst upd_same (h4.mono sg)
  refine ⟨p, vs, hv, h2, h1, h3, h4, ?_, sg, rp⟩
  have hlt : i < ρ.length := by
    rcases Nat.lt_or_ge i ρ.length with z | z
    · exact z
    · rw [List.getElem?_eq_none z] at h; cases h
  have key : ∀ (j : Nat) (t : Sl) (w : Option V), (ρ.set i (.d (.list ds)))[j]? = some t → σ[j]? = some w → (j = i ∧ t = .d (.list ds) ∧ w = some (.ref p)) ∨ (j ≠ i ∧ ρ[j]? = some t) := fun j t w e1 e2 => by
    by_cases hj : j = i
    · subst hj
      rw [List.getElem?_set_self hlt] at e1
      cases e1
      rw [hv] at e2; cases e2
      exact .inl ⟨rfl, rfl, rfl⟩
    · rw [List.getElem?_set_ne (Ne.symm hj)] at e1
      exact .inr ⟨hj, e1⟩
  refine ⟨fun b o e => ?_, g.g0.trans sg, g.h0, fun a o e n => ?_, g.pp, by rw [List.length_set, g.len], fun j t w e1 e2 => ?_, fun j k t u w z q e1 e2 e3 e4 o1 o2 => ?_⟩
  · by_cases q : b = p
    · subst q; rw [upd_same] at e; rw [h3]; exact e
    · rw [upd_ne q] at e; exact g.same _ _ e
  · have hne : a ≠ p := fun z => by rw [z, h1] at e; cases e
    rw [upd_ne hne]; exact g.n0 a o e n
  · rcases key j t w e1 e2 with ⟨_, rfl, rfl⟩ | ⟨n1, a1⟩
    · exact ⟨_, rfl, rp⟩
    · refine (g.sl j t w a1 e2).mono sg fun q o => ⟨rfl, ?_⟩
      obtain ⟨_, b, _⟩ := g.ownAt a1 e2 o
      have hne : q ≠ p := fun z => n1 (g.ds j i t _ w _ q a1 e2 h hv o (z ▸ rfl))
      rw [upd_ne hne]; exact b
  · rcases key j t w e1 e2 with ⟨_, rfl, rfl⟩ | ⟨n1, a1⟩
    · exact o1.elim
    · rcases key k u z e3 e4 with ⟨_, rfl, rfl⟩ | ⟨n2, a2⟩
      · exact o2.elim
      · exact g.ds j k t u w z q a1 e2 a2 e4 o1 o2
theorem sm_retfz (i : Nat) {y : Str} {p2 : Pos} (h : PE X (.Name y p2) (tVar i)) : SM X (.Return (some (.Name y p2)) pos) (bindM (lookM (olAt i)) fun ds => fun ρ => some (.ret (.list ds), ρ.set i (.d (.list ds)))) := by
  refine ⟨_, ps_ret h, fun F σ H G ρ o ρ' E g hf q => ?_⟩
  obtain ⟨ds, ρ1, e1, f1⟩ := bind_some hf
  obtain ⟨e2, rfl⟩ := look_some e1
  cases f1
  obtain ⟨p, vs, hv, h1, h2, h3, h4, g2, sg, rp⟩ := g.freezeAt (ol_some e2)
  exact ⟨_, hv, q _ σ H _ g2 sg rp⟩
theorem sm_retown (i : Nat) {y : Str} {p2 : Pos} (h : PE X (.Name y p2) (tVar i)) : SM X (.Return (some (.Name y p2)) pos) (bindM (lookM (olAt i)) fun ds => retM (.ro ds)) := by
  refine ⟨_, ps_ret h, fun F σ H G ρ o ρ' E g hf q => ?_⟩
  obtain ⟨ds, ρ1, e1, f1⟩ := bind_some hf
  obtain ⟨e2, rfl⟩ := look_some e1
  have f2 : some (Out.ro ds, ρ) = some (o, ρ') := f1
  cases f2
  obtain ⟨v, hv, ok⟩ := slot_at g (ol_some e2)
  obtain ⟨p, vs, rfl, h1, h2, h3, h4⟩ := ok
  exact ⟨_, hv, q p vs σ H G g (Same.refl G) h1 h2 h3 h4⟩
theorem sm_if {ta : M Bool} {pt pe : List Stmt} (hc : TM X c ta) (h1 : SsM X pt u) (h2 : SsM X pe w) : SM X (.If c pt pe pos) (ifM ta u w) := by
  obtain ⟨t, p, k⟩ := hc.ex
  obtain ⟨t2, p2, k2⟩ := h1.ex
  obtain ⟨t3, p3, k3⟩ := h2.ex
  refine ⟨_, ps_if p p2 p3, fun F σ H G ρ o ρ' E g hf q => ?_⟩
  obtain ⟨k1, ρ1, e1, f1⟩ := bind_some hf
  refine k F σ H G ρ k1 ρ1 _ g e1 fun H1 G1 g1 s1 => ?_
  cases k1 with
  | true => exact iteT (k2 F σ H1 G1 ρ1 o ρ' E g1 f1 (q.mono s1.sg))
  | false => exact iteF (k3 F σ H1 G1 ρ1 o ρ' E g1 f1 (q.mono s1.sg))
/-! ### stores -/
def setS (i : Nat) (fv : M Sl) : M Out := bindM fv fun s => fun ρ => some (.nx, ρ.set i s)
theorem sm_set (i : Nat) (hp : ∀ t, PE X e t → PS X st (tAsg t (gName i))) (h : EV X e fv) : SM X st (setS i fv) := by
  obtain ⟨t, p, k⟩ := h.ex
  refine ⟨_, hp t p, fun F σ H G ρ o ρ' E g hf q => ?_⟩
  obtain ⟨s, ρ1, e1, f1⟩ := bind_some hf
  cases f1
  exact k F σ H G ρ s _ _ g e1 fun v H' G' g' t' n => q _ H' G' (g'.bind (fun a z => (g.fresh z).1) n) t'.sg
/-- a, b = e1, e2 by plain names -/
def parS (i j : Nat) (fv fw : M Sl) : M Out := bindM fv fun s => bindM fw fun r => fun ρ => some (.nx, (ρ.set i s).set j r)
theorem sm_par (i j : Nat) (hp : ∀ t, PA X [a, b] t → PS X st (tPar i j t)) (ha : EV X a fv) (hb : EV X b fw) (h1 : starEach [a, b] X.env = (false, eval a X.env) :: starEach [b] X.env := by rfl) (h2 : starEach [b] X.env = (false, eval b X.env) :: starEach [] X.env := by rfl) (hij : i ≠ j := by decide) : SM X st (parS i j fv fw) := by
  obtain ⟨t, p, k⟩ := ha.ex
  obtain ⟨t2, p2, k2⟩ := hb.ex
  refine ⟨_, hp _ (pa_cons p (pa_cons p2 pa_nil h2) h1), fun F σ H G ρ o ρ' E g hf q => ?_⟩
  obtain ⟨s, ρ1, e1, f1⟩ := bind_some hf
  obtain ⟨r, ρ2, e2, f2⟩ := bind_some f1
  cases f2
  refine k F σ H G ρ s _ _ g e1 fun v H1 G1 g1 t1 n1 => ?_
  refine k2 F σ H1 G1 ρ1 r _ _ g1 e2 fun v2 H2 G2 g2 t2 n2 => ?_
  refine ⟨v, v2, rfl, q _ H2 G2 ?_ (t1.sg.trans t2.sg)⟩
  have n1' := n1.step t2
  have a1 : Good X.K F (ρ2.set i s) (σ.set i (some v)) H2 G2 := g2.bind (fun a z => (g.fresh z).1) n1'
  refine a1.bind (fun a z => (g1.fresh z).1) ?_
  -- the second one is none of the first
  have no : ∀ p, H1 p = none → ¬ OwnIn ρ2 σ p → ¬ OwnIn (ρ2.set i s) (σ.set i (some v)) p := fun p hp hn z => by
    rcases own_set z with z | z
    · exact hn z
    · cases s with
      | ol ds =>
        obtain ⟨p', vs, rfl, m1, m2, m3, _⟩ := n1
        have e : p' = p := by have w : some (V.ref p') = some (V.ref p) := z; exact V.ref.inj (Option.some.inj w)
        rw [e, hp] at m3; cases m3
      | dk ds =>
        obtain ⟨p', vs, rfl, m1, m2, m3, _⟩ := n1
        have e : p' = p := by have w : some (V.ref p') = some (V.ref p) := z; exact V.ref.inj (Option.some.inj w)
        rw [e, hp] at m3; cases m3
      | dt ds =>
        obtain ⟨p', vs, rfl, m1, m2, m3, _⟩ := n1
        have e : p' = p := by have w : some (V.ref p') = some (V.ref p) := z; exact V.ref.inj (Option.some.inj w)
        rw [e, hp] at m3; cases m3
      | d x => exact z.elim
      | no => exact z.elim
      | pot _ => exact n1.elim
      | rd _ => exact z.elim
  cases r with
  | d x => exact n2
  | ol ds => obtain ⟨p, vs, e, m1, m2, m3, m4, m5⟩ := n2; exact ⟨p, vs, e, m1, m2, m3, m4, no p m1 m5⟩
  | dk ds => obtain ⟨p, vs, e, m1, m2, m3, m4, m5⟩ := n2; exact ⟨p, vs, e, m1, m2, m3, m4, no p m1 m5⟩
  | dt ds => obtain ⟨p, vs, e, m1, m2, m3, m4, m5⟩ := n2; exact ⟨p, vs, e, m1, m2, m3, m4, no p m1 m5⟩
  | no => exact n2.elim
  | pot _ => exact n2.elim
  | rd _ => exact n2.elim
end
end PD
end
/-! PD8: stores into one's own lists, targets, loops. -/
noncomputable section
namespace PD
open PySem PySem.Spec PyProof.Rows L2
section
variable {X : Cx} {pos pos' : Pos} {x : Str} {e a b c : Expr} {st : Stmt} {rest body : List Stmt} {f fa fb : M D} {fo : M (List D)} {fv fw : M Sl} {u w : M Out}
/-! ### x op= e -/
abbrev dAt (i : Nat) : List Sl → Option D := fun ρ => match ρ[i]? with
  | some (.d x) => some x
  | _ => none
theorem d_some {i : Nat} {ρ : List Sl} {d : D} (h : dAt i ρ = some d) : ρ[i]? = some (.d d) := by
  simp only [dAt] at h
  split at h
  · cases h; assumption
  · cases h
def augS (i : Nat) (g : D → D → Option D) (fa : M D) : M Out := bindM (lookM (dAt i)) fun x => bindM fa fun y => bindM (optM (g x y)) fun z => fun ρ => some (.nx, ρ.set i (.d z))
theorem sm_aug {op : Operator} {g : D → D → Option D} (i : Nat) (ho : OpD X (inplaceOp op) g) (hp : ∀ t r, PE X e t → PIp X op r → PS X st (tAug i t r)) (h : EM X e fa) : SM X st (augS i g fa) := by
  obtain ⟨r, hr, wr⟩ := ho.ex
  obtain ⟨t, p, k⟩ := h.ex
  refine ⟨_, hp t r p hr, fun F σ H G ρ o ρ' E g0 hf q => ?_⟩
  obtain ⟨x, ρ0, e0, f0⟩ := bind_some hf
  obtain ⟨e0', rfl⟩ := look_some e0
  obtain ⟨y, ρ1, e1, f1⟩ := bind_some f0
  obtain ⟨z, ρ2, e2, f2⟩ := bind_some f1
  obtain ⟨e3, rfl⟩ := opt_some e2
  cases f2
  obtain ⟨v, hv, ok⟩ := slot_at g0 (d_some e0')
  obtain ⟨v', rfl, rx⟩ := ok
  refine ⟨v', hv, k F σ H G ρ y _ _ g0 e1 fun u H1 G1 g1 t1 r1 => ?_⟩
  exact wr F _ σ H1 G1 x y v' u z _ g1 (rx.mono t1.sg) r1 e3 fun w H2 G2 g2 t2 r2 => q _ H2 G2 (g2.bind (fun a z => (g2.fresh z).1) (s := .d z) r2) (t1.sg.trans t2.sg)
theorem o_iadd : OpD X (inplaceOp .Add) (fun a b => match a, b with | .int i, .int j => some (.int (i + j)) | _, _ => none) := opd_I0 (gd := fun i j => .int (i + j)) iop_add fun _ _ _ => .int _
theorem o_isub : OpD X (inplaceOp .Sub) (fun a b => match a, b with | .int i, .int j => some (.int (i - j)) | _, _ => none) := opd_I0 (gd := fun i j => .int (i - j)) iop_sub fun _ _ _ => .int _
theorem o_imul : OpD X (inplaceOp .Mult) (fun a b => match a, b with | .int i, .int j => if MulOk i j then some (.int (i * j)) else none | _, _ => none) := opd_I (gd := fun i j => .int (i * j)) (opI fun _ _ _ _ _ _ _ hc q => imul_int q hc.ok) fun _ _ _ => .int _
/-! ### one's own list is changed -/
/-- the items of the own list at slot i, and how they are put back -/
abbrev ownL (i : Nat) : List Sl → Option (List D) := fun ρ => match ρ[i]? with
  | some (.pot xs) => some xs
  | some (.ol xs) => some xs
  | _ => none
abbrev putL (i : Nat) (xs : List D) (ρ : List Sl) : List Sl := match ρ[i]? with
  | some (.pot _) => ρ.set i (.pot xs)
  | _ => ρ.set i (.ol xs)
theorem ownL_at {K : PySem.W.Frag} {F : Fr} {ρ : List Sl} {σ : St} {H G : Hp} {i : Nat} {ds : List D} (g : Good K F ρ σ H G) (h : ownL i ρ = some ds) :
    ∃ p vs, σ[i]? = some (some (.ref p)) ∧ G p = none ∧ H p = some (.lst vs) ∧ Reps K G vs ds ∧ ∀ (ds' : List D) (vs' : List V), Reps K G vs' ds' → Good K F (putL i ds' ρ) σ (upd H p (.lst vs')) G ∧ Tr σ ρ H G (putL i ds' ρ) (upd H p (.lst vs')) G := by
  have go : ∀ (s s' : List D → Sl) , ρ[i]? = some (s ds) → (∀ ds', OwnA (s ds') = fun v p => v = some (.ref p)) → True := fun _ _ _ _ => trivial
  simp only [ownL] at h
  split at h
  · rename_i xs hr
    cases h
    obtain ⟨v, hv, ok⟩ := slot_at g hr
    obtain ⟨p, vs, rfl, h1, h2, h3, h4⟩ := ok
    refine ⟨p, vs, hv, h2, h3, h4, fun ds' vs' r' => ?_⟩
    simp only [putL, hr]
    exact g.put (s' := .pot ds') hr hv rfl rfl (fun a o e n => by rw [upd_ne n]; exact e) (Same.refl G) (fun b o e => by rw [upd_ne (ne_of_none e h2)]; exact g.same _ _ e) (fun _ _ _ n => n) ⟨p, vs', rfl, h1, h2, upd_same, r'⟩
  · rename_i xs hr
    cases h
    obtain ⟨v, hv, ok⟩ := slot_at g hr
    obtain ⟨p, vs, rfl, h1, h2, h3, h4⟩ := ok
    refine ⟨p, vs, hv, h2, h3, h4, fun ds' vs' r' => ?_⟩
    simp only [putL, hr]
    exact g.put (s' := .ol ds') hr hv rfl rfl (fun a o e n => by rw [upd_ne n]; exact e) (Same.refl G) (fun b o e => by rw [upd_ne (ne_of_none e h2)]; exact g.same _ _ e) (fun _ _ _ n => n) ⟨p, vs', rfl, h1, h2, upd_same, r'⟩
  · cases h
theorem own_slot {i : Nat} {ρ : List Sl} {ds : List D} (h : ownL i ρ = some ds) : ownB i ρ = true := by
  simp only [ownL] at h
  simp only [ownB]
  split at h
  · rename_i hr; first | rw [hr] | rfl
  · rename_i hr; first | rw [hr] | rfl
  · cases h
/-- x.append(e) -/
def appS (i : Nat) (fa : M D) : M Out := bindM (guardM (ownB i)) fun _ => bindM fa fun d => fun ρ => match ownL i ρ with
  | some ds => if ds.length < 16000000 then some (.nx, putL i (ds ++ [d]) ρ) else none
  | none => none
theorem appS_line {n : Nat} (h : n < 16000000) : n < sizeLine := by rw [sizeLine_eq]; omega
theorem sm_append (i : Nat) (hp : ∀ t, PA X [e] t → PS X st (tDrop (tBM X.K "list" rAppend (tVar i) t))) (h : EM X e fa) (h1 : starEach [e] X.env = (false, eval e X.env) :: starEach [] X.env := by rfl) : SM X st (appS i fa) := by
  obtain ⟨t, p, k⟩ := h.ex
  refine ⟨_, hp _ (pa_cons p pa_nil h1), fun F σ H G ρ o ρ' E g hf q => ?_⟩
  obtain ⟨_, ρ0, e0, f0⟩ := bind_some hf
  obtain ⟨hb, rfl⟩ := guard_some e0
  obtain ⟨d, ρ1, e1, f1⟩ := bind_some f0
  obtain ⟨v, hv⟩ := own_val g hb
  refine ⟨v, hv, ?_, k F σ H G ρ d ρ1 _ g e1 fun y H1 G1 g1 t1 r1 => ?_⟩
  · -- its type
    have : ∃ ds, ownL i ρ = some ds := by
      simp only [ownB] at hb
      simp only [ownL]
      split at hb
      · rename_i hr; (try rw [hr]); exact ⟨_, rfl⟩
      · rename_i hr; (try rw [hr]); exact ⟨_, rfl⟩
      · cases hb
    obtain ⟨ds, hds⟩ := this
    obtain ⟨p, vs, hv2, _, h3, _⟩ := ownL_at g hds
    rw [hv] at hv2; cases hv2
    exact .inl ⟨rfl, vs, SqL.of h3⟩
  · split at f1
    · rename_i ds hds
      split at f1
      · rename_i hlen
        cases f1
        obtain ⟨p, vs, hv2, h2, h3, h4, put⟩ := ownL_at g1 hds
        rw [hv] at hv2; cases hv2
        obtain ⟨g2, t2⟩ := put (ds ++ [d]) (vs ++ [y]) (h4.append (.cons r1 .nil))
        exact ⟨p, vs, y, rfl, rfl, h3, by rw [h4.length]; exact appS_line hlen, q σ _ G1 g2 (t1.sg.trans t2.sg)⟩
      · cases f1
    · cases f1
/-- x[k] = e -/
def stoS (i : Nat) (fa fk : M D) : M Out := bindM fa fun d => bindM (guardM (ownB i)) fun _ => bindM fk fun k => fun ρ => match ownL i ρ, k with
  | some ds, .int k => (match ixN ds.length k with
    | some j => some (.nx, putL i (ds.set j d) ρ)
    | none => none)
  | _, _ => none
theorem sm_store {fk : M D} (i : Nat) (hp : ∀ t ti, PE X e t → PE X a ti → PS X st (tAsg t (gSub (tVar i) ti rSetL))) (h : EM X e fa) (hk : EM X a fk) : SM X st (stoS i fa fk) := by
  obtain ⟨t, p, k⟩ := h.ex
  obtain ⟨t2, p2, k2⟩ := hk.ex
  refine ⟨_, hp t t2 p p2, fun F σ H G ρ o ρ' E g hf q => ?_⟩
  obtain ⟨d, ρ1, e1, f1⟩ := bind_some hf
  obtain ⟨_, ρ0, e0, f0⟩ := bind_some f1
  obtain ⟨hb, rfl⟩ := guard_some e0
  obtain ⟨j, ρ2, e2, f2⟩ := bind_some f0
  refine k F σ H G ρ d ρ1 _ g e1 fun y H1 G1 g1 t1 r1 => ?_
  obtain ⟨v, hv⟩ := own_val g1 hb
  refine ⟨v, hv, k2 F σ H1 G1 ρ1 j ρ2 _ g1 e2 fun z H2 G2 g2 t2 r2 => ?_⟩
  split at f2
  · rename_i ds kk hds
    split at f2
    · rename_i jj hj
      cases f2
      cases r2
      obtain ⟨p, vs, hv2, h2, h3, h4, put⟩ := ownL_at g2 hds
      rw [hv] at hv2; cases hv2
      obtain ⟨g3, t3⟩ := put (ds.set jj d) (vs.set jj y) (h4.set (r1.mono t2.sg) jj)
      exact ⟨p, vs, kk, jj, rfl, rfl, h3, by rw [h4.length]; exact hj, q σ _ G2 g3 ((t1.sg.trans t2.sg).trans t3.sg)⟩
    · cases f2
  · cases f2
theorem get_list : PGet X (rIxL X.K) := by
  intro pins s σ H x y v u Q I rx ry h
  obtain ⟨p, xs, i, z, rfl, rfl, hq, he, q⟩ := h
  cases rx
  obtain ⟨t, rfl⟩ := ry
  obtain ⟨its, r, pl, hz⟩ := I.list hq
  obtain ⟨j, h1, h2, h3, h4, h5⟩ := atI_get he
  obtain ⟨w, ew, rw'⟩ := r.get h2
  have hl := r.length
  have hn := line63
  have fin : EP X pins σ Q w s := ⟨z, H, I, rw', q⟩
  by_cases h0 : 0 ≤ i
  · have hj : i.toNat = j := by
      rw [seqIndex_of h0 h5] at h1
      exact Option.some.inj h1
    exact wpAny_getItem_list pl.isList h0 (by omega) (by rw [hj]; simpa using ew) fin
  · have hj : (i + (its.toArray.size : Int)).toNat = j := by
      rw [seqIndex_neg (by omega) h4] at h1
      rw [List.size_toArray, ← hl]
      exact Option.some.inj h1
    exact wpAny_getItem_list_neg pl.isList (by omega) (by rw [List.size_toArray] <;> omega) (by omega) (by rw [hj]; simpa using ew) fin
/-- x[k] op= e -/
def augI (i : Nat) (g : D → D → Option D) (fk fa : M D) : M Out := bindM (guardM (ownB i)) fun _ => bindM (intM fk) fun k => bindM (lookM fun ρ => (ownL i ρ).bind fun ds => atI ds k) fun x => bindM fa fun y => bindM (optM (g x y)) fun z => fun ρ => match ownL i ρ with
  | some ds => (match ixN ds.length k with
    | some j => some (.nx, putL i (ds.set j z) ρ)
    | none => none)
  | none => none
theorem sm_augI {op : Operator} {g : D → D → Option D} {fk : M D} (i : Nat) (ho : OpD X (inplaceOp op) g) (hp : ∀ t ti r, PE X e t → PE X a ti → PIp X op r → PS X st (tAugS (tVar i) ti t (rIxL X.K) r rSetL)) (h : EM X e fa) (hk : EM X a fk) : SM X st (augI i g fk fa) := by
  obtain ⟨r, hr, wr⟩ := ho.ex
  obtain ⟨t, p, k⟩ := h.ex
  obtain ⟨t2, p2, k2⟩ := hk.ex
  refine ⟨_, hp t t2 r p p2 hr, fun F σ H G ρ o ρ' E g0 hf q => ?_⟩
  obtain ⟨_, ρ0, e0, f0⟩ := bind_some hf
  obtain ⟨hb, rfl⟩ := guard_some e0
  obtain ⟨j, ρ1, e1, f1⟩ := bind_some f0
  obtain ⟨dj, ρ1', e1', f1'⟩ := bind_some e1
  obtain ⟨ej, rfl⟩ := opt_some f1'
  have hj := int_some ej
  subst hj
  obtain ⟨x, ρ2, e2, f2⟩ := bind_some f1
  obtain ⟨e2', rfl⟩ := look_some e2
  obtain ⟨y, ρ3, e3, f3⟩ := bind_some f2
  obtain ⟨z, ρ4, e4, f4⟩ := bind_some f3
  obtain ⟨e4', rfl⟩ := opt_some e4
  obtain ⟨v, hv⟩ := own_val g0 hb
  refine ⟨v, hv, k2 F σ H G ρ (.int j) _ _ g0 e1' fun vi H1 G1 g1 t1 r1 => ?_⟩
  cases r1
  obtain ⟨ds, hds, hx⟩ := Option.bind_eq_some_iff.mp e2'
  obtain ⟨p1, vs, hv2, h2, h3, h4, _⟩ := ownL_at g1 hds
  rw [hv] at hv2; cases hv2
  obtain ⟨vx, hvx, rx⟩ := atI_rep h4 hx
  refine ⟨p1, vs, j, vx, rfl, rfl, SqL.of h3, hvx, k F σ H1 G1 _ y _ _ g1 e3 fun vy H2 G2 g2 t2 r2 => ?_⟩
  refine wr F _ σ H2 G2 x y vx vy z _ g2 (rx.mono t2.sg) r2 e4' fun vz H3 G3 g3 t3 r3 => ?_
  split at f4
  · rename_i ds' hds'
    split at f4
    · rename_i jj hjj
      cases f4
      obtain ⟨p2, vs2, hv2, h2', h3', h4', put⟩ := ownL_at g3 hds'
      rw [hv] at hv2; cases hv2
      obtain ⟨g5, t5⟩ := put (ds'.set jj z) (vs2.set jj vz) (h4'.set r3 jj)
      exact ⟨p1, vs2, j, jj, rfl, rfl, h3', by rw [h4'.length]; exact hjj, q σ _ G3 g5 (((t1.sg.trans t2.sg).trans t3.sg).trans t5.sg)⟩
    · cases f4
  · cases f4
/-- x.pop() -/
def popS (i : Nat) : M D := fun ρ => match ownL i ρ with
  | some ds => (match ds[ds.length - 1]? with
    | some d => some (d, putL i ds.dropLast ρ)
    | none => none)
  | none => none
theorem em_pop (i : Nat) (hp : PE X e (tBM0 X.K "list" rPop (tVar i))) : EM X e (popS i) := by
  refine ⟨_, hp, fun F σ H G ρ d ρ' Q g hf q => ?_⟩
  simp only [popS] at hf
  split at hf
  · rename_i ds hds
    split at hf
    · rename_i x hx
      cases hf
      obtain ⟨p, vs, hv, h2, h3, h4, put⟩ := ownL_at g hds
      obtain ⟨y, hy, ry⟩ := h4.get hx
      obtain ⟨g2, t2⟩ := put ds.dropLast vs.dropLast h4.dropLast
      exact ⟨_, hv, .inl ⟨rfl, vs, SqL.of h3⟩, p, vs, y, rfl, rfl, h3, by rw [h4.length]; exact hy, q y _ G g2 t2 ry⟩
    · cases hf
  · cases hf
/-- x.extend(e), e data -/
def extS (i : Nat) (fa : M D) : M Out := bindM (guardM (ownB i)) fun _ => bindM fa fun d => fun ρ => match ownL i ρ, d with
  | some ds, .list es => if ds.length + es.length ≤ 16000000 then some (.nx, putL i (ds ++ es) ρ) else none
  | _, _ => none
theorem sm_extend (i : Nat) (hp : ∀ t, PA X [e] t → PS X st (tDrop (tBM X.K "list" rExtend (tVar i) t))) (h : EM X e fa) (h1 : starEach [e] X.env = (false, eval e X.env) :: starEach [] X.env := by rfl) : SM X st (extS i fa) := by
  obtain ⟨t, p, k⟩ := h.ex
  refine ⟨_, hp _ (pa_cons p pa_nil h1), fun F σ H G ρ o ρ' E g hf q => ?_⟩
  obtain ⟨_, ρ0, e0, f0⟩ := bind_some hf
  obtain ⟨hb, rfl⟩ := guard_some e0
  obtain ⟨d, ρ1, e1, f1⟩ := bind_some f0
  obtain ⟨v, hv⟩ := own_val g hb
  refine ⟨v, hv, ?_, k F σ H G ρ d ρ1 _ g e1 fun y H1 G1 g1 t1 r1 => ?_⟩
  · have : ∃ ds, ownL i ρ = some ds := by
      simp only [ownB] at hb
      simp only [ownL]
      split at hb
      · rename_i hr; (try rw [hr]); exact ⟨_, rfl⟩
      · rename_i hr; (try rw [hr]); exact ⟨_, rfl⟩
      · cases hb
    obtain ⟨ds, hds⟩ := this
    obtain ⟨p, vs, hv2, _, h3, _⟩ := ownL_at g hds
    rw [hv] at hv2; cases hv2
    exact .inl ⟨rfl, vs, SqL.of h3⟩
  · split at f1
    · rename_i ds es hds
      split at f1
      · rename_i hlen
        cases f1
        cases r1 with
        | lst a1 a2 =>
          obtain ⟨p, vs, hv2, h2, h3, h4, put⟩ := ownL_at g1 hds
          rw [hv] at hv2; cases hv2
          obtain ⟨g2, t2⟩ := put (ds ++ es) (vs ++ _) (h4.append a2)
          exact ⟨p, _, vs, _, rfl, rfl, h3, g1.same _ _ a1, by rw [h4.length, a2.length]; exact line16 hlen, q σ _ G1 g2 (t1.sg.trans t2.sg)⟩
      · cases f1
    · cases f1
/-! ### targets -/
structure GM (X : Cx) (tg : Expr) (is : List Nat) (f : D → List Sl → Option (List Sl)) : Prop where
  ex : ∃ g, PG X tg g ∧ ∀ (F : Fr) (σ : St) (H G : Hp) (ρ : List Sl) (v : V) (d : D) (ρ' : List Sl) (Q : St → Hp → Prop), Good X.K F ρ σ H G → Rep X.K G v d → f d ρ = some ρ' →
    (∀ σ', Good X.K F ρ' σ' H G → (∀ vs : List Nat, (∀ i ∈ is, i ∈ vs) → wipe σ' vs = wipe σ vs) → (∀ a, OwnIn ρ' σ' a → OwnIn ρ σ a) → Q σ' H) → g v σ H Q
structure GsM (X : Cx) (tgs : List Expr) (is : List Nat) (f : List D → List Sl → Option (List Sl)) : Prop where
  ex : ∃ g, PGs X tgs g ∧ ∀ (F : Fr) (σ : St) (H G : Hp) (ρ : List Sl) (vs : List V) (ds : List D) (ρ' : List Sl) (Q : St → Hp → Prop), Good X.K F ρ σ H G → Reps X.K G vs ds → f ds ρ = some ρ' →
    (∀ σ', Good X.K F ρ' σ' H G → (∀ ws : List Nat, (∀ i ∈ is, i ∈ ws) → wipe σ' ws = wipe σ ws) → (∀ a, OwnIn ρ' σ' a → OwnIn ρ σ a) → Q σ' H) → g vs σ H Q
theorem wipe_get {σ : St} {vs : List Nat} {j : Nat} : (wipe σ vs)[j]? = if j ∈ vs then σ[j]?.map fun _ => none else σ[j]? := by
  induction vs with
  | nil => simp [wipe]
  | cons v vs ih =>
    unfold wipe
    by_cases hj : v = j
    · subst hj
      rw [if_pos List.mem_cons_self]
      by_cases hl : v < σ.length
      · rw [List.getElem?_set_self (by rw [wipe_length]; exact hl), List.getElem?_eq_getElem hl]; rfl
      · rw [List.getElem?_eq_none (by rw [List.length_set, wipe_length]; omega), List.getElem?_eq_none (by omega)]; rfl
    · rw [List.getElem?_set_ne hj, ih]
      have : (j ∈ v :: vs) ↔ j ∈ vs := by
        rw [List.mem_cons]
        exact ⟨fun h => h.resolve_left (Ne.symm hj), Or.inr⟩
      by_cases h : j ∈ vs
      · rw [if_pos h, if_pos (this.mpr h)]
      · rw [if_neg h, if_neg (fun z => h (this.mp z))]
theorem wipe_set {σ : St} {i : Nat} {v : Option V} {vs : List Nat} (h : i ∈ vs) : wipe (σ.set i v) vs = wipe σ vs := by
  apply List.ext_getElem?
  intro j
  rw [wipe_get, wipe_get]
  by_cases hj : j ∈ vs
  · rw [if_pos hj, if_pos hj]
    by_cases e : i = j
    · subst e
      by_cases hl : i < σ.length
      · rw [List.getElem?_set_self hl, List.getElem?_eq_getElem hl]; rfl
      · rw [List.getElem?_eq_none (by simpa using hl), List.getElem?_eq_none (by omega)]
    · rw [List.getElem?_set_ne e]
  · rw [if_neg hj, if_neg hj]
    have e : i ≠ j := fun z => hj (z ▸ h)
    rw [List.getElem?_set_ne e]
theorem gm_name (i : Nat) {y : Str} (h : PG X (.Name y pos) (gName i)) : GM X (.Name y pos) [i] (fun d ρ => some (ρ.set i (.d d))) := by
  refine ⟨_, h, fun F σ H G ρ v d ρ' Q g r hf q => ?_⟩
  cases hf
  exact q _ (g.bind (fun a z => (g.fresh z).1) (s := .d d) r) (fun vs hv => wipe_set (hv i (List.mem_singleton.mpr rfl))) fun a z => (own_set z).resolve_right fun z => z.elim
theorem gsm_nil : GsM X [] [] (fun ds ρ => match ds with | [] => some ρ | _ => none) := by
  refine ⟨_, pgs_nil, fun F σ H G ρ vs ds ρ' Q g r hf q => ?_⟩
  split at hf
  · cases hf
    cases r
    exact ⟨rfl, q σ g (fun _ _ => rfl) fun _ z => z⟩
  · cases hf
abbrev gcons (f : D → List Sl → Option (List Sl)) (fs : List D → List Sl → Option (List Sl)) : List D → List Sl → Option (List Sl) := fun ds ρ => match ds with
  | d :: ds => (match f d ρ with
    | some ρ1 => fs ds ρ1
    | none => none)
  | [] => none
theorem gsm_cons {es : List Expr} {is js : List Nat} {f1 : D → List Sl → Option (List Sl)} {f2 : List D → List Sl → Option (List Sl)} (h1 : GM X e is f1) (h2 : GsM X es js f2) (hs : (assignEach (e :: es) X.env).map (·.2) = assign e X.env :: (assignEach es X.env).map (·.2) := by rfl) : GsM X (e :: es) (is ++ js) (gcons f1 f2) := by
  obtain ⟨g1, p1, k1⟩ := h1.ex
  obtain ⟨g2, p2, k2⟩ := h2.ex
  refine ⟨_, pgs_cons p1 p2 hs, fun F σ H G ρ vs ds ρ' Q g r hf q => ?_⟩
  simp only [gcons] at hf
  split at hf
  · rename_i d ds'
    split at hf
    · rename_i ρ1 e1
      cases r with
      | cons r1 r2 =>
        refine ⟨_, _, rfl, k1 F σ H G ρ _ d ρ1 _ g r1 e1 fun σ1 gg1 w1 o1 => ?_⟩
        exact k2 F σ1 H G ρ1 _ ds' ρ' _ gg1 r2 hf fun σ2 gg2 w2 o2 => q σ2 gg2 (fun ws hw => (w2 ws fun i hi => hw i (List.mem_append_right _ hi)).trans (w1 ws fun i hi => hw i (List.mem_append_left _ hi))) fun a z => o1 a (o2 a z)
    · cases hf
  · cases hf
abbrev gtup (fs : List D → List Sl → Option (List Sl)) : D → List Sl → Option (List Sl) := fun d ρ => match d with
  | .tuple ds => fs ds ρ
  | _ => none
theorem gsm_len {es : List Expr} : True := trivial
theorem gm_tup {es : List Expr} {is : List Nat} {f2 : List D → List Sl → Option (List Sl)} {k : Nat} {n : Nat} (h : GsM X es is f2) (hl : ∀ ds ρ ρ', f2 ds ρ = some ρ' → ds.length = n) (hc : X.calm = true := by rfl) (hn : (assignEach es X.env).length = n := by rfl) (hst : (assignEach es X.env).findIdx? (·.1) = none := by rfl) :
    GM X (.Tuple es k pos) is (gtup f2) := by
  obtain ⟨g2, p2, k2⟩ := h.ex
  refine ⟨_, pg_tup hc p2 hn hst, fun F σ H G ρ v d ρ' Q g r hf q => ?_⟩
  simp only [gtup] at hf
  split at hf
  · rename_i ds
    cases r with
    | tup a1 a2 => exact ⟨_, _, rfl, same_seqT g.same a1, by rw [a2.length]; exact hl _ _ _ hf, k2 F σ H G ρ _ ds ρ' Q g a2 hf q⟩
  · cases hf
theorem glen0 : ∀ (ds : List D) (ρ ρ' : List Sl), (match ds with | [] => some ρ | _ => none) = some ρ' → ds.length = 0 := fun ds ρ ρ' h => by
  cases ds with
  | nil => rfl
  | cons d ds => cases h
theorem glenS {n : Nat} {f1 : D → List Sl → Option (List Sl)} {f2 : List D → List Sl → Option (List Sl)} (h : ∀ ds ρ ρ', f2 ds ρ = some ρ' → ds.length = n) : ∀ ds ρ ρ', gcons f1 f2 ds ρ = some ρ' → ds.length = n + 1 := fun ds ρ ρ' hf => by
  simp only [gcons] at hf
  split at hf
  · split at hf
    · rw [List.length_cons, h _ _ _ hf]
    · cases hf
  · cases hf
/-- a, b = e (a tuple) -/
def asgS (ft : D → List Sl → Option (List Sl)) (fa : M D) : M Out := bindM fa fun d => fun ρ => match ft d ρ with
  | some ρ1 => some (.nx, ρ1)
  | none => none
theorem sm_asg {tg : Expr} {is : List Nat} {ft : D → List Sl → Option (List Sl)} (hp : ∀ t g, PE X e t → PG X tg g → PS X st (tAsg t g)) (ht : GM X tg is ft) (h : EM X e fa) : SM X st (asgS ft fa) := by
  obtain ⟨t, p, k⟩ := h.ex
  obtain ⟨g1, p1, k1⟩ := ht.ex
  refine ⟨_, hp t g1 p p1, fun F σ H G ρ o ρ' E g hf q => ?_⟩
  obtain ⟨d, ρ1, e1, f1⟩ := bind_some hf
  split at f1
  · rename_i ρ2 e2
    cases f1
    exact k F σ H G ρ d ρ1 _ g e1 fun v H1 G1 g1 t1 r1 => k1 F σ H1 G1 ρ1 v d _ _ g1 r1 e2 fun σ' g2 _ _ => q σ' H1 G1 g2 t1.sg
  · cases f1
end
end PD
end
/-! PD9: what is walked; for, while, comprehensions. -/
noncomputable section
namespace PD
open PySem PySem.Spec PyProof.Rows L2
/-- what a turn gives: an item that stood, or a new tuple -/
def ItemOk (K : PySem.W.Frag) (G : Hp) (d : D) (H : Hp) (x : V) (H' : Hp) : Prop :=
  (H' = H ∧ Rep K G x d) ∨ ∃ T vs es, x = .ref T ∧ H T = none ∧ H' = upd H T (.tup vs) ∧ d = .tuple es ∧ Reps K G vs es
structure IM (X : Cx) (tg iter : Expr) (f : M (List D)) : Prop where
  ex : ∃ wi, PI X tg iter wi ∧ ∀ (F : Fr) (σ : St) (H G : Hp) (ρ : List Sl) (ds : List D) (ρ' : List Sl) (R : It → Hp → Prop), Good X.K F ρ σ H G → f ρ = some (ds, ρ') →
    (∀ J H1 G1 (Gd : Hp → Prop) Y, Good X.K F ρ' σ H1 G1 → Tr σ ρ H G ρ' H1 G1 → Walk J ds.length Gd Y → (∀ H', Same G1 H' → Gd H') → (∀ i x H2 H3, i < ds.length → Same G1 H2 → Y i H2 x H3 → ∃ d, ds[i]? = some d ∧ ItemOk X.K G1 d H2 x H3) → R J H1) → wi σ H R
section
variable {X : Cx} {pos p : Pos} {tg iter e a b c : Expr} {es : List Expr} {st : Stmt} {body : List Stmt} {f fa fb : M D} {fr fq : M Rf} {fi : M (List D)} {u w : M Out}
theorem PI.or {w1 w2 : TI} (h1 : PI X tg iter w1) (h2 : PI X tg iter w2) : PI X tg iter (fun σ H R => w1 σ H R ∨ w2 σ H R) := ⟨fun pins s σ H R I h => by
  rcases h with h | h
  · exact h1.run pins s σ H R I h
  · exact h2.run pins s σ H R I h⟩
/-- items that stay: those of data, of a list that is read -/
abbrev looki : Rf → List Sl → Option (Bool × List D)
  | .d (.list xs), _ => some (false, xs)
  | .d (.tuple xs), _ => some (true, xs)
  | .d _, _ => none
  | .s i, ρ => match ρ[i]? with
    | some (.rd xs) => some (false, xs)
    | some (.d (.list xs)) => some (false, xs)
    | some (.d (.tuple xs)) => some (true, xs)
    | _ => none
theorem looki_ok {K : PySem.W.Frag} {F : Fr} {ρ : List Sl} {σ : St} {H G : Hp} {v : V} {r : Rf} {b : Bool} {ds : List D} (g : Good K F ρ σ H G) (h : RfOk K G σ v r) (hl : looki r ρ = some (b, ds)) :
    ∃ a xs, v = .ref a ∧ (if b = true then SqT K G a xs else SqL K G a xs) ∧ Reps K G xs ds := by
  have main : ∀ (x : D) (v : V), Rep K G v x → looki (.d x) ρ = some (b, ds) → ∃ a xs, v = .ref a ∧ (if b = true then SqT K G a xs else SqL K G a xs) ∧ Reps K G xs ds := fun x v h hl => by
    cases x with
    | tuple ys =>
      cases hl
      cases h with
      | tup h1 h2 => exact ⟨_, _, rfl, by rw [if_pos rfl]; exact h1, h2⟩
    | list ys =>
      cases hl
      cases h with
      | lst h1 h2 => exact ⟨_, _, rfl, by rw [if_neg (by decide)]; exact SqL.of h1, h2⟩
    | none => cases hl
    | bool _ => cases hl
    | int _ => cases hl
    | str _ => cases hl
    | dict _ => cases hl
  cases r with
  | d x => exact main x v h hl
  | s i =>
    have hv : σ[i]? = some (some v) := h
    have hi : i < σ.length := by
      rcases Nat.lt_or_ge i σ.length with q | q
      · exact q
      · rw [List.getElem?_eq_none q] at hv; cases hv
    obtain ⟨s, hs⟩ : ∃ s, ρ[i]? = some s := ⟨_, List.getElem?_eq_getElem (by rw [g.len]; exact hi)⟩
    have ok := g.sl i s _ hs hv
    simp only [looki, hs] at hl
    cases s with
    | no => cases hl
    | dk _ => cases hl
    | dt _ => cases hl
    | pot _ => cases hl
    | ol _ => cases hl
    | rd xs =>
      cases hl
      obtain ⟨p, vs, e, h1, h2⟩ := ok
      cases e
      exact ⟨_, _, rfl, by rw [if_neg (by decide)]; exact h1, h2⟩
    | d x =>
      obtain ⟨u, e, r⟩ := ok
      cases e
      refine main x v r ?_
      cases x <;> first | exact hl | cases hl
theorem im_cm (h : CM X iter fr) : IM X tg iter (bindM fr fun r => lookM fun ρ => (looki r ρ).map (·.2)) := by
  obtain ⟨t, q, w⟩ := h.ex
  refine ⟨_, PI.or (pi_list q) (pi_tup q), fun F σ H G ρ ds ρ' R g hf k => ?_⟩
  obtain ⟨r, ρ1, e1, f1⟩ := bind_some hf
  obtain ⟨e2, rfl⟩ := look_some f1
  obtain ⟨⟨b, ds'⟩, e3, e4⟩ := Option.map_eq_some_iff.mp e2
  cases e4
  cases b with
  | false =>
    refine .inl (w F σ H G ρ r _ _ g e1 fun v H1 G1 g1 t1 r1 => ?_)
    obtain ⟨l, xs, rfl, hq, hr⟩ := looki_ok g1 r1 e3
    rw [if_neg (by decide)] at hq
    refine ⟨l, rfl, ⟨xs, g1.same.seq hq⟩, ?_⟩
    have hw := walk_list (K := X.K) (a := l) (xs := xs)
    rw [hr.length] at hw
    refine k _ H1 G1 _ _ g1 t1 hw (fun H' s => s.seq hq) fun i x H2 H3 hi s y => ?_
    obtain ⟨rfl, hx⟩ := y
    have hd : ds'[i]? = some ds'[i] := List.getElem?_eq_getElem hi
    obtain ⟨v, hv, rv⟩ := hr.get hd
    rw [hx] at hv; cases hv
    exact ⟨_, hd, .inl ⟨rfl, rv⟩⟩
  | true =>
    refine .inr (w F σ H G ρ r _ _ g e1 fun v H1 G1 g1 t1 r1 => ?_)
    obtain ⟨l, xs, rfl, hq, hr⟩ := looki_ok g1 r1 e3
    rw [if_pos rfl] at hq
    refine ⟨l, rfl, ⟨xs, same_seqT g1.same hq⟩, ?_⟩
    have hw := walk_tup (K := X.K) (a := l) (xs := xs)
    rw [hr.length] at hw
    refine k _ H1 G1 _ _ g1 t1 hw (fun H' s => same_seqT s hq) fun i x H2 H3 hi s y => ?_
    obtain ⟨rfl, hx⟩ := y
    have hd : ds'[i]? = some ds'[i] := List.getElem?_eq_getElem hi
    obtain ⟨v, hv, rv⟩ := hr.get hd
    rw [hx] at hv; cases hv
    exact ⟨_, hd, .inl ⟨rfl, rv⟩⟩
/-- lo, .., below hi -/
abbrev rangeD (lo hi : Int) : List D := (List.range (hi - lo).toNat).map fun (i : Nat) => .int (lo + i)
def RgOk (i : Int) : Prop := -4611686018427387904 ≤ i ∧ i < 4611686018427387904
noncomputable instance (i : Int) : Decidable (RgOk i) := Classical.propDecidable _
abbrev rangeG : List D → Option (List D)
  | [.int j] => if RgOk j then some (rangeD 0 j) else none
  | [.int i, .int j] => if RgOk i ∧ RgOk j then some (rangeD i j) else none
  | _ => none
theorem range_walk {K : PySem.W.Frag} {G1 : Hp} (lo hi : Int) (i : Nat) (x : V) (H2 H3 : Hp) (h : i < (rangeD lo hi).length) (y : YFn (fun i => .int (lo + i)) i H2 x H3) : ∃ d, (rangeD lo hi)[i]? = some d ∧ ItemOk K G1 d H2 x H3 := by
  obtain ⟨rfl, rfl⟩ := y
  have hl : i < (hi - lo).toNat := by simpa [rangeD] using h
  exact ⟨.int (lo + i), by simp [rangeD, hl], .inl ⟨rfl, .int _⟩⟩
theorem im_range1 (h : AM X [e] fi) (hm : X.mg "range" = none) (hg : Gl X "range" := by rfl) (he : starEach [e] X.env = [(false, eval e X.env)] := by rfl) :
    IM X tg (.Call (.Name "range" p) [e] [] pos) (bindM fi fun ds => optM (rangeG ds)) := by
  obtain ⟨t, q, w⟩ := h.ex
  refine ⟨_, pi_range1 hg hm q (hs := he), fun F σ H G ρ ds ρ' R g hf k => ?_⟩
  obtain ⟨as, ρ1, e1, f1⟩ := bind_some hf
  obtain ⟨e2, rfl⟩ := opt_some f1
  refine w F σ H G ρ as _ _ g e1 fun vs H1 G1 g1 t1 r1 => ?_
  have hl := h.len _ _ _ e1
  unfold rangeG at e2
  split at e2
  · rename_i j
    split at e2
    · rename_i hj
      cases e2
      obtain ⟨v, rfl, rv⟩ := reps1 r1
      cases rv
      have hn : (rangeD 0 j).length = j.toNat := by simp [rangeD]
      have hw : Walk (Itr 0 j.toNat) (rangeD 0 j).length (fun _ => True) (YFn fun i => .int (0 + i)) := by rw [hn]; exact walk_range
      refine ⟨j, rfl, by unfold RgOk at hj; omega, by unfold RgOk at hj; omega, ?_⟩
      exact k _ H1 G1 _ _ g1 t1 hw (fun _ _ => trivial) fun i x H2 H3 hi s y => range_walk 0 j i x H2 H3 hi y
    · cases e2
  · cases hl
  · cases e2
theorem im_range2 (h : AM X [a, b] fi) (hm : X.mg "range" = none) (hg : Gl X "range" := by rfl) (he : starEach [a, b] X.env = [(false, eval a X.env), (false, eval b X.env)] := by rfl) (he2 : starEach [b] X.env = [(false, eval b X.env)] := by rfl) :
    IM X tg (.Call (.Name "range" p) [a, b] [] pos) (bindM fi fun ds => optM (rangeG ds)) := by
  obtain ⟨t, q, w⟩ := h.ex
  refine ⟨_, pi_range2 hg hm q (hs := he) (hs2 := he2), fun F σ H G ρ ds ρ' R g hf k => ?_⟩
  obtain ⟨as, ρ1, e1, f1⟩ := bind_some hf
  obtain ⟨e2, rfl⟩ := opt_some f1
  refine w F σ H G ρ as _ _ g e1 fun vs H1 G1 g1 t1 r1 => ?_
  have hl := h.len _ _ _ e1
  unfold rangeG at e2
  split at e2
  · cases hl
  · rename_i i j
    split at e2
    · rename_i hj
      cases e2
      obtain ⟨v, v2, rfl, rv, rv2⟩ := reps2 r1
      cases rv; cases rv2
      have hn : (rangeD i j).length = (j - i).toNat := by simp [rangeD]
      have hw : Walk (Itr i (j - i).toNat) (rangeD i j).length (fun _ => True) (YFn fun n => .int (i + n)) := by rw [hn]; exact walk_range
      refine ⟨i, j, rfl, by unfold RgOk at hj; omega, ?_⟩
      exact k _ H1 G1 _ _ g1 t1 hw (fun _ _ => trivial) fun n x H2 H3 hi s y => range_walk i j n x H2 H3 hi y
    · cases e2
  · cases e2
/-! ### for -/
def loopD (ft : D → List Sl → Option (List Sl)) (body : M Out) : List D → M Out
  | [] => nxM
  | d :: ds => fun ρ => match ft d ρ with
    | none => none
    | some ρ1 => match body ρ1 with
      | some (.nx, ρ2) => loopD ft body ds ρ2
      | some (.ct, ρ2) => loopD ft body ds ρ2
      | some (.bk, ρ2) => some (.nx, ρ2)
      | r => r
def forS (fi : M (List D)) (ft : D → List Sl → Option (List Sl)) (body : M Out) : M Out := bindM fi fun ds => loopD ft body ds
/-- an item of a turn, in the state of the turn -/
theorem item_in {K : PySem.W.Frag} {F : Fr} {ρ : List Sl} {σ : St} {H G G1 : Hp} {d : D} {x : V} {H' : Hp} (g : Good K F ρ σ H G) (s : Same G1 G) (h : ItemOk K G1 d H x H') : ∃ G', Good K F ρ σ H' G' ∧ Tr σ ρ H G ρ H' G' ∧ Rep K G' x d := by
  rcases h with ⟨rfl, r⟩ | ⟨T, vs, es, rfl, n, rfl, rfl, r⟩
  · exact ⟨G, g, Tr.refl, r.mono s⟩
  · obtain ⟨g2, t2⟩ := g.new (o := .tup vs) n
    exact ⟨_, g2, t2, .tup (SqT.of upd_same) ((r.mono s).mono t2.sg)⟩
theorem sm_for {is : List Nat} {ft : D → List Sl → Option (List Sl)} (hi : IM X tg iter fi) (ht : GM X tg is ft) (hb : SsM X body u) (hp : PassesOwn (model X.prog X.w) X.A X.env X.xe := by exact PassesOwn.never) (hc : X.calm = true := by rfl) (hfs : ∀ x, foldedSetIterable iter X.env x = pure x := by intro _; rfl) : SM X (.For tg iter body [] pos) (forS fi ft u) := by
  obtain ⟨wi, pi, ki⟩ := hi.ex
  obtain ⟨gt, pg, kg⟩ := ht.ex
  obtain ⟨tb, pb, kb⟩ := hb.ex
  refine ⟨_, ps_for hp hc pi pg pb hfs, fun F σ H G ρ o ρ' E g hf q => ?_⟩
  obtain ⟨ds, ρ1, e1, f1⟩ := bind_some hf
  refine ki F σ H G ρ ds ρ1 _ g e1 fun J H1 G1 Gd Y g1 t1 hw hgd hy => ?_
  refine for_it hw (fun i σ' H' => ∃ ρ2 G2, Good X.K F ρ2 σ' H' G2 ∧ Same G1 G2 ∧ loopD ft u (ds.drop i) ρ2 = some (o, ρ')) ⟨ρ1, G1, g1, Same.refl G1, f1⟩ (fun i σ' H' _ ⟨ρ2, G2, g2, s2, _⟩ => hgd H' (s2.trans g2.same)) (fun i x σ' H2 H3 hi' ⟨ρ2, G2, g2, s2, f2⟩ y => ?_) fun σ' H' ⟨ρ2, G2, g2, s2, f2⟩ => ?_
  · obtain ⟨d, hd, it⟩ := hy i x H2 H3 hi' (s2.trans g2.same) y
    obtain ⟨G3, g3, t3, r3⟩ := item_in g2 s2 it
    have hdr : ds.drop i = d :: ds.drop (i + 1) := by
      rw [List.drop_eq_getElem_cons hi']
      rw [List.getElem?_eq_getElem hi'] at hd
      cases hd; rfl
    rw [hdr] at f2
    simp only [loopD] at f2
    split at f2
    · cases f2
    · rename_i ρ3 e3
      refine kg F σ' H3 G3 ρ2 x d ρ3 _ g3 r3 e3 fun σ4 g4 _ _ => ?_
      cases hbd : u ρ3 with
      | none => rw [hbd] at f2; cases f2
      | some rr =>
        obtain ⟨o', ρ4⟩ := rr
        rw [hbd] at f2
        refine kb F σ4 H3 G3 ρ3 o' ρ4 _ g4 hbd ?_
        cases o' with
        | nx => exact fun σ5 H5 G5 g5 s5 => ⟨ρ4, G5, g5, (s2.trans t3.sg).trans s5, f2⟩
        | ct => exact fun σ5 H5 G5 g5 s5 => ⟨ρ4, G5, g5, (s2.trans t3.sg).trans s5, f2⟩
        | bk =>
          cases f2
          exact fun σ5 H5 G5 g5 s5 => q σ5 H5 G5 g5 (((t1.sg.trans s2).trans t3.sg).trans s5)
        | ret dv =>
          cases f2
          exact fun v σ5 H5 G5 g5 s5 r5 => q v σ5 H5 G5 g5 (((t1.sg.trans s2).trans t3.sg).trans s5) r5
        | ro dv =>
          cases f2
          exact fun p vs σ5 H5 G5 g5 s5 r1 r2 r3 r4 => q p vs σ5 H5 G5 g5 (((t1.sg.trans s2).trans t3.sg).trans s5) r1 r2 r3 r4
  · rw [List.drop_length] at f2
    cases f2
    exact q σ' H' G2 g2 (t1.sg.trans s2)
/-! ### while -/
def whileD (c : M Bool) (body : M Out) : Nat → M Out
  | 0 => fun _ => none
  | n + 1 => fun ρ => match c ρ with
    | none => none
    | some (false, ρ1) => some (.nx, ρ1)
    | some (true, ρ1) => match body ρ1 with
      | some (.nx, ρ2) => whileD c body n ρ2
      | some (.ct, ρ2) => whileD c body n ρ2
      | some (.bk, ρ2) => some (.nx, ρ2)
      | r => r
/-- as many turns as are ever asked -/
def FUEL : Nat := 1000000000000
theorem sm_while {ta : M Bool} (hc : TM X c ta) (hb : SsM X body u) (hp : PassesOwn (model X.prog X.w) X.A X.env X.xe := by exact PassesOwn.never) : SM X (.While c body [] pos) (whileD ta u FUEL) := by
  obtain ⟨t, p, k⟩ := hc.ex
  obtain ⟨tb, pb, kb⟩ := hb.ex
  refine ⟨_, ps_while hp p pb, fun F σ H G ρ o ρ' E g hf q => ?_⟩
  generalize FUEL = n at hf
  refine ⟨fun m σ' H' => ∃ ρ2 G2, Good X.K F ρ2 σ' H' G2 ∧ Same G G2 ∧ whileD ta u m ρ2 = some (o, ρ'), ⟨n, ρ, G, g, Same.refl G, hf⟩, fun m σ' H' ⟨ρ2, G2, g2, s2, f2⟩ => ?_⟩
  cases m with
  | zero => cases f2
  | succ m =>
    simp only [whileD] at f2
    split at f2
    · cases f2
    · rename_i ρ3 e3
      cases f2
      exact k F σ' H' G2 ρ2 false _ _ g2 e3 fun H3 G3 g3 t3 => iteF (q σ' H3 G3 g3 (s2.trans t3.sg))
    · rename_i ρ3 e3
      refine k F σ' H' G2 ρ2 true _ _ g2 e3 fun H3 G3 g3 t3 => iteT ?_
      refine ⟨fun σ5 H5 => ∃ ρ5 G5, Good X.K F ρ5 σ5 H5 G5 ∧ Same G G5 ∧ whileD ta u m ρ5 = some (o, ρ'), fun σ5 H5 h5 => ⟨m, Nat.lt_succ_self m, h5⟩, ?_⟩
      cases hbd : u ρ3 with
      | none => rw [hbd] at f2; cases f2
      | some rr =>
        obtain ⟨o', ρ4⟩ := rr
        rw [hbd] at f2
        refine kb F σ' H3 G3 ρ3 o' ρ4 _ g3 hbd ?_
        cases o' with
        | nx => exact fun σ5 H5 G5 g5 s5 => ⟨ρ4, G5, g5, (s2.trans t3.sg).trans s5, f2⟩
        | ct => exact fun σ5 H5 G5 g5 s5 => ⟨ρ4, G5, g5, (s2.trans t3.sg).trans s5, f2⟩
        | bk =>
          cases f2
          exact fun σ5 H5 G5 g5 s5 => q σ5 H5 G5 g5 ((s2.trans t3.sg).trans s5)
        | ret dv =>
          cases f2
          exact fun v σ5 H5 G5 g5 s5 r5 => q v σ5 H5 G5 g5 ((s2.trans t3.sg).trans s5) r5
        | ro dv =>
          cases f2
          exact fun p vs σ5 H5 G5 g5 s5 r1 r2 r3 r4 => q p vs σ5 H5 G5 g5 ((s2.trans t3.sg).trans s5) r1 r2 r3 r4
end
end PD
end
/-! PD10: comprehensions; a def's promise from its body. -/
noncomputable section
namespace PD
open PySem PySem.Spec PyProof.Rows L2
/-- the block's own names forgotten -/
def wipeS (ρ : List Sl) : List Nat → List Sl
  | [] => ρ
  | v :: vs => (wipeS ρ vs).set v .no
/-- behind the block: its own names are what they were -/
def restS (ρ0 ρ : List Sl) : List Nat → List Sl
  | [] => ρ
  | v :: vs => (restS ρ0 ρ vs).set v (match ρ0[v]? with
    | some (.d x) => .d x
    | _ => .no)
theorem wipeS_length (ρ : List Sl) : ∀ vs : List Nat, (wipeS ρ vs).length = ρ.length
  | [] => rfl
  | v :: vs => by unfold wipeS; rw [List.length_set, wipeS_length ρ vs]
theorem restS_length (ρ0 ρ : List Sl) : ∀ vs : List Nat, (restS ρ0 ρ vs).length = ρ.length
  | [] => rfl
  | v :: vs => by unfold restS; rw [List.length_set, restS_length ρ0 ρ vs]
theorem wipeS_get {ρ : List Sl} {vs : List Nat} {j : Nat} {s : Sl} (h : (wipeS ρ vs)[j]? = some s) : (s = .no ∧ j ∈ vs) ∨ (j ∉ vs ∧ ρ[j]? = some s) := by
  induction vs with
  | nil => exact .inr ⟨by simp, h⟩
  | cons v vs ih =>
    unfold wipeS at h
    by_cases hj : v = j
    · subst hj
      by_cases hl : v < (wipeS ρ vs).length
      · rw [List.getElem?_set_self hl] at h; cases h; exact .inl ⟨rfl, List.mem_cons_self⟩
      · rw [List.getElem?_eq_none (by simpa using hl)] at h; cases h
    · rw [List.getElem?_set_ne hj] at h
      rcases ih h with ⟨a, b⟩ | ⟨a, b⟩
      · exact .inl ⟨a, List.mem_cons_of_mem _ b⟩
      · refine .inr ⟨fun z => ?_, b⟩
        rcases List.mem_cons.mp z with z | z
        · exact hj z.symm
        · exact a z
theorem restS_get {ρ0 ρ : List Sl} {vs : List Nat} {j : Nat} {s : Sl} (h : (restS ρ0 ρ vs)[j]? = some s) : (j ∈ vs ∧ (s = .no ∨ ∃ x, s = .d x ∧ ρ0[j]? = some (.d x))) ∨ (j ∉ vs ∧ ρ[j]? = some s) := by
  induction vs with
  | nil => exact .inr ⟨by simp, h⟩
  | cons v vs ih =>
    unfold restS at h
    by_cases hj : v = j
    · subst hj
      by_cases hl : v < (restS ρ0 ρ vs).length
      · rw [List.getElem?_set_self hl] at h
        refine .inl ⟨List.mem_cons_self, ?_⟩
        split at h
        · rename_i x hx; cases h; exact .inr ⟨x, rfl, hx⟩
        · cases h; exact .inl rfl
      · rw [List.getElem?_eq_none (by simpa using hl)] at h; cases h
    · rw [List.getElem?_set_ne hj] at h
      rcases ih h with ⟨a, b⟩ | ⟨a, b⟩
      · exact .inl ⟨List.mem_cons_of_mem _ a, b⟩
      · refine .inr ⟨fun z => ?_, b⟩
        rcases List.mem_cons.mp z with z | z
        · exact hj z.symm
        · exact a z
section
variable {K : PySem.W.Frag} {F : Fr} {ρ ρ1 : List Sl} {σ σ1 : St} {H G H' G' : Hp}
theorem wipe_out {vs : List Nat} {j : Nat} (h : j ∉ vs) : (wipe σ vs)[j]? = σ[j]? := by rw [wipe_get, if_neg h]
theorem Good.wiped (g : Good K F ρ σ H G) (vs : List Nat) : Good K F (wipeS ρ vs) (wipe σ vs) H G := by
  have key : ∀ (j : Nat) (s : Sl) (v : Option V) , (wipeS ρ vs)[j]? = some s → (L2.wipe σ vs)[j]? = some v → s = .no ∨ (ρ[j]? = some s ∧ σ[j]? = some v) := fun j s v e1 e2 => by
    rcases wipeS_get e1 with ⟨a, _⟩ | ⟨a, b⟩
    · exact .inl a
    · rw [wipe_out a] at e2; exact .inr ⟨b, e2⟩
  refine ⟨g.same, g.g0, g.h0, g.n0, g.pp, by rw [wipeS_length, wipe_length, g.len], fun j s v e1 e2 => ?_, fun j k s t v w p e1 e2 e3 e4 o1 o2 => ?_⟩
  · rcases key j s v e1 e2 with rfl | ⟨a, b⟩
    · trivial
    · exact g.sl j s v a b
  · rcases key j s v e1 e2 with rfl | ⟨a, b⟩
    · exact o1.elim
    · rcases key k t w e3 e4 with rfl | ⟨a2, b2⟩
      · exact o2.elim
      · exact g.ds j k s t v w p a b a2 b2 o1 o2
theorem own_wipe {vs : List Nat} {a : Addr} (h : OwnIn (wipeS ρ vs) (wipe σ vs) a) : OwnIn ρ σ a := by
  obtain ⟨j, s, v, e1, e2, o⟩ := h
  rcases wipeS_get e1 with ⟨rfl, _⟩ | ⟨z, b⟩
  · exact o.elim
  · rw [wipe_out z] at e2
    exact ⟨j, s, v, b, e2, o⟩
/-- back to the def's own slots -/
theorem Good.rest {vs : List Nat} (g : Good K F ρ σ H G) (g1 : Good K F ρ1 (wipe σ vs) H' G') (s : Same G G') : Good K F (restS ρ ρ1 vs) σ H' G' := by
  have key : ∀ (j : Nat) (t : Sl) (v : Option V), (restS ρ ρ1 vs)[j]? = some t → σ[j]? = some v → (t = .no ∨ ∃ x, t = .d x ∧ ρ[j]? = some (.d x)) ∨ (ρ1[j]? = some t ∧ (L2.wipe σ vs)[j]? = some v) := fun j t v e1 e2 => by
    rcases restS_get e1 with ⟨_, a⟩ | ⟨a, b⟩
    · exact .inl a
    · exact .inr ⟨b, by rw [wipe_out a]; exact e2⟩
  refine ⟨g1.same, g1.g0, g1.h0, g1.n0, g1.pp, by rw [restS_length, g1.len, wipe_length], fun j t v e1 e2 => ?_, fun j k t u v w p e1 e2 e3 e4 o1 o2 => ?_⟩
  · rcases key j t v e1 e2 with (rfl | ⟨x, rfl, hx⟩) | ⟨a, b⟩
    · trivial
    · obtain ⟨u, e, r⟩ := g.sl j _ v hx e2
      exact ⟨u, e, r.mono s⟩
    · exact g1.sl j t v a b
  · rcases key j t v e1 e2 with (rfl | ⟨x, rfl, hx⟩) | ⟨a, b⟩
    · exact o1.elim
    · exact o1.elim
    · rcases key k u w e3 e4 with (rfl | ⟨x, rfl, hx⟩) | ⟨a2, b2⟩
      · exact o2.elim
      · exact o2.elim
      · exact g1.ds j k t u v w p a b a2 b2 o1 o2
theorem own_rest {vs : List Nat} {a : Addr} (h : OwnIn (restS ρ ρ1 vs) σ a) : OwnIn ρ1 (wipe σ vs) a := by
  obtain ⟨j, s, v, e1, e2, o⟩ := h
  rcases restS_get e1 with ⟨_, rfl | ⟨x, rfl, _⟩⟩ | ⟨z, b⟩
  · exact o.elim
  · exact o.elim
  · exact ⟨j, s, v, b, by rw [wipe_out z]; exact e2, o⟩
/-- an object that is nobody's may change -/
theorem Good.aside {p : Addr} {o : HO} (g : Good K F ρ σ H G) (hF : F.H p = none) (hG : G p = none) (no : ¬ OwnIn ρ σ p) (hp : ∃ u, H p = some u) : Good K F ρ σ (upd H p o) G := by
  refine ⟨fun b x e => ?_, g.g0, fun a x e n => ?_, g.n0, fun q e => ?_, g.len, fun i s v e1 e2 => (g.sl i s v e1 e2).mono (Same.refl G) fun q ow => ?_, g.ds⟩
  · rw [upd_ne (ne_of_none e hG)]; exact g.same _ _ e
  · rw [upd_ne (ne_of_none e hF)]; exact g.h0 a x e n
  · obtain ⟨a, b, c⟩ := g.pp q e
    obtain ⟨x, hx⟩ := a
    exact ⟨⟨x, hx⟩, b, by rw [upd_ne (ne_of_none hx hF)]; exact c⟩
  · obtain ⟨_, b, _⟩ := g.ownAt e1 e2 ow
    have hne : q ≠ p := fun z => no ⟨i, s, v, e1, e2, z ▸ ow⟩
    exact ⟨upd_ne hne, b⟩
end
section
variable {X : Cx} {pos p : Pos} {tg iter elt c : Expr} {ifs : List Expr} {scope : Scope} {fi : M (List D)} {u w : M Out}
/-- the tests of a comprehension -/
structure CT (X : Cx) (ifs : List Expr) (f : M Bool) : Prop where
  ex : ∃ t, PTs X ifs t ∧ ∀ (F : Fr) (σ : St) (H G : Hp) (ρ : List Sl) (b : Bool) (ρ' : List Sl) (Q : Bool → Hp → Prop), Good X.K F ρ σ H G → f ρ = some (b, ρ') →
    (∀ H' G', Good X.K F ρ' σ H' G' → Tr σ ρ H G ρ' H' G' → Q b H') → t σ H Q
theorem ct_nil : CT X [] (retM true) := ⟨_, pts_nil, fun F σ H G ρ b ρ' Q g hf q => by cases hf; exact q H G g Tr.refl⟩
theorem ct_one {ta : M Bool} (h : TM X c ta) : CT X [c] ta := by
  obtain ⟨t, p, w⟩ := h.ex
  exact ⟨t, pts_one p, w⟩
def compD (vs : List Nat) (ft : D → List Sl → Option (List Sl)) (tt : M Bool) (fe : M D) : List D → M (List D)
  | [] => retM []
  | d :: ds => fun ρ => match ft d (wipeS ρ vs) with
    | none => none
    | some ρ1 => match tt ρ1 with
      | none => none
      | some (false, ρ2) => compD vs ft tt fe ds ρ2
      | some (true, ρ2) => match fe ρ2 with
        | none => none
        | some (y, ρ3) => match compD vs ft tt fe ds ρ3 with
          | none => none
          | some (ys, ρ4) => some (y :: ys, ρ4)
def lcM (fi : M (List D)) (vs : List Nat) (ft : D → List Sl → Option (List Sl)) (tt : M Bool) (fe : M D) : M (List D) := bindM fi fun ds => fun ρ => if ds.length < 16000000 then (match compD vs ft tt fe ds ρ with
  | some (ys, ρ') => some (ys, restS ρ (wipeS ρ' vs) vs)
  | none => none) else none
/-- the turns of a comprehension -/
theorem lc_run {K : PySem.W.Frag} {F : Fr} {X2 : Cx} {is : List Nat} {own : List Nat} {ft : D → List Sl → Option (List Sl)} {tt : M Bool} {fe : M D} {gt : TG} {t2 : TT} {te : TE}
    (kg : ∀ (F : Fr) (σ : St) (H G : Hp) (ρ : List Sl) (v : V) (d : D) (ρ' : List Sl) (Q : St → Hp → Prop), Good K F ρ σ H G → Rep K G v d → ft d ρ = some ρ' → (∀ σ', Good K F ρ' σ' H G → (∀ vs : List Nat, (∀ i ∈ is, i ∈ vs) → wipe σ' vs = wipe σ vs) → (∀ a, OwnIn ρ' σ' a → OwnIn ρ σ a) → Q σ' H) → gt v σ H Q)
    (kt : ∀ (F : Fr) (σ : St) (H G : Hp) (ρ : List Sl) (b : Bool) (ρ' : List Sl) (Q : Bool → Hp → Prop), Good K F ρ σ H G → tt ρ = some (b, ρ') → (∀ H' G', Good K F ρ' σ H' G' → Tr σ ρ H G ρ' H' G' → Q b H') → t2 σ H Q)
    (ke : ∀ (F : Fr) (σ : St) (H G : Hp) (ρ : List Sl) (d : D) (ρ' : List Sl) (Q : VK), Good K F ρ σ H G → fe ρ = some (d, ρ') → PostE K F σ ρ H G ρ' d Q → te σ H Q)
    (his : ∀ i ∈ is, i ∈ own) {σ : St} {ρ1 : List Sl} {H1 G1 : Hp} {ds ys : List D} {ρ2 : List Sl} {J : It} {Gd : Hp → Prop} {Y : Nat → Hp → V → Hp → Prop}
    (g1 : Good K F ρ1 σ H1 G1) (hlen : ds.length < 16000000) (hf : compD own ft tt fe ds ρ1 = some (ys, ρ2)) (hw : Walk J ds.length Gd Y) (hgd : ∀ H', Same G1 H' → Gd H')
    (hy : ∀ i x H2 H3, i < ds.length → Same G1 H2 → Y i H2 x H3 → ∃ d, ds[i]? = some d ∧ ItemOk K G1 d H2 x H3) {Dd : Addr} (hD : H1 Dd = none) {Qd : Hp → Prop}
    (fin : ∀ H' G' xs, Good K F (restS ρ1 (wipeS ρ2 own) own) σ H' G' → Tr σ ρ1 H1 G1 (restS ρ1 (wipeS ρ2 own) own) H' G' → G' Dd = none → H' Dd = some (.lst xs) → Reps K G' xs ys → ¬ OwnIn (restS ρ1 (wipeS ρ2 own) own) σ Dd → Qd H') :
    ∃ W : Nat → Nat → Hp → Prop, (∃ m, W 0 m (upd H1 Dd (.lst []))) ∧ ∀ i m H, W i m H →
      (J.stop i H ∧ Qd H) ∨ (J.go i H ∧ ∃ Nx : Hp → Prop, (∀ H', Nx H' → ∃ m', m' < m ∧ W (i + 1) m' H') ∧ ∀ x H', J.yld i H x H' → gt x (wipe σ own) H' fun σ2 H2 => wipe σ2 own = wipe σ own ∧ t2 σ2 H2 fun b H3 =>
        if b = true then te σ2 H3 fun y H4 => ∃ acc, H4 Dd = some (.lst acc) ∧ acc.length < sizeLine ∧ Nx (upd H4 Dd (.lst (acc ++ [y]))) else Nx H3) := by
  have hFD : F.H Dd = none := (g1.fresh hD).1
  have hOD : ¬ OwnIn ρ1 σ Dd := (g1.fresh hD).2.2
  refine lc_it hw (fun i H' => ∃ (ρ3 : List Sl) (G3 : Hp) (xs : List V) (zs : List D) (ys' : List D), Good K F (wipeS ρ3 own) (wipe σ own) H' G3 ∧ Tr (wipe σ own) (wipeS ρ1 own) H1 G1 (wipeS ρ3 own) H' G3 ∧ G3 Dd = none ∧ H' Dd = some (.lst xs) ∧ Reps K G3 xs zs ∧ zs.length ≤ i ∧
    compD own ft tt fe (ds.drop i) ρ3 = some (ys', ρ2) ∧ zs ++ ys' = ys) ?_ (fun i H' _ ⟨ρ3, G3, xs, zs, ys', g3, t3, _⟩ => hgd H' (t3.sg.trans g3.same)) (fun i x H2 H3 hi ⟨ρ3, G3, xs, zs, ys', g3, t3, d1, d2, d3, d4, d5, d6⟩ y => ?_) fun H' ⟨ρ3, G3, xs, zs, ys', g3, t3, d1, d2, d3, d4, d5, d6⟩ => ?_
  · -- the start
    obtain ⟨g2, t2⟩ := (g1.wiped own).newO (o := .lst []) hD
    refine ⟨ρ1, G1, [], [], ys, g2, t2, g1.same.free hD, upd_same, .nil, Nat.zero_le _, hf, rfl⟩
  · -- a turn
    obtain ⟨d, hd, it⟩ := hy i x H2 H3 hi (t3.sg.trans g3.same) y
    obtain ⟨G4, g4, t4, r4⟩ := item_in g3 t3.sg it
    have hdr : ds.drop i = d :: ds.drop (i + 1) := by
      rw [List.drop_eq_getElem_cons hi]
      rw [List.getElem?_eq_getElem hi] at hd
      cases hd; rfl
    rw [hdr] at d5
    simp only [compD] at d5
    have hOw : ∀ {ρ' : List Sl} {H' G' : Hp}, Tr (wipe σ own) (wipeS ρ1 own) H1 G1 ρ' H' G' → ¬ OwnIn ρ' (wipe σ own) Dd := fun t z => hOD (own_wipe (t.ow _ z))
    have d1' : G4 Dd = none := t4.nf _ _ d2 d1
    have d2' : H3 Dd = some (.lst xs) := t4.fr _ _ d2 (hOw t3)
    have d3' := d3.mono t4.sg
    split at d5
    · cases d5
    · rename_i ρ5 e5
      refine kg F (wipe σ own) H3 G4 (wipeS ρ3 own) x d ρ5 _ g4 r4 e5 fun σ5 g5 w5 o5' => ?_
      have ew : wipe σ5 own = wipe σ own := by
        rw [w5 own his, show wipe (wipe σ own) own = wipe σ own from by
          apply List.ext_getElem?
          intro j
          rw [wipe_get, wipe_get]
          by_cases hj : j ∈ own
          · rw [if_pos hj, if_pos hj, Option.map_map]; rfl
          · rw [if_neg hj, if_neg hj]]
      refine ⟨ew, ?_⟩
      -- behind an expression in the turn's slots
      have back : ∀ {ρ6 : List Sl} {H6 G6 : Hp}, Good K F ρ6 σ5 H6 G6 → Tr σ5 ρ5 H3 G4 ρ6 H6 G6 → Good K F (wipeS ρ6 own) (wipe σ own) H6 G6 ∧ Tr (wipe σ own) (wipeS ρ1 own) H1 G1 (wipeS ρ6 own) H6 G6 ∧ G6 Dd = none ∧ H6 Dd = some (.lst xs) ∧ Reps K G6 xs zs := fun {ρ6 H6 G6} g6 t6 => by
        have gw := g6.wiped own
        rw [ew] at gw
        -- one's own at ρ5 are one's own at the turn's start
        have o5 : ∀ a, OwnIn ρ5 σ5 a → OwnIn (wipeS ρ3 own) (wipe σ own) a := o5'
        have nD : ¬ OwnIn ρ5 σ5 Dd := fun z => hOw t3 (o5 _ z)
        refine ⟨gw, ⟨(t3.sg.trans t4.sg).trans t6.sg, fun a o e n => ?_, fun a o e n => ?_, fun a z => ?_, fun a o e => ?_⟩, t6.nf _ _ d2' d1', t6.fr _ _ d2' nD, d3'.mono t6.sg⟩
        · refine t6.fr a o (t4.fr a o (t3.fr a o e n) fun z => n (t3.ow _ z)) fun z => n (t3.ow _ (o5 _ z))
        · obtain ⟨o1, e1⟩ := t3.kp a o e
          obtain ⟨o2, e2⟩ := t4.kp a o1 e1
          exact t6.nf a o2 e2 (t4.nf a o1 e1 (t3.nf a o e n))
        · have z2 : OwnIn ρ6 σ5 a := by rw [← ew] at z; exact own_wipe z
          exact t3.ow _ (o5 _ (t6.ow _ z2))
        · obtain ⟨o1, e1⟩ := t3.kp a o e
          obtain ⟨o2, e2⟩ := t4.kp a o1 e1
          exact t6.kp a o2 e2
      cases htt : tt ρ5 with
      | none => rw [htt] at d5; cases d5
      | some rr =>
        obtain ⟨b, ρ6⟩ := rr
        rw [htt] at d5
        refine kt F σ5 H3 G4 ρ5 b ρ6 _ g5 htt fun H6 G6 g6 t6 => ?_
        cases b with
        | false =>
          obtain ⟨a1, a2, a3, a4, a5⟩ := back g6 t6
          exact iteF ⟨ρ6, G6, xs, zs, ys', a1, a2, a3, a4, a5, Nat.le_succ_of_le d4, d5, d6⟩
        | true =>
          simp only at d5
          cases hfe : fe ρ6 with
          | none => rw [hfe] at d5; cases d5
          | some rr2 =>
            obtain ⟨yv, ρ7⟩ := rr2
            rw [hfe] at d5
            simp only at d5
            split at d5
            · cases d5
            · rename_i ys2 ρ8 e8
              cases d5
              refine iteT (ke F σ5 H6 G6 ρ6 yv ρ7 _ g6 hfe fun v H7 G7 g7 t7 r7 => ?_)
              obtain ⟨a1, a2, a3, a4, a5⟩ := back g7 (t6.trans t7)
              refine ⟨xs, a4, ?_, ρ7, G7, xs ++ [v], zs ++ [yv], ys2, a1.aside hFD a3 (hOw a2) ⟨_, a4⟩, ⟨a2.sg, fun a o e n => ?_, a2.nf, a2.ow, fun a o e => ?_⟩, a3, upd_same, a5.append (.cons r7 .nil), ?_, e8, ?_⟩
              · have z1 : xs.length = zs.length := a5.length
                rw [z1]; exact appS_line (by omega)
              · rw [upd_ne (ne_of_none e hD)]; exact a2.fr a o e n
              · by_cases z : a = Dd
                · exact ⟨_, by rw [z, upd_same]⟩
                · rw [upd_ne z]; exact a2.kp a o e
              · rw [List.length_append]; simp; omega
              · rw [List.append_assoc]; exact d6
  · -- the end
    rw [List.drop_length] at d5
    cases d5
    rw [List.append_nil] at d6
    subst d6
    have gr := g1.rest g3 t3.sg
    have orr : ∀ a, OwnIn (restS ρ1 (wipeS ρ2 own) own) σ a → OwnIn ρ1 σ a := fun a z => own_wipe (t3.ow _ (own_rest z))
    refine fin H' G3 xs gr ⟨t3.sg, fun a o e n => t3.fr a o e fun z => n (own_wipe z), t3.nf, orr, t3.kp⟩ d1 d2 d3 fun z => hOD (orr _ z)
/-! ### readings of their own, the same in every block -/
def tOf (K : PySem.W.Frag) (f : M D) : TE := fun σ H Q => ∃ (F : Fr) (G : Hp) (ρ : List Sl) (d : D) (ρ' : List Sl), Good K F ρ σ H G ∧ f ρ = some (d, ρ') ∧ PostE K F σ ρ H G ρ' d Q
theorem EM.pe {e : Expr} {f : M D} (h : EM X e f) : PE X e (tOf X.K f) := by
  obtain ⟨t, p, w⟩ := h.ex
  exact ⟨fun pins s σ H Q I ⟨F, G, ρ, d, ρ', g, e, q⟩ => p.run pins s σ H Q I (w F σ H G ρ d ρ' Q g e q)⟩
def ttOf (K : PySem.W.Frag) (f : M Bool) : TT := fun σ H Q => ∃ (F : Fr) (G : Hp) (ρ : List Sl) (b : Bool) (ρ' : List Sl), Good K F ρ σ H G ∧ f ρ = some (b, ρ') ∧ ∀ H' G', Good K F ρ' σ H' G' → Tr σ ρ H G ρ' H' G' → Q b H'
theorem CT.pts {f : M Bool} (h : CT X ifs f) : PTs X ifs (ttOf X.K f) := by
  obtain ⟨t, p, w⟩ := h.ex
  exact ⟨fun pins s σ H Q I ⟨F, G, ρ, b, ρ', g, e, q⟩ => p.run pins s σ H Q I (w F σ H G ρ b ρ' Q g e q)⟩
def gOf (K : PySem.W.Frag) (is : List Nat) (ft : D → List Sl → Option (List Sl)) : TG := fun v σ H Q => ∃ (F : Fr) (G : Hp) (ρ : List Sl) (d : D) (ρ' : List Sl), Good K F ρ σ H G ∧ Rep K G v d ∧ ft d ρ = some ρ' ∧
  ∀ σ', Good K F ρ' σ' H G → (∀ vs : List Nat, (∀ i ∈ is, i ∈ vs) → wipe σ' vs = wipe σ vs) → (∀ a, OwnIn ρ' σ' a → OwnIn ρ σ a) → Q σ' H
theorem GM.pg {is : List Nat} {ft : D → List Sl → Option (List Sl)} (h : GM X tg is ft) : PG X tg (gOf X.K is ft) := by
  obtain ⟨t, p, w⟩ := h.ex
  exact ⟨fun pins s σ H v u Q I r ⟨F, G, ρ, d, ρ', g, rv, e, q⟩ => p.run pins s σ H v u Q I r (w F σ H G ρ v d ρ' Q g rv e q)⟩
section
variable {is : List Nat} {own : List (Str × Nat)} {ft : D → List Sl → Option (List Sl)} {tt : M Bool} {fe : M D}
theorem lc_ok {wi : TI} (ki : ∀ (F : Fr) (σ : St) (H G : Hp) (ρ : List Sl) (ds : List D) (ρ' : List Sl) (R : It → Hp → Prop), Good X.K F ρ σ H G → fi ρ = some (ds, ρ') →
    (∀ J H1 G1 (Gd : Hp → Prop) Y, Good X.K F ρ' σ H1 G1 → Tr σ ρ H G ρ' H1 G1 → Walk J ds.length Gd Y → (∀ H', Same G1 H' → Gd H') → (∀ i x H2 H3, i < ds.length → Same G1 H2 → Y i H2 x H3 → ∃ d, ds[i]? = some d ∧ ItemOk X.K G1 d H2 x H3) → R J H1) → wi σ H R)
    (his : ∀ i ∈ is, i ∈ own.map (·.2)) (F : Fr) (σ : St) (H G : Hp) (ρ : List Sl) (ds : List D) (ρ' : List Sl) (Q : VK) (g : Good X.K F ρ σ H G) (hf : lcM fi (own.map (·.2)) ft tt fe ρ = some (ds, ρ'))
    (q : ∀ p vs H' G', Good X.K F ρ' σ H' G' → Tr σ ρ H G ρ' H' G' → H p = none → G' p = none → H' p = some (.lst vs) → Reps X.K G' vs ds → ¬ OwnIn ρ' σ p → Q (.ref p) H') : tLc wi (gOf X.K is ft) (ttOf X.K tt) (tOf X.K fe) (own.map (·.2)) σ H Q := by
  obtain ⟨as, ρ1, e1, f1⟩ := bind_some hf
  split at f1
  · rename_i hlen
    split at f1
    · rename_i ys ρ2 e2
      cases f1
      refine ki F σ H G ρ as ρ1 _ g e1 fun J H1 G1 Gd Y g1 t1 hw hgd hy D hD => ?_
      exact lc_run (X2 := X) (K := X.K) (F := F) (is := is) (ft := ft) (tt := tt) (fe := fe) (fun F σ H G ρ v d ρ' Q g r e q => ⟨F, G, ρ, d, ρ', g, r, e, q⟩) (fun F σ H G ρ b ρ' Q g e q => ⟨F, G, ρ, b, ρ', g, e, q⟩) (fun F σ H G ρ d ρ' Q g e q => ⟨F, G, ρ, d, ρ', g, e, q⟩)
        his g1 hlen e2 hw hgd hy hD (Qd := fun H' => Q (.ref D) H') fun H' G' xs g' t' h1 h2 h3 h4 => q D xs H' G' g' (t1.trans t') (t1.back hD) h1 h2 h3 h4
    · cases f1
  · cases f1
/-- a list comprehension -/
theorem eo_lc (hi : IM X tg iter fi) (ok : BlkOk X.N X.env.scope scope own)
    (hg : ∀ (s : Shared) (H : Hp) (C : Addr) (cl : List (Str × Addr)) (fp : List Addr), GM (X.blk s H scope (compEnvC scope cl C X.env) fp) tg is ft)
    (ht : ∀ (s : Shared) (H : Hp) (C : Addr) (cl : List (Str × Addr)) (fp : List Addr), CT (X.blk s H scope (compEnvC scope cl C X.env) fp) ifs tt)
    (he : ∀ (s : Shared) (H : Hp) (C : Addr) (cl : List (Str × Addr)) (fp : List Addr), EM (X.blk s H scope (compEnvC scope cl C X.env) fp) elt fe)
    (his : ∀ i ∈ is, i ∈ own.map (·.2)) (hN : X.N.Nodup) (hc : X.calm = true := by rfl) (hs : ∀ x, foldedSetIterable iter X.env x = pure x := by intro _; rfl) :
    EO X (.ListComp elt [⟨tg, iter, ifs, 0⟩] scope pos) (lcM fi (own.map (·.2)) ft tt fe) := by
  obtain ⟨wi, pi, ki⟩ := hi.ex
  exact ⟨_, pe_lc (g := gOf X.K is ft) (tt := ttOf X.K tt) (te := tOf X.K fe) hc hN pi ok (fun s H C cl fp => (hg s H C cl fp).pg) (fun s H C cl fp => (ht s H C cl fp).pts) (fun s H C cl fp => (he s H C cl fp).pe) hs, lc_ok ki his⟩
/-- name = a list comprehension: an own list, or data -/
theorem sm_setlc {y : Str} {py spos : Pos} (i : Nat) (hi : IM X tg iter fi) (ok : BlkOk X.N X.env.scope scope own)
    (hg : ∀ (s : Shared) (H : Hp) (C : Addr) (cl : List (Str × Addr)) (fp : List Addr), GM (X.blk s H scope (compEnvC scope cl C X.env) fp) tg is ft)
    (ht : ∀ (s : Shared) (H : Hp) (C : Addr) (cl : List (Str × Addr)) (fp : List Addr), CT (X.blk s H scope (compEnvC scope cl C X.env) fp) ifs tt)
    (he : ∀ (s : Shared) (H : Hp) (C : Addr) (cl : List (Str × Addr)) (fp : List Addr), EM (X.blk s H scope (compEnvC scope cl C X.env) fp) elt fe)
    (his : ∀ i ∈ is, i ∈ own.map (·.2)) (hN : X.N.Nodup) (hy : X.N[i]? = some y := by rfl) (hyl : X.env.scope.names.lookup y = some .local := by rfl)
    (hsw : swapsWith (.ListComp elt [⟨tg, iter, ifs, 0⟩] scope pos) (some (.Name y py)) spos.line X.env = pure true := by exact sw_true rfl rfl rfl (by decide +kernel)) (hc : X.calm = true := by rfl) (hs : ∀ x, foldedSetIterable iter X.env x = pure x := by intro _; rfl) :
    SM X (.Assign [.Name y py] (.ListComp elt [⟨tg, iter, ifs, 0⟩] scope pos) spos) (setS i (bindM (lcM fi (own.map (·.2)) ft tt fe) fun ds => retM (.ol ds))) := by
  obtain ⟨wi, pi, ki⟩ := hi.ex
  refine ⟨_, ps_setLc (g := gOf X.K is ft) (tt := ttOf X.K tt) (te := tOf X.K fe) hc hN hy hyl hsw pi ok (fun s H C cl fp => (hg s H C cl fp).pg) (fun s H C cl fp => (ht s H C cl fp).pts) (fun s H C cl fp => (he s H C cl fp).pe) hs, fun F σ H G ρ o ρ' E g hf q => ?_⟩
  obtain ⟨s, ρ1, e1, f1⟩ := bind_some hf
  obtain ⟨ds, ρ2, e2, f2⟩ := bind_some e1
  cases f2
  cases f1
  exact lc_ok ki his F σ H G ρ ds _ _ g e2 fun p vs H' G' g' t' h1 h2 h3 h4 h5 => q _ H' G' (g'.bind (fun a z => (g.fresh z).1) (s := .ol ds) ⟨p, vs, rfl, h1, h2, h3, h4, h5⟩) t'.sg
/-- an own list's name becomes data -/
def frzS (i : Nat) (fs : M Out) : M Out := bindM fs fun o => match o with
  | .nx => fun ρ => match olAt i ρ with
    | some ds => some (.nx, ρ.set i (.d (.list ds)))
    | none => none
  | o => retM o
theorem sm_frz {st : Stmt} {u : M Out} (i : Nat) (h : SM X st u) : SM X st (frzS i u) := by
  obtain ⟨t, p, w⟩ := h.ex
  refine ⟨t, p, fun F σ H G ρ o ρ' E g hf q => ?_⟩
  obtain ⟨o1, ρ1, e1, f1⟩ := bind_some hf
  refine w F σ H G ρ o1 ρ1 E g e1 ?_
  cases o1 with
  | nx =>
    simp only at f1
    split at f1
    · rename_i ds hds
      cases f1
      intro σ' H' G' g' s'
      obtain ⟨p, vs, hv, h1, h2, h3, h4, g2, sg, rp⟩ := g'.freezeAt (ol_some hds)
      exact q σ' H' _ g2 (s'.trans sg)
    · cases f1
  | ret d => cases f1; exact q
  | ro d => cases f1; exact q
  | bk => cases f1; exact q
  | ct => cases f1; exact q
end
end
/-! ### a def keeps its promise -/
section
variable {P : Program} {w : World} {K : PySem.W.Frag} {mg : Str → Option Value} {base : Heap} {x qual : Str} {params : Arguments} {body : List Stmt} {scope : Scope} {f : Addr} {fd : FuncData} {N ps : List Str} {k : Nat} {u : M Out}
/-- the slots at the entry -/
abbrev slots (N : List Str) (ds : List Sl) : List Sl := ds ++ List.replicate (N.length - ds.length) .no
/-- what a def hands back -/
abbrev runD (N : List Str) (u : M Out) (ds : List D) : Option D := match u (slots N (ds.map .d)) with
  | some (.ret d, _) => some d
  | some (.nx, _) => some .none
  | some (.ro ds, _) => some (.list ds)
  | _ => none
abbrev runO (N : List Str) (u : M Out) (ds : List D) : Option (List D) := match u (slots N (ds.map .d)) with
  | some (.ro ds, _) => some ds
  | _ => none
abbrev runR (N : List Str) (u : M Out) (ds : List D) : Option (List D) := match u (slots N [.rd ds]) with
  | some (.ro ds, _) => some ds
  | _ => none
abbrev runM (N : List Str) (u : M Out) (pot : List D) (ds : List D) : Option (D × List D) := match u (slots N (.pot pot :: ds.map .d)) with
  | some (.ret d, .pot pot' :: _) => some (d, pot')
  | some (.nx, .pot pot' :: _) => some (.none, pot')
  | _ => none
theorem get_slots {ds : List Sl} {i : Nat} {s : Sl} (h : (slots N ds)[i]? = some s) : ds[i]? = some s ∨ s = .no := by
  unfold slots at h
  by_cases hi : i < ds.length
  · rw [List.getElem?_append_left hi] at h; exact .inl h
  · rw [List.getElem?_append_right (by omega)] at h
    exact .inr (List.eq_of_mem_replicate (List.mem_of_getElem? h))
theorem get_start {vs : List V} {i : Nat} {v : V} (h : vs[i]? = some v) : (start N vs)[i]? = some (some v) := by
  unfold L2.start
  have hi : i < (vs.map some).length := by
    rw [List.length_map]
    rcases Nat.lt_or_ge i vs.length with z | z
    · exact z
    · rw [List.getElem?_eq_none z] at h; cases h
  rw [List.getElem?_append_left hi, List.getElem?_map, h]; rfl
theorem good_start {G H : Hp} {vs : List V} {ds : List D} (hl : ds.length ≤ N.length) (s : Same G H) (r : Reps K G vs ds) : Good K ⟨G, H, none⟩ (slots N (ds.map .d)) (start N vs) H G := by
  have key : ∀ (i : Nat) (t : Sl) (v : Option V), (slots N (ds.map .d))[i]? = some t → (start N vs)[i]? = some v → t = .no ∨ ∃ d u, t = .d d ∧ v = some u ∧ Rep K G u d := fun i t v e1 e2 => by
    rcases get_slots e1 with h | h
    · rw [List.getElem?_map, Option.map_eq_some_iff] at h
      obtain ⟨d, hd, rfl⟩ := h
      obtain ⟨u, hu, ru⟩ := r.get hd
      rw [get_start hu] at e2; cases e2
      exact .inr ⟨d, u, rfl, rfl, ru⟩
    · exact .inl h
  refine ⟨s, Same.refl G, fun a o e _ => e, fun a o _ n => n, fun p e => (nomatch e), ?_, fun i t v e1 e2 => ?_, fun i j t t' v v' p e1 e2 e3 e4 o1 o2 => ?_⟩
  · unfold slots L2.start
    rw [List.length_append, List.length_append, List.length_map, List.length_map, List.length_replicate, List.length_replicate, r.length]
  · rcases key i t v e1 e2 with rfl | ⟨d, u, rfl, rfl, h⟩
    · trivial
    · exact ⟨u, rfl, h⟩
  · rcases key i t v e1 e2 with rfl | ⟨d, u, rfl, rfl, h⟩
    · exact o1.elim
    · exact o1.elim
theorem ok_D (F : FunD K x qual params body scope [] [] f fd) (S : FnScope N ps scope) (hps : ps.length ≤ N.length)
    (hb : ∀ (cdv : Value) (A : Around) (outer : List Env) (s : Shared) (H : Hp) (E : XK), Room k (A.deeper (envOfC qual scope s.heap.objs.size f cdv)) → SsM (cxOf CX0 P w K mg base N qual scope f cdv A outer s H E).nox body u) :
    FnOk P w K mg base CX0 (k + 1) f fd ps (spD K ps.length (runD N u)) := by
  refine F.ok S (fun vs H Q E ⟨G, ds, d, s, hl, r, _⟩ => by rw [r.length, hl]) fun cdv A outer s H vs Q E hr ⟨G, ds, d, sg, hl, r, hf, q⟩ => ?_
  obtain ⟨t, p, w⟩ := (hb cdv A outer s H E hr).ex
  refine ⟨t, p.nox, ?_⟩
  have g0 : Good K ⟨G, H, none⟩ (slots N (ds.map .d)) (start N vs) H G := good_start (by omega) sg r
  simp only [runD] at hf
  have back : ∀ {ρ' : List Sl} {σ' : St} {H' G' : Hp}, Good K ⟨G, H, none⟩ ρ' σ' H' G' → Same H H' ∧ Same G G' ∧ Same G' H' ∧ (∀ a o, H a = some o → G a = none → G' a = none) := fun {ρ' σ' H' G'} g =>
    ⟨fun a o e => g.h0 a o e (fun z => nomatch z), g.g0, g.same, g.n0⟩
  split at hf
  · rename_i dv ρ' e
    cases hf
    exact w ⟨G, H, none⟩ _ H G _ _ ρ' _ g0 e fun v σ' H' G' g' _ r' => by
      obtain ⟨a1, a2, a3, a4⟩ := back g'
      exact q v H' G' a1 a2 a3 a4 r'
  · rename_i ρ' e
    cases hf
    exact w ⟨G, H, none⟩ _ H G _ _ ρ' _ g0 e fun σ' H' G' g' _ => by
      obtain ⟨a1, a2, a3, a4⟩ := back g'
      exact q .non H' G' a1 a2 a3 a4 .non
  · rename_i es ρ' e
    cases hf
    refine w ⟨G, H, none⟩ _ H G _ _ ρ' _ g0 e fun p vs' σ' H' G' g' _ hF hG hH r' => ?_
    obtain ⟨a1, a2, a3, a4⟩ := back g'
    have sg' : Same G' (upd G' p (.lst vs')) := upd_sameN hG
    refine q (.ref p) H' _ a1 (a2.trans sg') (fun b o e => ?_) (fun a o e n => ?_) (.lst upd_same (r'.mono sg'))
    · by_cases z : b = p
      · subst z; rw [upd_same] at e; rw [hH]; exact e
      · rw [upd_ne z] at e; exact a3 _ _ e
    · have hne : a ≠ p := fun z => by
        have hF' : H p = none := hF
        rw [z, hF'] at e; cases e
      rw [upd_ne hne]; exact a4 a o e n
  · cases hf
theorem ok_O (F : FunD K x qual params body scope [] [] f fd) (S : FnScope N ps scope) (hps : ps.length ≤ N.length)
    (hb : ∀ (cdv : Value) (A : Around) (outer : List Env) (s : Shared) (H : Hp) (E : XK), Room k (A.deeper (envOfC qual scope s.heap.objs.size f cdv)) → SsM (cxOf CX0 P w K mg base N qual scope f cdv A outer s H E).nox body u) :
    FnOk P w K mg base CX0 (k + 1) f fd ps (spO K ps.length (runO N u)) := by
  refine F.ok S (fun vs H Q E ⟨G, ds, d, s, hl, r, _⟩ => by rw [r.length, hl]) fun cdv A outer s H vs Q E hr ⟨G, ds, d, sg, hl, r, hf, q⟩ => ?_
  obtain ⟨t, p, w⟩ := (hb cdv A outer s H E hr).ex
  refine ⟨t, p.nox, ?_⟩
  have g0 : Good K ⟨G, H, none⟩ (slots N (ds.map .d)) (start N vs) H G := good_start (by omega) sg r
  simp only [runO] at hf
  split at hf
  · rename_i es ρ' e
    cases hf
    exact w ⟨G, H, none⟩ _ H G _ _ ρ' _ g0 e fun p vs' σ' H' G' g' _ hF hG hH r' => q p vs' H' G' (fun a o e => g'.h0 a o e (fun z => nomatch z)) g'.g0 g'.same g'.n0 hF hG hH r'
  · cases hf
theorem ok_R {y : Str} (F : FunD K x qual params body scope [] [] f fd) (S : FnScope N [y] scope) (hps : 1 ≤ N.length)
    (hb : ∀ (cdv : Value) (A : Around) (outer : List Env) (s : Shared) (H : Hp) (E : XK), Room k (A.deeper (envOfC qual scope s.heap.objs.size f cdv)) → SsM (cxOf CX0 P w K mg base N qual scope f cdv A outer s H E).nox body u) :
    FnOk P w K mg base CX0 (k + 1) f fd [y] (spR K (runR N u)) := by
  refine F.ok S (fun vs H Q E ⟨G, a, xs, ds, d, e, _⟩ => by rw [e]; rfl) fun cdv A outer s H vs Q E hr ⟨G, a, xs, ds, d, ev, sg, hq, r, hf, q⟩ => ?_
  subst ev
  obtain ⟨t, p, w⟩ := (hb cdv A outer s H E hr).ex
  refine ⟨t, p.nox, ?_⟩
  have g0 : Good K ⟨G, H, none⟩ (slots N [.rd ds]) (start N [.ref a]) H G := by
    have key : ∀ (i : Nat) (t : Sl) (v : Option V), (slots N [.rd ds])[i]? = some t → (start N [V.ref a])[i]? = some v → t = .no ∨ (t = .rd ds ∧ v = some (.ref a)) := fun i t v e1 e2 => by
      rcases get_slots e1 with h | h
      · cases i with
        | zero => cases h; rw [get_start (vs := [V.ref a]) (i := 0) rfl] at e2; cases e2; exact .inr ⟨rfl, rfl⟩
        | succ i => simp at h
      · exact .inl h
    refine ⟨sg, Same.refl G, fun a o e _ => e, fun a o _ n => n, fun p e => (nomatch e), ?_, fun i t v e1 e2 => ?_, fun i j t t' v v' p e1 e2 e3 e4 o1 o2 => ?_⟩
    · unfold slots L2.start; simp
    · rcases key i t v e1 e2 with rfl | ⟨rfl, rfl⟩
      · trivial
      · exact ⟨a, xs, rfl, hq, r⟩
    · rcases key i t v e1 e2 with rfl | ⟨rfl, rfl⟩
      · exact o1.elim
      · exact o1.elim
  simp only [runR] at hf
  split at hf
  · rename_i es ρ' e
    cases hf
    exact w ⟨G, H, none⟩ _ H G _ _ ρ' _ g0 e fun p vs' σ' H' G' g' _ hF hG hH r' => q p vs' H' G' (fun a o e => g'.h0 a o e (fun z => nomatch z)) g'.g0 g'.same g'.n0 hF hG hH r'
  · cases hf
theorem ok_M {y : Str} (F : FunD K x qual params body scope [] [] f fd) (S : FnScope N (y :: ps) scope) (hps : ps.length + 1 ≤ N.length)
    (hb : ∀ (cdv : Value) (A : Around) (outer : List Env) (s : Shared) (H : Hp) (E : XK), Room k (A.deeper (envOfC qual scope s.heap.objs.size f cdv)) → SsM (cxOf CX0 P w K mg base N qual scope f cdv A outer s H E).nox body u) :
    FnOk P w K mg base CX0 (k + 1) f fd (y :: ps) (spM K ps.length (runM N u)) := by
  refine F.ok S (fun vs H Q E ⟨G, p, qs, pot, us, ds, d, pot', e, hl, s, _, _, _, r, _⟩ => by rw [e, List.length_cons, List.length_cons, r.length, hl]) fun cdv A outer s H vs Q E hr ⟨G, p, qs, pot, us, ds, d, pot', ev, hl, sg, hG, hH, rp, r, hf, q⟩ => ?_
  subst ev
  obtain ⟨t, pt, w⟩ := (hb cdv A outer s H E hr).ex
  refine ⟨t, pt.nox, ?_⟩
  have g0 : Good K ⟨G, H, some p⟩ (slots N (.pot pot :: ds.map .d)) (start N (.ref p :: us)) H G := by
    have key : ∀ (i : Nat) (t : Sl) (v : Option V), (slots N (.pot pot :: ds.map .d))[i]? = some t → (start N (V.ref p :: us))[i]? = some v → t = .no ∨ (i = 0 ∧ t = .pot pot ∧ v = some (.ref p)) ∨ ∃ d u, t = .d d ∧ v = some u ∧ Rep K G u d := fun i t v e1 e2 => by
      rcases get_slots e1 with h | h
      · cases i with
        | zero => cases h; rw [get_start (vs := V.ref p :: us) (i := 0) rfl] at e2; cases e2; exact .inr (.inl ⟨rfl, rfl, rfl⟩)
        | succ i =>
          rw [List.getElem?_cons_succ, List.getElem?_map, Option.map_eq_some_iff] at h
          obtain ⟨d, hd, rfl⟩ := h
          obtain ⟨u, hu, ru⟩ := r.get hd
          rw [get_start (vs := V.ref p :: us) (i := i + 1) (by rw [List.getElem?_cons_succ]; exact hu)] at e2; cases e2
          exact .inr (.inr ⟨d, u, rfl, rfl, ru⟩)
      · exact .inl h
    refine ⟨sg, Same.refl G, fun a o e _ => e, fun a o _ n => n, fun p' e => ?_, ?_, fun i t v e1 e2 => ?_, fun i j t t' v v' p' e1 e2 e3 e4 o1 o2 => ?_⟩
    · cases e; exact ⟨⟨_, hH⟩, hG, ⟨_, hH⟩⟩
    · unfold slots L2.start
      simp only [List.length_append, List.length_cons, List.length_map, List.length_replicate, r.length]
    · rcases key i t v e1 e2 with rfl | ⟨_, rfl, rfl⟩ | ⟨d, u, rfl, rfl, h⟩
      · trivial
      · exact ⟨p, qs, rfl, rfl, hG, hH, rp⟩
      · exact ⟨u, rfl, h⟩
    · rcases key i t v e1 e2 with rfl | ⟨h1, rfl, rfl⟩ | ⟨d, u, rfl, rfl, h⟩
      · exact o1.elim
      · rcases key j t' v' e3 e4 with rfl | ⟨h2, rfl, rfl⟩ | ⟨d, u, rfl, rfl, h⟩
        · exact o2.elim
        · rw [h1, h2]
        · exact o2.elim
      · exact o1.elim
  simp only [runM] at hf
  have back : ∀ {ρ' : List Sl} {pot'' : List D} {σ' : St} {H' G' : Hp}, Good K ⟨G, H, some p⟩ (.pot pot'' :: ρ') σ' H' G' → (∀ a o, H a = some o → a ≠ p → H' a = some o) ∧ ∃ ps', H' p = some (.lst ps') ∧ Reps K G' ps' pot'' := fun {ρ' pot'' σ' H' G'} g => by
    refine ⟨fun a o e n => g.h0 a o e fun z => n (Option.some.inj z).symm, ?_⟩
    obtain ⟨v, hv, ok⟩ := slot_at g (i := 0) rfl
    obtain ⟨p', vs, e, h1, h2, h3, h4⟩ := ok
    have e2 : p' = p := (Option.some.inj h1).symm
    rw [e2] at h3
    exact ⟨vs, h3, h4⟩
  split at hf
  · rename_i dv pot'' ρ' e
    cases hf
    exact w ⟨G, H, some p⟩ _ H G _ _ _ _ g0 e fun v σ' H' G' g' _ r' => by
      obtain ⟨a1, ps', a2, a3⟩ := back g'
      exact q v H' G' ps' a1 g'.g0 g'.same g'.n0 a2 a3 r'
  · rename_i pot'' ρ' e
    cases hf
    exact w ⟨G, H, some p⟩ _ H G _ _ _ _ g0 e fun σ' H' G' g' _ => by
      obtain ⟨a1, ps', a2, a3⟩ := back g'
      exact q .non H' G' ps' a1 g'.g0 g'.same g'.n0 a2 a3 .non
  · cases hf
end
end PD
end
/-! PD11: zip and enumerate over lists and tuples in any mix. -/
noncomputable section
namespace PD
open PySem PySem.Spec PyProof.Rows L2
/-- a list (false), a tuple (true) -/
def SqK (b : Bool) (K : PySem.W.Frag) (H : Hp) (a : Addr) (xs : List V) : Prop := if b = true then SqT K H a xs else SqL K H a xs
def ItK (b : Bool) (h : Heap) (it a : Addr) (i : Nat) : Prop := if b = true then h.IsTupleIter it a i else h.IsListIter it a i
def ObK (b : Bool) (h : Heap) (a : Addr) (its : Array Value) : Prop := if b = true then h.IsTuple a its else h.IsList a its
def cellK (b : Bool) (a : Addr) : Obj := if b = true then { cls := .type "tuple_iterator", data := .fields #[.ref a, .int 0 0] } else { cls := .type "list_iterator", data := .fields #[.ref a, .int 0 0] }
theorem ItK.cell {b : Bool} {h : Heap} {it a : Addr} {i : Nat} (x : ItK b h it a i) : ∃ o, h.get? it = some o ∧ ∀ v, o.data ≠ .cell v := by
  cases b with
  | true => obtain ⟨o, e, _, d⟩ := (show h.IsTupleIter it a i from x); exact ⟨o, e, fun v q => by rw [d] at q; cases q⟩
  | false => obtain ⟨o, e, _, d⟩ := (show h.IsListIter it a i from x); exact ⟨o, e, fun v q => by rw [d] at q; cases q⟩
theorem ItK.at {b : Bool} {h h' : Heap} {it a : Addr} {i : Nat} (x : ItK b h it a i) (k : ∀ o, h.get? it = some o → h'.get? it = some o) : ItK b h' it a i := by
  cases b with
  | true => exact (show h.IsTupleIter it a i from x).at k
  | false => exact (show h.IsListIter it a i from x).at k
theorem ItK.new {b : Bool} {h : Heap} {it a : Addr} (x : h.get? it = some (cellK b a)) : ItK b h it a 0 := by
  cases b with
  | true => exact ⟨_, x, rfl, rfl⟩
  | false => exact ⟨_, x, rfl, rfl⟩
theorem draws_K {prog : Program} {w : World} {A : Around} (b : Bool) (hh : A.handled = none) (it a : Addr) (hne : a ≠ it) (its : Array Value) :
    Draws prog w A it [it, a] its.size (fun i v => its[i]? = some v) (fun i h => ItK b h it a i ∧ ObK b h a its) := by
  cases b with
  | true => exact Draws.tuple hh it a hne its
  | false => exact Draws.list hh it a hne its
theorem begins_K (b : Bool) (a : Addr) (its : Array Value) : Begins (.ref a) (cellK b a) fun h => ObK b h a its := by
  cases b with
  | true => exact begins_tuple a its
  | false => exact begins_list a its
section
variable {X : Cx} {pins : List (Addr × Obj)} {σ : St} {H : Hp} {s : Shared} {a : Addr} {xs ys : List V} {b : Bool}
theorem inv_K (I : Inv X pins σ H s) (h : SqK b X.K H a xs) : ∃ its : List Value, Vals xs its ∧ ObK b s.heap a its.toArray ∧ xs.length ≤ sizeLine ∧ a < s.heap.objs.size := by
  cases b with
  | true =>
    obtain ⟨its, r, p, z⟩ := I.tuple h
    obtain ⟨o, ho, _⟩ := id p
    exact ⟨its, r, p, z, Heap.lt_size ho⟩
  | false =>
    obtain ⟨its, r, p, z⟩ := I.list h
    exact ⟨its, r, p.isList, z, p.lt⟩
theorem inj_K (I : Inv X pins σ H s) (h : SqK b X.K H a xs) (h' : SqK b X.K H a ys) : xs = ys := by
  cases b with
  | true => exact I.tuple_inj h h'
  | false => exact I.list_inj h h'
end
/-- pairs of the items of two sequences -/
def ItzK (k1 k2 : Bool) (K : PySem.W.Frag) (a b : Addr) : It :=
  ⟨fun i H => ∃ (xs ys : List V) (x y : V), SqK k1 K H a xs ∧ SqK k2 K H b ys ∧ xs[i]? = some x ∧ ys[i]? = some y,
    fun i H v H' => ∃ T x y, v = .ref T ∧ H T = none ∧ H' = upd H T (.tup [x, y]) ∧ (∀ xs, SqK k1 K H a xs → xs[i]? = some x) ∧ ∀ ys, SqK k2 K H b ys → ys[i]? = some y,
    fun i H => ∃ xs ys : List V, SqK k1 K H a xs ∧ SqK k2 K H b ys ∧ i = min xs.length ys.length⟩
theorem walk_zipK {K : PySem.W.Frag} {k1 k2 : Bool} {a b : Addr} {xs ys : List V} {n : Nat} (hn : n = min xs.length ys.length) : Walk (ItzK k1 k2 K a b) n (fun H => SqK k1 K H a xs ∧ SqK k2 K H b ys) (YPair (fun i => xs[i]?) (fun i => ys[i]?)) :=
  ⟨fun i H hi ⟨h1, h2⟩ => ⟨xs, ys, xs[i]'(by omega), ys[i]'(by omega), h1, h2, List.getElem?_eq_getElem _, List.getElem?_eq_getElem _⟩, fun H ⟨h1, h2⟩ => ⟨xs, ys, h1, h2, hn⟩,
    fun i H x H' _ ⟨h1, h2⟩ ⟨T, u, v, e, n, e2, f1, f2⟩ => ⟨T, u, v, e, n, e2, f1 xs h1, f2 ys h2⟩⟩
structure Apart5 (z TI TO i1 i2 a b : Addr) : Prop where
  sep : ∀ (fa fb : List Addr), fa = [i1, a] → fb = [i2, b] → ZipSep2 z TI TO i1 i2 fa fb
  a1 : a ≠ i1
  b2 : b ≠ i2
theorem apart5 {N a b : Nat} (ha : a < N) (hb : b < N) : Apart5 (N + 4) (N + 2) (N + 3) N (N + 1) a b := by
  refine ⟨fun fa fb ea eb => ?_, Nat.ne_of_lt ha, Nat.ne_of_lt (Nat.lt_succ_of_lt hb)⟩
  subst ea eb
  exact zip_sep2 (fp1 := [a]) (fp2 := [b]) (fun c hc => by rw [List.mem_singleton.mp hc]; exact ha) (fun c hc => by rw [List.mem_singleton.mp hc]; exact hb)
theorem turn_zipK {P : Program} {w : World} {K : PySem.W.Frag} {elts : List Expr} {kk : Nat} {tpos : Pos} {k1 k2 : Bool} {a b z TI TO i1 i2 : Addr} (D : Apart5 z TI TO i1 i2 a b) :
    Turn P w K (.Tuple elts kk tpos) (ItzK k1 k2 K a b) [z, TI, TO, i1, i2] z (fun i h => IsZip h z TI TO .none ∧ IsTupOf2 h TI (.ref i1) (.ref i2) ∧ (∃ x y, IsTupOf2 h TO x y) ∧ ItK k1 h i1 a i ∧ ItK k2 h i2 b i) where
  mem := List.mem_cons_self
  obj := fun i h st c hc => by
    obtain ⟨hz, hTI, ⟨x, y, hTO⟩, h1, h2⟩ := st
    have e' : c = z ∨ c = TI ∨ c = TO ∨ c = i1 ∨ c = i2 := by simpa using hc
    rcases e' with q | q | q | q | q <;> rw [q]
    · exact ⟨_, hz, fun v q => nomatch q⟩
    · exact ⟨_, hTI, fun v q => nomatch q⟩
    · exact ⟨_, hTO, fun v q => nomatch q⟩
    · exact h1.cell
    · exact h2.cell
  keep := fun i h h' st k => by
    obtain ⟨hz, hTI, ⟨x, y, hTO⟩, h1, h2⟩ := st
    exact ⟨k z (by simp) _ hz, k TI (by simp) _ hTI, ⟨x, y, k TO (by simp) _ hTO⟩, h1.at fun o q => k i1 (by simp) o q, h2.at fun o q => k i2 (by simp) o q⟩
  item := by
    intro X hP hw hK hc i pins s σ H E I hf st hg
    subst hP hw hK
    obtain ⟨hz, hTI, hTO, h1, h2⟩ := st
    obtain ⟨xs, ys, x, y, hqx, hqy, hx, hy⟩ := hg
    obtain ⟨its, rv, p, _, _⟩ := inv_K I hqx
    obtain ⟨its2, rv2, p2, _, _⟩ := inv_K I hqy
    obtain ⟨u, hu, ru⟩ := rv.get hx
    obtain ⟨u2, hu2, ru2⟩ := rv2.get hy
    have hh : X.A.in1.handled = none := I.ok.hd hc
    have W := WalksT.zipD2 (A := X.A) (D.sep _ _ rfl rfl) (draws_K (prog := X.prog) (w := X.w) k1 hh i1 a D.a1 its.toArray) (draws_K k2 hh i2 b D.b2 its2.toArray)
    have l1 : i < its.toArray.size := by
      have := (List.getElem?_eq_some_iff.mp hu).1
      rw [List.size_toArray]; exact this
    have l2 : i < its2.toArray.size := by
      have := (List.getElem?_eq_some_iff.mp hu2).1
      rw [List.size_toArray]; exact this
    refine W.item i s _ E (by omega) ⟨hz, hTI, hTO, ⟨h1, p⟩, ⟨h2, p2⟩⟩ fun T vals h' tk hP hT hIT hM hk => ⟨_, rfl, W.go elts kk tpos i T _ _ _ hM fun h'' st'' hk'' => ?_⟩
    obtain ⟨v1, v2, e1, e2, rfl⟩ := hP
    have q1 : v1 = u := by
      have z : its[i]? = some v1 := by simpa using e1
      rw [hu] at z; exact (Option.some.inj z).symm
    have q2 : v2 = u2 := by
      have z : its2[i]? = some v2 := by simpa using e2
      rw [hu2] at z; exact (Option.some.inj z).symm
    subst q1 q2
    have hap := W.apart i T h' hM
    have sub : ∀ c, c ∈ [z, TO, i1, i2] → c ∈ [z, TI, TO, i1, i2] := fun c hc => by
      have e : c = z ∨ c = TO ∨ c = i1 ∨ c = i2 := by simpa using hc
      rcases e with e | e | e | e <;> simp [e]
    obtain ⟨oT, g1, g2, nT, g3⟩ := hIT
    have new : ObjOk X.prog X.w (upd H T (.tup [x, y])) h'' T (.tup [x, y]) :=
      ⟨by show 2 ≤ sizeLine; decide, [v1, v2], .cons ru (.cons ru2 .nil), ⟨oT, hk'' T oT hap g1, g2, nT, g3⟩⟩
    have I1 : Inv X pins σ (upd H T (.tup [x, y])) { s with heap := h'', toks := tk } :=
      I.turnedNew (ch := [z, TI, TO, i1, i2]) (fun c o hb q => hk'' c o (fun q' => hb (sub c q')) (hk c o (fun q' => hb (sub c q')) q)) hf hT new
    obtain ⟨a1, a2, a3, a4, a5⟩ := st''
    refine ⟨.ref T, _, I1, rfl, ⟨T, x, y, rfl, I.hok.fresh hT, rfl, fun l hl => by rw [inj_K I hl hqx]; exact hx, fun l hl => by rw [inj_K I hl hqy]; exact hy⟩, ⟨a1, a2, a3, a4.1, a5.1⟩, fun c hcm => ?_⟩
    have hne : c ≠ T := fun e => by
      have : ∃ o, s.heap.get? c = some o := by
        have e' : c = z ∨ c = TI ∨ c = TO ∨ c = i1 ∨ c = i2 := by simpa using hcm
        obtain ⟨x0, y0, hTO⟩ := hTO
        rcases e' with q | q | q | q | q <;> rw [q]
        · exact ⟨_, hz⟩
        · exact ⟨_, hTI⟩
        · exact ⟨_, hTO⟩
        · obtain ⟨o, h, _⟩ := h1.cell; exact ⟨o, h⟩
        · obtain ⟨o, h, _⟩ := h2.cell; exact ⟨o, h⟩
      obtain ⟨o, ho⟩ := this
      have lt := Heap.lt_size ho
      rw [e] at lt
      exact absurd (Nat.lt_of_lt_of_le lt hT) (Nat.lt_irrefl _)
    rw [upd_ne hne]
    exact (hf c hcm).1
  done := by
    intro X hP hw hK hc i pins s σ H E I hf st hg
    subst hP hw hK
    obtain ⟨hz, hTI, hTO, h1, h2⟩ := st
    obtain ⟨xs, ys, hqx, hqy, hi⟩ := hg
    obtain ⟨its, rv, p, _, _⟩ := inv_K I hqx
    obtain ⟨its2, rv2, p2, _, _⟩ := inv_K I hqy
    have hh : X.A.in1.handled = none := I.ok.hd hc
    have W := WalksT.zipD2 (A := X.A) (D.sep _ _ rfl rfl) (draws_K (prog := X.prog) (w := X.w) k1 hh i1 a D.a1 its.toArray) (draws_K k2 hh i2 b D.b2 its2.toArray)
    have en : min its.toArray.size its2.toArray.size = i := by
      rw [List.size_toArray, List.size_toArray, ← rv.length, ← rv2.length]; exact hi.symm
    refine W.done s _ E (by rw [en]; exact ⟨hz, hTI, hTO, ⟨h1, p⟩, ⟨h2, p2⟩⟩) fun h' tk hk => ⟨rfl, ?_⟩
    refine I.turnedL (ch := [z, TI, TO, i1, i2]) (fun c o hb q => hk c o (fun q' => hb ?_) q) hf
    have e : c = z ∨ c = TO ∨ c = i1 ∨ c = i2 := by simpa using q'
    rcases e with e | e | e | e <;> simp [e]
  self := fun A i s Q E st h => wpAny_pyIter_zip st.1 h
def iZipK (k1 k2 : Bool) (K : PySem.W.Frag) (ta : TA) : TI := fun σ H R => ta σ H fun vs H1 => ∃ a b xs ys, vs = [.ref a, .ref b] ∧ SqK k1 K H1 a xs ∧ SqK k2 K H1 b ys ∧ R (ItzK k1 k2 K a b) H1
section
variable {X : Cx} {e e2 : Expr} {ta : TA} {p pos tpos : Pos} {elts : List Expr} {kk : Nat}
theorem pi_zipK (k1 k2 : Bool) (hg : Gl X "zip") (hm : X.mg "zip" = none) (ha : PA X [e, e2] ta)
    (hs : starEach [e, e2] X.env = (false, eval e X.env) :: starEach [e2] X.env) (hpl : (backTo pos (starEach [e2] X.env)).any (·.1) = false) :
    PI X (.Tuple elts kk tpos) (.Call (.Name "zip" p) [e, e2] [] pos) (iZipK k1 k2 X.K ta) := by
  refine ⟨fun pins s σ H R I h => ?_⟩
  refine Call_ (ld_blt I hg hm PyProof.Rows.boot_zip (PyProof.Rows.callWith_type1 (thn (ha.run pos pins s σ H _ I h) fun us s1 hq => ?_) hs hpl))
  obtain ⟨vs, H1, I1, r1, a, b, xs, ys, ex, hqx, hqy, q⟩ := hq
  subst ex
  obtain ⟨v1, v2, rfl, ra, rb⟩ := vals2 r1
  cases ra
  cases rb
  obtain ⟨its, rv, p1, _, la⟩ := inv_K I1 hqx
  obtain ⟨its2, rv2, p2, _, lb⟩ := inv_K I1 hqy
  refine zip_begins2 (begins_K k1 a its.toArray) (begins_K k2 b its2.toArray) p1 p2 fun h' hz hTI hTO g1 g2 hsz hk => wpAny_pyIter_zip hz ?_
  have I2 : Inv X pins σ H1 { s1 with heap := h' } := I1.kept (t' := s1.toks) hk
  refine ⟨s1.heap.objs.size + 4, [s1.heap.objs.size + 4, s1.heap.objs.size + 2, s1.heap.objs.size + 3, s1.heap.objs.size, s1.heap.objs.size + 1], _, _, H1, rfl, I2, turn_zipK (k1 := k1) (k2 := k2) (apart5 la lb), ⟨hz, hTI, ⟨_, _, hTO⟩, ItK.new g1, ItK.new g2⟩, fun c hcm => ?_, q⟩
  have hle : s1.heap.objs.size ≤ c := by
    have e' : c = s1.heap.objs.size + 4 ∨ c = s1.heap.objs.size + 2 ∨ c = s1.heap.objs.size + 3 ∨ c = s1.heap.objs.size ∨ c = s1.heap.objs.size + 1 := by simpa using hcm
    rcases e' with z | z | z | z | z <;> rw [z] <;> first | exact Nat.le_add_right _ _ | exact Nat.le_refl _
  exact I1.fpOk hle (I1.hok.fresh hle)
end
/-! ### enumerate -/
theorem meets_enum1 {v : Value} {o : Obj} {H : Heap → Prop} (B : Begins v o H) :
    Meets (Builtin.«enumerate.__new__» ⟨[.type "enumerate", v], []⟩) (fun _ R s => H s.heap ∧
      R (.ok (.ret (.ref (s.heap.push o).objs.size))) { s with heap := (s.heap.push o).push { cls := .type "enumerate", data := .fields #[.none, .bool false, .ref s.heap.objs.size, rawInt 0, .none, .none] } }) :=
  .of_wp fun prog w A R s h => by
    obtain ⟨hp, g, d, tk, os⟩ := s
    obtain ⟨h1, h⟩ := h
    have hsub := sub_enumerate
    have q1 : ∀ {A' : Around} {E : Value → Shared → Prop} {Q : Value → Shared → Prop}, Q (.ref hp.objs.size) ⟨hp.push o, g, d, tk, os⟩ → wpAny (model prog w) A' (pyIter v) Q E ⟨hp, g, d, tk, os⟩ := fun q => B.iter prog w _ _ ⟨hp, g, d, tk, os⟩ _ h1 q
    wp_walk using q1
    refine wpAny_stack_any fun st => wpAny_pure ?_
    split
    · rename_i c _ _ _ _ _
      cases (c == Value.type "enumerate")
      all_goals (wp_walk using q1; exact ⟨_, rfl, h⟩)
    · wp_walk using q1
      exact ⟨_, rfl, h⟩
theorem enum_begins1 {prog : Program} {w : World} {A : Around} {E : Value → Shared → Prop} {s : Shared} {v : Value} {o : Obj} {H : Heap → Prop} {Q : Value → Shared → Prop} (B : Begins v o H) (h1 : H s.heap)
    (h : ∀ h', IsEnum h' (s.heap.objs.size + 1) s.heap.objs.size 0 .none → h'.get? s.heap.objs.size = some o → h'.objs.size = s.heap.objs.size + 2 → (∀ b u, s.heap.get? b = some u → h'.get? b = some u) → Q (.ref (s.heap.objs.size + 1)) { s with heap := h' }) :
    wpAny (model prog w) A (call (.type "enumerate") [v]) Q E s := by
  refine callType_new F.called_enumerate (by decide) (F.typeCall_enumerate_1 _) (F.newCall_enumerate_1 _) (fun obj => F.args_object_init_2 obj _) F.entry_enumerate_new (meets_enum1 B) ⟨h1, ?_⟩
  have hz : (s.heap.push o).objs.size = s.heap.objs.size + 1 := Heap.size_push ..
  show _ ∧ _
  rw [hz]
  have hnew := Heap.get?_push_size (s.heap.push o) (o := { cls := .type "enumerate", data := .fields #[.none, .bool false, .ref s.heap.objs.size, rawInt 0, .none, .none] }) rfl
  rw [hz] at hnew
  exact ⟨⟨_, hnew, rfl⟩, h _ hnew (Heap.get?_push_of_some _ (Heap.get?_push_size _ B.free)) (by rw [Heap.size_push, hz]) fun b u x => Heap.get?_push_of_some _ (Heap.get?_push_of_some _ x)⟩
/-- the items of a sequence, counted -/
def IteK (k1 : Bool) (K : PySem.W.Frag) (a : Addr) : It :=
  ⟨fun i H => ∃ (xs : List V) (x : V), SqK k1 K H a xs ∧ xs[i]? = some x,
    fun i H v H' => ∃ T x, v = .ref T ∧ H T = none ∧ H' = upd H T (.tup [.int (i : Nat), x]) ∧ ∀ xs, SqK k1 K H a xs → xs[i]? = some x,
    fun i H => ∃ xs : List V, SqK k1 K H a xs ∧ i = xs.length⟩
theorem walk_enumK {K : PySem.W.Frag} {k1 : Bool} {a : Addr} {xs : List V} : Walk (IteK k1 K a) xs.length (fun H => SqK k1 K H a xs) (YPair (fun i => some (.int (i : Nat))) (fun i => xs[i]?)) :=
  ⟨fun i H hi h1 => ⟨xs, xs[i], h1, List.getElem?_eq_getElem _⟩, fun H h1 => ⟨xs, h1, rfl⟩, fun i H x H' _ h1 ⟨T, v, e, n, e2, f1⟩ => ⟨T, _, v, e, n, e2, rfl, f1 xs h1⟩⟩
theorem turn_enumK {P : Program} {w : World} {K : PySem.W.Frag} {elts : List Expr} {kk : Nat} {tpos : Pos} {k1 : Bool} {a e it : Addr} (h1 : e ≠ it) (h2 : e ≠ a) (h3 : a ≠ it) :
    Turn P w K (.Tuple elts kk tpos) (IteK k1 K a) [e, it] e (fun i h => (∃ old, IsEnum h e it (0 + (i : Int)) old) ∧ ItK k1 h it a i) where
  mem := List.mem_cons_self
  obj := fun i h st c hc => by
    obtain ⟨⟨old, he⟩, hi⟩ := st
    have e' : c = e ∨ c = it := by simpa using hc
    rcases e' with q | q <;> rw [q]
    · exact ⟨_, he, fun v q => nomatch q⟩
    · exact hi.cell
  keep := fun i h h' st k => by
    obtain ⟨⟨old, he⟩, hi⟩ := st
    exact ⟨⟨old, k e (by simp) _ he⟩, hi.at fun o q => k it (by simp) o q⟩
  item := by
    intro X hP hw hK hc i pins s σ H E I hf st hg
    subst hP hw hK
    obtain ⟨he, hi⟩ := st
    obtain ⟨xs, x, hqx, hx⟩ := hg
    obtain ⟨its, rv, p, _, _⟩ := inv_K I hqx
    obtain ⟨u, hu, ru⟩ := rv.get hx
    have hh : X.A.in1.handled = none := I.ok.hd hc
    have W := WalksT.enumFrom (A := X.A) 0 (draws_K (prog := X.prog) (w := X.w) k1 hh it a h3 its.toArray) e h1 (by simp [h1, h2]) (by simp)
    have l1 : i < its.toArray.size := by
      have := (List.getElem?_eq_some_iff.mp hu).1
      rw [List.size_toArray]; exact this
    refine W.item i s _ E l1 ⟨he, ⟨hi, p⟩⟩ fun T vals h' tk hP hT hIT hM hk => ⟨_, rfl, W.go elts kk tpos i T _ _ _ hM fun h'' st'' hk'' => ?_⟩
    obtain ⟨t, v1, e1, rfl⟩ := hP
    have q1 : v1 = u := by
      have z : its[i]? = some v1 := by simpa using e1
      rw [hu] at z; exact (Option.some.inj z).symm
    subst q1
    have hap := W.apart i T h' hM
    obtain ⟨oT, g1, g2, nT, g3⟩ := hIT
    have new : ObjOk X.prog X.w (upd H T (.tup [.int (i : Nat), x])) h'' T (.tup [.int (i : Nat), x]) :=
      ⟨by show 2 ≤ sizeLine; decide, [.int (0 + (i : Int)) t, v1], .cons ⟨t, by rw [Int.zero_add]⟩ (.cons ru .nil), ⟨oT, hk'' T oT hap g1, g2, nT, g3⟩⟩
    have I1 : Inv X pins σ (upd H T (.tup [.int (i : Nat), x])) { s with heap := h'', toks := tk } :=
      I.turnedNew (ch := [e, it]) (fun c o hb q => hk'' c o hb (hk c o hb q)) hf hT new
    obtain ⟨a1, a2⟩ := st''
    refine ⟨.ref T, _, I1, rfl, ⟨T, x, rfl, I.hok.fresh hT, rfl, fun l hl => by rw [inj_K I hl hqx]; exact hx⟩, ⟨a1, a2.1⟩, fun c hcm => ?_⟩
    have hne : c ≠ T := fun z => by
      have : ∃ o, s.heap.get? c = some o := by
        have e' : c = e ∨ c = it := by simpa using hcm
        obtain ⟨old, he⟩ := he
        rcases e' with q | q <;> rw [q]
        · exact ⟨_, he⟩
        · obtain ⟨o, h, _⟩ := hi.cell; exact ⟨o, h⟩
      obtain ⟨o, ho⟩ := this
      have lt := Heap.lt_size ho
      rw [z] at lt
      exact absurd (Nat.lt_of_lt_of_le lt hT) (Nat.lt_irrefl _)
    rw [upd_ne hne]
    exact (hf c hcm).1
  done := by
    intro X hP hw hK hc i pins s σ H E I hf st hg
    subst hP hw hK
    obtain ⟨he, hi⟩ := st
    obtain ⟨xs, hqx, hn⟩ := hg
    obtain ⟨its, rv, p, _, _⟩ := inv_K I hqx
    have hh : X.A.in1.handled = none := I.ok.hd hc
    have W := WalksT.enumFrom (A := X.A) 0 (draws_K (prog := X.prog) (w := X.w) k1 hh it a h3 its.toArray) e h1 (by simp [h1, h2]) (by simp)
    have en : its.toArray.size = i := by rw [List.size_toArray, ← rv.length]; exact hn.symm
    refine W.done s _ E (by rw [en]; exact ⟨he, ⟨hi, p⟩⟩) fun h' tk hk => ⟨rfl, ?_⟩
    exact I.turnedL (ch := [e, it]) (fun c o hb q => hk c o hb q) hf
  self := fun A i s Q E st h => by
    obtain ⟨⟨old, he⟩, _⟩ := st
    exact wpAny_pyIter_enum he h
def iEnumK (k1 : Bool) (K : PySem.W.Frag) (ta : TA) : TI := fun σ H R => ta σ H fun vs H1 => ∃ a xs, vs = [.ref a] ∧ SqK k1 K H1 a xs ∧ R (IteK k1 K a) H1
section
variable {X : Cx} {e e2 : Expr} {ta : TA} {p pos tpos : Pos} {elts : List Expr} {kk : Nat}
theorem pi_enumK (k1 : Bool) (hg : Gl X "enumerate") (hm : X.mg "enumerate" = none) (ha : PA X [e] ta) (hs : starEach [e] X.env = [(false, eval e X.env)]) :
    PI X (.Tuple elts kk tpos) (.Call (.Name "enumerate" p) [e] [] pos) (iEnumK k1 X.K ta) := by
  refine ⟨fun pins s σ H R I h => ?_⟩
  refine Call_ (ld_blt I hg hm boot_enumerate (PyProof.Rows.callWith_type1 (thn (ha.run pos pins s σ H _ I h) fun us s1 hq => ?_) hs rfl))
  obtain ⟨vs, H1, I1, r1, a, xs, ex, hqx, q⟩ := hq
  subst ex
  obtain ⟨v1, rfl, ra⟩ := vals1 r1
  cases ra
  obtain ⟨its, rv, p1, _, la⟩ := inv_K I1 hqx
  refine enum_begins1 (begins_K k1 a its.toArray) p1 fun h' he g1 hsz hk => wpAny_pyIter_enum he ?_
  have I2 : Inv X pins σ H1 { s1 with heap := h' } := I1.kept (t' := s1.toks) hk
  refine ⟨s1.heap.objs.size + 1, [s1.heap.objs.size + 1, s1.heap.objs.size], _, _, H1, rfl, I2, turn_enumK (k1 := k1) (Nat.succ_ne_self _) (Nat.ne_of_gt (Nat.lt_succ_of_lt la)) (Nat.ne_of_lt la), ⟨⟨_, he⟩, ItK.new g1⟩, fun c hcm => ?_, q⟩
  have hle : s1.heap.objs.size ≤ c := by
    have e' : c = s1.heap.objs.size + 1 ∨ c = s1.heap.objs.size := by simpa using hcm
    rcases e' with z | z <;> rw [z] <;> first | exact Nat.le_add_right _ _ | exact Nat.le_refl _
  exact I1.fpOk hle (I1.hok.fresh hle)
end
/-! ### over data -/
abbrev zip2 (xs ys : List D) : List D := (List.zip xs ys).map fun p => .tuple [p.1, p.2]
abbrev enum2 (xs : List D) : List D := (List.zip (List.range xs.length) xs).map fun p => .tuple [.int (p.1 : Nat), p.2]
section
variable {X : Cx} {e e2 : Expr} {p pos tpos : Pos} {elts : List Expr} {kk : Nat} {fr fq : M Rf}
theorem sqk_of {K : PySem.W.Frag} {G : Hp} {b : Bool} {a : Addr} {xs : List V} (h : if b = true then SqT K G a xs else SqL K G a xs) : SqK b K G a xs := h
theorem SqK.same {K : PySem.W.Frag} {G G' : Hp} {b : Bool} {a : Addr} {xs : List V} (h : SqK b K G a xs) (s : Same G G') : SqK b K G' a xs := by
  cases b with
  | true => exact same_seqT s h
  | false => exact s.seq h
theorem looki_mono {F : Fr} {K : PySem.W.Frag} {ρ : List Sl} {r : Rf} : True := trivial
theorem im_zip (h1 : CM X e fr) (h2 : CM X e2 fq) (hm : X.mg "zip" = none) (hg : Gl X "zip" := by rfl) (hs : starEach [e, e2] X.env = (false, eval e X.env) :: starEach [e2] X.env := by rfl) (hs2 : starEach [e2] X.env = (false, eval e2 X.env) :: starEach [] X.env := by rfl) (hpl : (backTo pos (starEach [e2] X.env)).any (·.1) = false := by rfl) :
    IM X (.Tuple elts kk tpos) (.Call (.Name "zip" p) [e, e2] [] pos) (bindM fr fun r1 => bindM fq fun r2 => lookM fun ρ => match looki r1 ρ, looki r2 ρ with | some (_, xs), some (_, ys) => some (zip2 xs ys) | _, _ => none) := by
  obtain ⟨t, q, w⟩ := h1.ex
  obtain ⟨t2, q2, w2⟩ := h2.ex
  have pa := pa_cons q (pa_cons q2 pa_nil hs2) hs
  refine ⟨_, PI.or (PI.or (pi_zipK false false hg hm pa hs hpl) (pi_zipK false true hg hm pa hs hpl)) (PI.or (pi_zipK true false hg hm pa hs hpl) (pi_zipK true true hg hm pa hs hpl)), fun F σ H G ρ ds ρ' R g hf k => ?_⟩
  obtain ⟨r1, ρ1, e1, f1⟩ := bind_some hf
  obtain ⟨r2, ρ2, e2', f2⟩ := bind_some f1
  obtain ⟨e3, rfl⟩ := look_some f2
  split at e3
  · rename_i b1 xs b2 ys l1 l2
    cases e3
    have go : iZipK b1 b2 X.K (tCons t (tCons t2 tNil)) σ H R := by
      refine w F σ H G ρ r1 ρ1 _ g e1 fun v H1 G1 g1 t1 k1 => ?_
      refine w2 F σ H1 G1 ρ1 r2 _ _ g1 e2' fun v2 H2 G2 g2 t2 k2 => ?_
      obtain ⟨a, vs, rfl, hq1, hr1⟩ := looki_ok g2 (k1.mono t2.sg) l1
      obtain ⟨b, vs2, rfl, hq2, hr2⟩ := looki_ok g2 k2 l2
      refine ⟨a, b, vs, vs2, rfl, (sqk_of hq1).same g2.same, (sqk_of hq2).same g2.same, ?_⟩
      have hn : (zip2 xs ys).length = min vs.length vs2.length := by
        rw [List.length_map, List.length_zip, hr1.length, hr2.length]
      refine k _ H2 G2 _ _ g2 (t1.trans t2) (walk_zipK hn) (fun H' s => ⟨(sqk_of hq1).same s, (sqk_of hq2).same s⟩) fun i x H3 H4 hi s y => ?_
      obtain ⟨T, u1, u2, rfl, n, rfl, a1, a2⟩ := y
      have hi' : i < xs.length ∧ i < ys.length := by
        rw [hn, hr1.length, hr2.length] at hi; omega
      have d1 : xs[i]? = some xs[i] := List.getElem?_eq_getElem hi'.1
      have d2 : ys[i]? = some ys[i] := List.getElem?_eq_getElem hi'.2
      obtain ⟨w1, c1, c2⟩ := hr1.get d1
      obtain ⟨w3, c3, c4⟩ := hr2.get d2
      cases c1.symm.trans (show vs[i]? = some u1 from a1)
      cases c3.symm.trans (show vs2[i]? = some u2 from a2)
      refine ⟨.tuple [xs[i], ys[i]], ?_, .inr ⟨T, _, _, rfl, n, rfl, rfl, .cons c2 (.cons c4 .nil)⟩⟩
      rw [List.getElem?_map, List.getElem?_eq_getElem (by rw [List.length_zip]; omega), List.getElem_zip]; rfl
    cases b1 <;> cases b2
    · exact .inl (.inl go)
    · exact .inl (.inr go)
    · exact .inr (.inl go)
    · exact .inr (.inr go)
  · cases e3
theorem im_enum (h1 : CM X e fr) (hm : X.mg "enumerate" = none) (hg : Gl X "enumerate" := by rfl) (hs : starEach [e] X.env = [(false, eval e X.env)] := by rfl) (hs2 : starEach [e] X.env = (false, eval e X.env) :: starEach [] X.env := by rfl) :
    IM X (.Tuple elts kk tpos) (.Call (.Name "enumerate" p) [e] [] pos) (bindM fr fun r1 => lookM fun ρ => (looki r1 ρ).map fun q => enum2 q.2) := by
  obtain ⟨t, q, w⟩ := h1.ex
  have pa := pa_cons q pa_nil hs2
  refine ⟨_, PI.or (pi_enumK false hg hm pa hs) (pi_enumK true hg hm pa hs), fun F σ H G ρ ds ρ' R g hf k => ?_⟩
  obtain ⟨r1, ρ1, e1, f1⟩ := bind_some hf
  obtain ⟨e3, rfl⟩ := look_some f1
  obtain ⟨⟨b1, xs⟩, l1, e4⟩ := Option.map_eq_some_iff.mp e3
  cases e4
  have go : iEnumK b1 X.K (tCons t tNil) σ H R := by
    refine w F σ H G ρ r1 _ _ g e1 fun v H1 G1 g1 t1 k1 => ?_
    obtain ⟨a, vs, rfl, hq1, hr1⟩ := looki_ok g1 k1 l1
    refine ⟨a, vs, rfl, (sqk_of hq1).same g1.same, ?_⟩
    have hn : (enum2 xs).length = vs.length := by
      rw [List.length_map, List.length_zip, List.length_range, Nat.min_self, hr1.length]
    have hw := walk_enumK (K := X.K) (k1 := b1) (a := a) (xs := vs)
    rw [← hn] at hw
    refine k _ H1 G1 _ _ g1 t1 hw (fun H' s => (sqk_of hq1).same s) fun i x H3 H4 hi s y => ?_
    obtain ⟨T, u1, u2, rfl, n, rfl, a1, a2⟩ := y
    cases a1
    have hi' : i < xs.length := by rw [hn, hr1.length] at hi; exact hi
    have d1 : xs[i]? = some xs[i] := List.getElem?_eq_getElem hi'
    obtain ⟨w1, c1, c2⟩ := hr1.get d1
    cases c1.symm.trans (show vs[i]? = some u2 from a2)
    refine ⟨.tuple [.int (i : Nat), xs[i]], ?_, .inr ⟨T, _, _, rfl, n, rfl, rfl, .cons (.int _) (.cons c2 .nil)⟩⟩
    show (enum2 xs)[i]? = _
    rw [List.getElem?_map, List.getElem?_eq_getElem (by rw [List.length_zip, List.length_range]; omega), List.getElem_zip]; simp
  cases b1
  · exact .inl go
  · exact .inr go
end
end PD
end
/-! PD12: backwards; more that makes lists. -/
noncomputable section
namespace PD
open PySem PySem.Spec PyProof.Rows L2
section
variable {prog : Program} {w : World} {A : Around} {E : Value → Shared → Prop} {s : Shared}
theorem rev_pick (xs : Array Value) : ((List.range xs.size).filterMap fun (m : Nat) => xs[((((xs.size : Nat) : Int) - 1) + (m : Int) * (-1)).toNat]?).toArray = xs.toList.reverse.toArray := by
  have key : ∀ l : List Nat, (∀ m ∈ l, m < xs.size) → l.filterMap (fun (m : Nat) => xs[((((xs.size : Nat) : Int) - 1) + (m : Int) * (-1)).toNat]?) = l.map fun m => xs.toList.reverse.getD m .none := by
    intro l
    induction l with
    | nil => intro _; rfl
    | cons m l ih =>
      intro hl
      have hlt := hl m List.mem_cons_self
      have e : ((((xs.size : Nat) : Int) - 1) + (m : Int) * (-1)).toNat = xs.size - 1 - m := by omega
      have h2 : xs.size - 1 - m < xs.size := by omega
      have e2 : xs[((((xs.size : Nat) : Int) - 1) + (m : Int) * (-1)).toNat]? = some (xs.toList.reverse.getD m .none) := by
        rw [e, Array.getElem?_eq_getElem h2]
        simp [List.getD, List.getElem?_reverse, hlt, h2]
      simp only [List.filterMap_cons, e2, List.map_cons]
      rw [ih fun k hk => hl k (List.mem_cons_of_mem _ hk)]
  rw [key _ fun m hm => List.mem_range.mp hm]
  congr 1
  apply List.ext_getElem?
  intro i
  by_cases h : i < xs.size
  · rw [List.getElem?_map, List.getElem?_range h]
    have h2 : i < xs.toList.reverse.length := by simpa using h
    rw [List.getElem?_eq_getElem h2]
    simp [List.getD, h]
  · rw [List.getElem?_eq_none (by simpa using h), List.getElem?_eq_none (by simpa using h)]
theorem applied_rev {sl : Addr} {t : Tok} {n : Nat} {Q : Int × Int × Nat → Shared → Prop} (hs : s.heap.IsSliceOf sl .none .none (.int (-1) t)) (h : Q (((n : Nat) : Int) - 1, -1, n) s) : wpAny (model prog w) A (Builtin.Slice.sliceApplied (.ref sl) (pure (n : Int))) Q E s := by
  obtain ⟨os, hos, hcs, hds⟩ := id hs
  unfold Builtin.Slice.sliceApplied Builtin.Slice.sliceFields
  refine wpAny_bind (wpAny_bind (wpAny_field hos hds (x := .none) rfl (wpAny_bind (wpAny_field hos hds (x := .none) rfl (wpAny_bind (wpAny_field hos hds (x := .int (-1) t) rfl (wpAny_pure ?_)))))))
  refine wpAny_bind (HT.slicePart_ (.int (-1) t) ?_)
  show wpAny _ _ (if ((-1 : Int) == 0) = true then _ else _) _ _ s
  rw [if_neg (by decide)]
  refine wpAny_bind (HT.slicePart_ .none (wpAny_bind (HT.slicePart_ .none (wpAny_bind (wpAny_pure ?_)))))
  have e1 : Builtin.Slice.sliceAdjust none none (-1) (n : Int) = ((n : Int) - 1, -1) := by
    unfold Builtin.Slice.sliceAdjust
    simp
  have e2 : Builtin.Slice.slicePlaces ((n : Int) - 1) (-1) (-1) = n := by
    unfold Builtin.Slice.slicePlaces
    simp
    split <;> omega
  show wpAny _ _ (match Builtin.Slice.sliceAdjust none none (-1) (n : Int) with | (lo, hi) => pure (lo, (-1 : Int), Builtin.Slice.slicePlaces lo hi (-1))) _ _ s
  rw [e1]
  show wpAny _ _ (pure ((n : Int) - 1, (-1 : Int), Builtin.Slice.slicePlaces ((n : Int) - 1) (-1) (-1))) _ _ s
  rw [e2]
  exact wpAny_pure h
theorem item_rev {tp sl : Addr} {items : Array Value} {t : Tok} {Q : Value → Shared → Prop} (ht : IsTup s.heap tp items) (hs : s.heap.IsSliceOf sl .none .none (.int (-1) t))
    (h : Q (.ref s.heap.objs.size) { s with heap := s.heap.push { cls := .type "tuple", data := .seq items.toList.reverse.toArray } }) (hsz : items.size ≤ sizeLine) : wpAny (model prog w) A (getItem (.ref tp) (.ref sl)) Q E s := by
  have htake : sizeOk (.seq items.toList.reverse.toArray) := by
    show items.toList.reverse.toArray.size ≤ sizeLine
    simpa using hsz
  obtain ⟨os, hos, hcs, hds⟩ := id hs
  have hTs : s.TypeIs (.ref sl) "slice" := ⟨os, hos, hcs⟩
  unfold getItem
  try with_reducible refine wpAny_holding ?_
  first | refine wpAny_bind (wpAny_pure ?_) | skip
  refine wpAny_bind (wpAny_sequenceKey ht.typeIs (by decide) ?_)
  refine wpAny_bind (wpAny_callSpecial?_slot (name := Str.ofString "__getitem__") ht.typeIs PyProof.Rows.slot_tuple_getitem (wpAny_call_entry PyProof.Rows.slot_tuple_getitem ht.typeIs PyProof.Rows.entry_tuple_getitem ?_ (PyProof.Rows.args_tuple_getitem _ _)))
  show wpAny _ _ (Builtin.Tuple.tupleItemsOf (.ref tp) >>= _) _ _ s
  refine wpAny_bind (PyProof.Rows.tupleItemsOf_ ht ?_)
  refine wpAny_bind (wpAny_typeOf hTs ?_)
  rw [if_pos (by decide)]
  refine wpAny_bind (applied_rev hs ?_)
  have hno : ¬ ((((items.size : Nat) : Int) - 1 == 0 && (-1 : Int) == 1 && items.size == items.size) = true) := by
    intro q
    rw [Bool.and_eq_true, Bool.and_eq_true] at q
    exact absurd q.1.2 (by decide)
  show wpAny _ _ (if (((items.size : Nat) : Int) - 1 == 0 && (-1 : Int) == 1 && items.size == items.size) = true then _ else _) _ _ s
  rw [if_neg hno, rev_pick]
  first
    | exact wpAny_bind (m := Builtin.Tuple.tupleExact _) (wpAny_newObj_type (wpAny_pure ⟨_, rfl, wpAny_pure h⟩) htake)
    | exact wpAny_bind (m := Builtin.Tuple.tupleExact _) (wpAny_newObj_type (wpAny_bind (wpAny_pure (wpAny_pure ⟨_, rfl, wpAny_pure h⟩))) htake)
    | exact wpAny_bind (wpAny_bind (m := Builtin.Tuple.tupleExact _) (wpAny_newObj_type (wpAny_pure (wpAny_pure ⟨_, rfl, wpAny_pure h⟩)) htake))
    | exact wpAny_bind (wpAny_bind (m := Builtin.Tuple.tupleExact _) (wpAny_newObj_type (wpAny_pure ⟨_, rfl, wpAny_pure h⟩) htake))
end
section
variable {X : Cx} {pos p : Pos} {e a b : Expr} {fr : M Rf} {fa fb : M D}
/-- x[::-1] of a list, of a tuple -/
def tRevA (K : PySem.W.Frag) (te : TE) : TE := fun σ H Q => te σ H fun x H1 => ∃ a xs, x = .ref a ∧ ((SqL K H1 a xs ∧ ∀ p, H1 p = none → Q (.ref p) (upd H1 p (.lst xs.reverse))) ∨ (SqT K H1 a xs ∧ ∀ p, H1 p = none → Q (.ref p) (upd H1 p (.tup xs.reverse))))
theorem pe_revAll {te : TE} {k : Nat} {p1 p2 p3 : Pos} (he : PE X e te) : PE X (.Subscript e (.Slice none none (some (.UnaryOp .USub (.Constant (.int 1) k p1) p2)) p3) pos) (tRevA X.K te) := by
  have hL : ∀ (pins : List (Addr × Obj)) (s : Shared) (σ : St) (H : Hp) (Q : VK), Inv X pins σ H s → tRevA X.K te σ H Q → wpAny (model X.prog X.w) X.A (eval (.Subscript e (.Slice none none (some (.UnaryOp .USub (.Constant (.int 1) k p1) p2)) p3) pos) X.env) (EP X pins σ Q) X.xe s := fun pins s σ H Q I h => by
    refine Subscript_ (thn (he.run pins s σ H _ I h) fun v s1 hq => ?_)
    obtain ⟨x, H1, I1, r1, a, xs, rfl, q1⟩ := hq
    cases r1
    have hst : PO X (some (.UnaryOp .USub (.Constant (.int 1) k p1) p2)) (tPart (tUn (rU fun i => .int (-i)) (tC (.int 1)))) := po_some (pe_un un_neg pe_int)
    refine wpAny_Slice (thn (po_none.run pins s1 σ H1 (fun o H2 => o = none ∧ H2 = H1) I1 ⟨rfl, rfl⟩) fun vl s2 hq2 => ?_)
    obtain ⟨l, H2, I2, pl, rfl, rfl⟩ := hq2
    refine thn (po_none.run pins s2 σ _ (fun o H3 => o = none ∧ H3 = _) I2 ⟨rfl, rfl⟩) fun vu s3 hq3 => ?_
    obtain ⟨u, H3, I3, pu, rfl, rfl⟩ := hq3
    refine thn (hst.run pins s3 σ _ (fun o H4 => o = some (-1) ∧ H4 = _) I3 ⟨1, rfl, -1, rfl, rfl, rfl⟩) fun vs s4 hq4 => ?_
    obtain ⟨o, H4, I4, ps, rfl, rfl⟩ := hq4
    have I5 : Inv X pins σ _ { s4 with heap := s4.heap.push { cls := .type "slice", data := .fields #[vl, vu, vs] } } := I4.kept (t' := s4.toks) fun b ob q => Heap.get?_push_of_some _ q
    show wpAny (model X.prog X.w) X.A (subscriptTail e (.Slice none none (some (.UnaryOp .USub (.Constant (.int 1) k p1) p2)) p3) (.ref a) (.ref s4.heap.objs.size)) (EP X pins σ Q) X.xe _
    rcases q1 with ⟨hx, q⟩ | ⟨hx, q⟩
    · obtain ⟨its, r, ht, hz⟩ := I5.list hx
      have hlen := r.length
      refine tail_any (ops := [.ref a, .ref s4.heap.objs.size]) ht.isList.typeIs (PySem.slot_list_getitem.lookup) ?_ (by with_unfolding_all rfl)
      refine wpAny_getItem_list_slice ht.isList (Heap.IsSliceOf.new _ vl vu vs) pl pu ps (by decide) ?_ (by rw [List.size_toArray]; omega)
      rw [PySem.W.krv_pick]
      exact ⟨.ref _, _, I5.laid (t' := s4.toks) (o := .lst xs.reverse) (fun b ob q => Heap.get?_push_of_some _ q) (Nat.le_refl _) ⟨by rw [List.length_reverse]; exact hz, _, 0, r.reverse, Heap.get?_push_size _ rfl⟩, rfl, q _ (I5.hok.fresh (Nat.le_refl _))⟩
    · obtain ⟨its, r, ht, hz⟩ := I5.tuple hx
      have hlen := r.length
      cases pl
      cases pu
      cases ps
      refine tail_any (ops := [.ref a, .ref s4.heap.objs.size]) ht.typeIs (PyProof.Rows.slot_tuple_getitem.lookup) ?_ (by with_unfolding_all rfl)
      refine item_rev ht (Heap.IsSliceOf.new _ _ _ _) ?_ (by rw [List.size_toArray]; omega)
      exact ⟨.ref _, _, I5.laid (t' := s4.toks) (o := .tup xs.reverse) (fun b ob q => Heap.get?_push_of_some _ q) (Nat.le_refl _) ⟨by rw [List.length_reverse]; exact hz, _, r.reverse, _, Heap.get?_push_size _ rfl, rfl, _, rfl⟩, rfl, q _ (I5.hok.fresh (Nat.le_refl _))⟩
  exact ⟨hL⟩
abbrev revD (r : Rf) : List Sl → Option D := fun ρ => match look r ρ with
  | some (true, ds) => some (.tuple ds.reverse)
  | some (false, ds) => some (.list ds.reverse)
  | none => none
theorem em_rev {k : Nat} {p1 p2 p3 : Pos} (ha : CM X a fr) : EM X (.Subscript a (.Slice none none (some (.UnaryOp .USub (.Constant (.int 1) k p1) p2)) p3) pos) (bindM fr fun r => lookM (revD r)) := by
  obtain ⟨t, p, w⟩ := ha.ex
  refine ⟨_, pe_revAll p, fun F σ H G ρ d ρ' Q g hf q => ?_⟩
  obtain ⟨r, ρ1, e1, f1⟩ := bind_some hf
  obtain ⟨e2, rfl⟩ := look_some f1
  refine w F σ H G ρ r _ _ g e1 fun v H1 G1 g1 s1 r1 => ?_
  simp only [revD] at e2
  split at e2
  · rename_i ds e3
    cases e2
    obtain ⟨l, xs, rfl, hq, hr⟩ := look_ok g1 r1 e3
    refine ⟨l, xs, rfl, .inr ⟨same_seqT g1.same hq, fun p np => ?_⟩⟩
    obtain ⟨g4, s4⟩ := g1.new (o := .tup _) np
    exact q _ _ _ g4 (s1.trans s4) (.tup (SqT.of upd_same) (hr.mono s4.sg).reverse)
  · rename_i ds e3
    cases e2
    obtain ⟨l, xs, rfl, hq, hr⟩ := look_ok g1 r1 e3
    refine ⟨l, xs, rfl, .inl ⟨hq, fun p np => ?_⟩⟩
    obtain ⟨g4, s4⟩ := g1.new (o := .lst _) np
    exact q _ _ _ g4 (s1.trans s4) (.lst upd_same (hr.mono s4.sg).reverse)
  · cases e2
/-- a new list, from an operator -/
abbrev catO : D → D → Option (List D)
  | .list xs, .list ys => if xs.length + ys.length ≤ 16000000 then some (xs ++ ys) else none
  | _, _ => none
abbrev repO : D → D → Option (List D)
  | .list xs, .int k => if xs.length * k.toNat ≤ 16000000 ∧ k < 1000000000 ∧ -1000000000 < k then some (List.replicate k.toNat xs).flatten else none
  | _, _ => none
def bin2o (g : D → D → Option (List D)) (fa fb : M D) : M (List D) := bindM fa fun a => bindM fb fun b => optM (g a b)
theorem eo_cat (ha : EM X a fa) (hb : EM X b fb) : EO X (.BinOp a .Add b pos) (bin2o catO fa fb) := by
  obtain ⟨t, pa, wa⟩ := ha.ex
  obtain ⟨t2, pb, wb⟩ := hb.ex
  refine ⟨_, pe_op op_cat pa pb, fun F σ H G ρ d ρ' Q g hf q => ?_⟩
  obtain ⟨x, ρ1, e1, f1⟩ := bind_some hf
  obtain ⟨y, ρ2, e2, f2⟩ := bind_some f1
  obtain ⟨e3, rfl⟩ := opt_some f2
  refine wa F σ H G ρ x ρ1 _ g e1 fun v H1 G1 g1 s1 r1 => ?_
  refine wb F σ H1 G1 ρ1 y _ _ g1 e2 fun u H2 G2 g2 s2 r2 => ?_
  have r1' := r1.mono s2.sg
  unfold catO at e3
  split at e3
  · split at e3
    · rename_i hz
      cases e3
      cases r1' with
      | lst h1 h2 =>
        cases r2 with
        | lst k1 k2 =>
          refine ⟨_, _, _, _, rfl, rfl, g2.same _ _ h1, g2.same _ _ k1, by rw [h2.length, k2.length]; exact line16 hz, fun p np => ?_⟩
          obtain ⟨g3, s3⟩ := g2.newO (o := .lst _) np
          obtain ⟨z1, z2, z3⟩ := g2.fresh np
          exact q p _ _ G2 g3 ((s1.trans s2).trans s3) ((s1.trans s2).back np) z2 upd_same (h2.append k2) z3
    · cases e3
  · cases e3
theorem eo_rep (ha : EM X a fa) (hb : EM X b fb) : EO X (.BinOp a .Mult b pos) (bin2o repO fa fb) := by
  obtain ⟨t, pa, wa⟩ := ha.ex
  obtain ⟨t2, pb, wb⟩ := hb.ex
  refine ⟨_, pe_op op_rep pa pb, fun F σ H G ρ d ρ' Q g hf q => ?_⟩
  obtain ⟨x, ρ1, e1, f1⟩ := bind_some hf
  obtain ⟨y, ρ2, e2, f2⟩ := bind_some f1
  obtain ⟨e3, rfl⟩ := opt_some f2
  refine wa F σ H G ρ x ρ1 _ g e1 fun v H1 G1 g1 s1 r1 => ?_
  refine wb F σ H1 G1 ρ1 y _ _ g1 e2 fun u H2 G2 g2 s2 r2 => ?_
  have r1' := r1.mono s2.sg
  unfold repO at e3
  split at e3
  · split at e3
    · rename_i hz
      cases e3
      cases r2
      cases r1' with
      | lst h1 h2 =>
        refine ⟨_, _, _, rfl, rfl, g2.same _ _ h1, by omega, by omega, by rw [h2.length]; exact line16 hz.1, fun p np => ?_⟩
        obtain ⟨g3, s3⟩ := g2.newO (o := .lst _) np
        obtain ⟨z1, z2, z3⟩ := g2.fresh np
        exact q p _ _ G2 g3 ((s1.trans s2).trans s3) ((s1.trans s2).back np) z2 upd_same (h2.rep _) z3
    · cases e3
  · cases e3
/-- the items of a sequence that is told by CM, cut into a new list -/
abbrev cutO (r : Rf) (lo hi : Option Int) : List Sl → Option (List D) := fun ρ => match look r ρ with
  | some (false, ds) => some (cutD ds lo hi)
  | _ => none
end
/-- the def that is not walked: nothing is claimed of it -/
theorem ok_none {P : Program} {w : World} {K : PySem.W.Frag} {mg : Str → Option Value} {base : Heap} {f : Addr} {fd : FuncData} {ps : List Str} (n : Nat) : FnOk P w K mg base CX0 0 f fd ps (spD K n fun _ => none) :=
  ⟨fun vs H Q E ⟨_, _, _, _, _, _, h, _⟩ => (nomatch h), fun A outer s H args us vs Q E hr e hb hv ⟨_, _, _, _, _, _, h, _⟩ => (nomatch h)⟩
/-! ### the law -/
def spLaw (K : PySem.W.Frag) : Sp := fun vs H Q _ => ∃ (a : Addr) (ns : List Int), vs = [.ref a] ∧ SqL K H a (ns.map V.int) ∧ ns.length ≤ 63 ∧ ∀ H', Q (.bl true) H'
theorem ok_law {P : Program} {w : World} {K : PySem.W.Frag} {mg : Str → Option Value} {base : Heap} {x qual : Str} {params : Arguments} {body : List Stmt} {scope : Scope} {f : Addr} {fd : FuncData} {N : List Str} {k : Nat} {u : M Out} {y : Str} (F : FunD K x qual params body scope [] [] f fd) (S : FnScope N [y] scope)
    (hb : ∀ (cdv : Value) (A : Around) (outer : List Env) (s : Shared) (H : Hp) (E : XK), Room k (A.deeper (envOfC qual scope s.heap.objs.size f cdv)) → SsM (cxOf CX0 P w K mg base N qual scope f cdv A outer s H E).nox body u)
    (hu : ∀ ns : List Int, ns.length ≤ 63 → ∃ ρ', u (slots N [.rd (ns.map .int)]) = some (.ret (.bool true), ρ')) : FnOk P w K mg base CX0 (k + 1) f fd [y] (spLaw K) := by
  refine F.ok S (fun vs H Q E ⟨a, ns, e, _⟩ => by rw [e]; rfl) fun cdv A outer s H vs Q E hr ⟨a, ns, ev, hq, hl, q⟩ => ?_
  subst ev
  obtain ⟨t, p, w⟩ := (hb cdv A outer s H E hr).ex
  obtain ⟨ρ', e⟩ := hu ns hl
  refine ⟨t, p.nox, ?_⟩
  have g0 : Good K ⟨H, H, none⟩ (slots N [.rd (ns.map .int)]) (L2.start N [.ref a]) H H := by
    have key : ∀ (i : Nat) (t : Sl) (v : Option V), (slots N [.rd (ns.map .int)])[i]? = some t → (L2.start N [V.ref a])[i]? = some v → t = .no ∨ (t = .rd (ns.map .int) ∧ v = some (.ref a)) := fun i t v e1 e2 => by
      rcases get_slots e1 with h | h
      · cases i with
        | zero => cases h; rw [get_start (vs := [V.ref a]) (i := 0) rfl] at e2; cases e2; exact .inr ⟨rfl, rfl⟩
        | succ i => simp at h
      · exact .inl h
    refine ⟨Same.refl H, Same.refl H, fun a o e _ => e, fun a o _ n => n, fun p e => (nomatch e), ?_, fun i t v e1 e2 => ?_, fun i j t t' v v' p e1 e2 e3 e4 o1 o2 => ?_⟩
    · unfold slots L2.start; simp
    · rcases key i t v e1 e2 with rfl | ⟨rfl, rfl⟩
      · trivial
      · exact ⟨a, _, rfl, hq, reps_ints ns⟩
    · rcases key i t v e1 e2 with rfl | ⟨rfl, rfl⟩
      · exact o1.elim
      · exact o1.elim
  exact w ⟨H, H, none⟩ _ H H _ _ ρ' _ g0 e fun v σ' H' G' g' _ r' => by
    cases r'
    exact q H'
/-- a call by a read list to a new list -/
theorem eo_callR {X : Cx} {e : Expr} {y : Str} {pos : Pos} {f : List D → Option (List D)} (i : Nat) (hp : PE X e (tCall (spR X.K f) [] E0 (tCons (tVar i) tNil))) : EO X e (fun ρ => match ρ[i]? with
    | some (.rd xs) => (f xs).map fun ys => (ys, ρ)
    | _ => none) := by
  refine ⟨_, hp, fun F σ H G ρ d ρ' Q g hf q => ?_⟩
  split at hf
  · rename_i xs hr
    obtain ⟨ys, e1, e2⟩ := Option.map_eq_some_iff.mp hf
    cases e2
    obtain ⟨v, hv, ok⟩ := slot_at g hr
    obtain ⟨a, vs, rfl, h1, h2⟩ := ok
    refine ⟨_, hv, G, a, vs, xs, _, rfl, g.same, h1, h2, e1, fun p xs H' G' sh sg gh nf hn hgp hp r => ?_⟩
    exact q p xs H' G' (g.grow sh sg gh nf) (Tr.of_same sh sg nf) hn hgp hp r (g.fresh hn).2.2
  · cases hf
end PD
end
/-! PD13: short names for the readings; more stores. -/
noncomputable section
namespace PD
open PySem PySem.Spec PyProof.Rows L2
abbrev kI (n : Int) : M D := retM (.int n)
abbrev kB (b : Bool) : M D := retM (.bool b)
abbrev kN : M D := retM .none
abbrev kS (s : Str) : M D := retM (.str s)
abbrev ltD : D → D → Option D := cmpI fun i j => decide (i < j)
abbrev leD : D → D → Option D := cmpI fun i j => decide (i ≤ j)
abbrev gtD : D → D → Option D := cmpI fun i j => decide (j < i)
abbrev geD : D → D → Option D := cmpI fun i j => decide (j ≤ i)
abbrev notV (fa : M D) : M D := bindM (boolM fa) fun k => retM (.bool (!k))
abbrev tupM (fs : M (List D)) : M D := bindM fs fun ds => retM (.tuple ds)
abbrev lstM (f : M (List D)) : M D := bindM f fun ds => retM (.list ds)
abbrev cmD (f : M D) : M Rf := bindM f fun d => retM (.d d)
abbrev cmO (i : Nat) : M Rf := fun ρ => match look (.s i) ρ with
  | some _ => some (.s i, ρ)
  | none => none
abbrev ixM (fr : M Rf) (fb : M D) : M D := bindM fr fun r => bindM fb fun i => lookM (ixD r i)
abbrev sliceM (fr : M Rf) (fl fh : M (Option Int)) : M D := bindM fr fun r => bindM fl fun l => bindM fh fun h => lookM (sliceD r l h)
abbrev omN : M (Option Int) := retM none
abbrev omS (fa : M D) : M (Option Int) := bindM (intM fa) fun i => retM (some i)
abbrev revM (fr : M Rf) : M D := bindM fr fun r => lookM (revD r)
abbrev lenM (fr : M Rf) : M D := contM (fun _ ds => some (.int ds.length)) fr
abbrev tupOfM (fr : M Rf) : M D := contM (fun _ ds => some (.tuple ds)) fr
abbrev sumM (fr : M Rf) : M D := contM (listG fun ds => (intsO ds).map fun ns => .int ns.sum) fr
abbrev allM (fr : M Rf) : M D := contM (listG fun ds => (boolsO ds).map fun ns => .bool (ns.all fun b => b)) fr
abbrev anyM (fr : M Rf) : M D := contM (listG fun ds => (boolsO ds).map fun ns => .bool (ns.any fun b => b)) fr
abbrev listO (fr : M Rf) : M (List D) := contM (fun _ ds => some ds) fr
abbrev sortO (fr : M Rf) : M (List D) := contM (fun k ds => if k = true then none else (intsO ds).map fun ns => (sortI ns).map .int) fr
abbrev callM (g : List D → Option D) (fs : M (List D)) : M D := bindM fs fun ds => optM (g ds)
abbrev callOM (g : List D → Option (List D)) (fs : M (List D)) : M (List D) := bindM fs fun ds => optM (g ds)
abbrev callPM (i : Nat) (g : List D → List D → Option (D × List D)) (fs : M (List D)) : M D := bindM (guardM (ownB i)) fun _ => bindM fs fun ds => callP i g ds
abbrev callKM (g : List D → Option D) (idx : List Nat) (fs fk : M (List D)) : M D := bindM fs fun as => bindM fk fun bs => optM (g (pick idx as bs))
abbrev callRM (i : Nat) (f : List D → Option (List D)) : M (List D) := fun ρ => match ρ[i]? with
  | some (.rd xs) => (f xs).map fun ys => (ys, ρ)
  | _ => none
abbrev maxG : List D → Option D := int2G fun i j => if j > i then j else i
abbrev minG : List D → Option D := int2G fun i j => if j < i then j else i
abbrev isinM (T : Ty) (fa : M D) : M D := bindM fa fun d => retM (.bool (T.has d))
abbrev isin2M (T T2 : Ty) (fa : M D) : M D := bindM fa fun d => retM (.bool (T.has d || T2.has d))
abbrev evD (f : M D) : M Sl := bindM f fun d => retM (.d d)
abbrev evO (f : M (List D)) : M Sl := bindM f fun d => retM (.ol d)
abbrev exprS (f : M D) : M Out := bindM f fun _ => nxM
abbrev retS (f : M D) : M Out := bindM f fun d => retM (.ret d)
abbrev retoS (f : M (List D)) : M Out := bindM f fun d => retM (.ro d)
abbrev retfzS (i : Nat) : M Out := bindM (lookM (olAt i)) fun ds => fun ρ => some (.ret (.list ds), ρ.set i (.d (.list ds)))
abbrev retownS (i : Nat) : M Out := bindM (lookM (olAt i)) fun ds => retM (.ro ds)
abbrev neverS : M Out := fun _ => none
abbrev itM (fr : M Rf) : M (List D) := bindM fr fun r => lookM fun ρ => (looki r ρ).map (·.2)
abbrev rngM (fi : M (List D)) : M (List D) := bindM fi fun ds => optM (rangeG ds)
abbrev zipM (fr fq : M Rf) : M (List D) := bindM fr fun r1 => bindM fq fun r2 => lookM fun ρ => match looki r1 ρ, looki r2 ρ with
  | some (_, xs), some (_, ys) => some (zip2 xs ys)
  | _, _ => none
abbrev enumM (fr : M Rf) : M (List D) := bindM fr fun r1 => lookM fun ρ => (looki r1 ρ).map fun q => enum2 q.2
abbrev gN (i : Nat) : D → List Sl → Option (List Sl) := fun d ρ => some (ρ.set i (.d d))
abbrev g0 : List D → List Sl → Option (List Sl) := fun ds ρ => match ds with
  | [] => some ρ
  | _ => none
abbrev iaddD : D → D → Option D := fun a b => match a, b with
  | .int i, .int j => some (.int (i + j))
  | _, _ => none
abbrev isubD : D → D → Option D := fun a b => match a, b with
  | .int i, .int j => some (.int (i - j))
  | _, _ => none
abbrev nilM : M (List D) := retM []
section
variable {X : Cx} {pos p : Pos} {e a b c : Expr} {st : Stmt} {kws : List Keyword} {fk : M (List D)} {n : Nat} {fv fw fx : M Sl}
theorem em_callK0 {fn : List D → Option D} {q : Nat} {idx : List Nat} (hp : ∀ tk, PK X kws tk → PE X e (tCallN 0 q (spD X.K n fn) (pick idx) E0 tNil tk)) (hk : KM X kws fk) (h2 : kws.length = q := by rfl)
    (h3 : ∀ (bs : List D), bs.length = q → (pick idx [] bs).length = n) : EM X e (callKM fn idx nilM fk) := by
  obtain ⟨t2, p2, w2⟩ := hk.ex
  refine ⟨_, hp t2 p2, fun F σ H G ρ d ρ' Q g0 hf q => ?_⟩
  obtain ⟨as, ρ1, e1, f1⟩ := bind_some hf
  cases e1
  obtain ⟨bs, ρ2, e2, f2⟩ := bind_some f1
  obtain ⟨e3, rfl⟩ := opt_some f2
  refine w2 F σ H G ρ bs _ _ g0 e2 fun zs H2 G2 g2 s2 r2 => ?_
  have l2 : bs.length = _ := (hk.len _ _ _ e2).trans h2
  refine ⟨rfl, by rw [r2.length, l2], ?_⟩
  exact ⟨G2, _, d, g2.same, h3 bs l2, reps_pick idx .nil r2, e3, fun v H' G' sh sg gh nf r => q v H' G' (g2.grow sh sg gh nf) (s2.trans (Tr.of_same sh sg nf)) r⟩
/-- a, b, c = e1, e2, e3 by plain names: data -/
def par3S (i j l : Nat) (fa fb fc : M D) : M Out := bindM fa fun x => bindM fb fun y => bindM fc fun z => fun ρ => some (.nx, ((ρ.set i (.d x)).set j (.d y)).set l (.d z))
theorem sm_par3 {fa fb fc : M D} (i j l : Nat) (hp : ∀ t, PA X [a, b, c] t → PS X st (tPar3 i j l t)) (ha : EM X a fa) (hb : EM X b fb) (hc : EM X c fc) (h1 : starEach [a, b, c] X.env = (false, eval a X.env) :: starEach [b, c] X.env := by rfl) (h2 : starEach [b, c] X.env = (false, eval b X.env) :: starEach [c] X.env := by rfl) (h3 : starEach [c] X.env = (false, eval c X.env) :: starEach [] X.env := by rfl) : SM X st (par3S i j l fa fb fc) := by
  obtain ⟨t, p, k⟩ := ha.ex
  obtain ⟨t2, p2, k2⟩ := hb.ex
  obtain ⟨t3, p3, k3⟩ := hc.ex
  refine ⟨_, hp _ (pa_cons p (pa_cons p2 (pa_cons p3 pa_nil h3) h2) h1), fun F σ H G ρ o ρ' E g hf q => ?_⟩
  obtain ⟨x, ρ1, e1, f1⟩ := bind_some hf
  obtain ⟨y, ρ2, e2, f2⟩ := bind_some f1
  obtain ⟨z, ρ3, e3, f3⟩ := bind_some f2
  cases f3
  refine k F σ H G ρ x _ _ g e1 fun v H1 G1 g1 t1 n1 => ?_
  refine k2 F σ H1 G1 ρ1 y _ _ g1 e2 fun v2 H2 G2 g2 t2 n2 => ?_
  refine k3 F σ H2 G2 ρ2 z _ _ g2 e3 fun v3 H3 G3 g3 t3 n3 => ?_
  refine ⟨v, v2, v3, rfl, q _ H3 G3 ?_ ((t1.sg.trans t2.sg).trans t3.sg)⟩
  have fr : ∀ a, H3 a = none → F.H a = none := fun a z => (g3.fresh z).1
  exact ((g3.bind fr (s := .d x) ((n1.mono t2.sg).mono t3.sg)).bind fr (s := .d y) (n2.mono t3.sg)).bind fr (s := .d z) n3
end
end PD
end
/-! PD14: further rules. -/
noncomputable section
namespace PD
open PySem PySem.Spec PyProof.Rows L2
section
variable {X : Cx} {pos p pos2 p2 : Pos} {e a b c : Expr} {es : List Expr} {st : Stmt} {fa fb : M D} {fs : M (List D)} {n : Nat}
/-! ### list(range(..)) -/
abbrev lrG : Int → Int → Option (List D) := fun i j => if 0 ≤ j ∧ j ≤ 16000000 ∧ 0 ≤ i ∧ i ≤ 16000000 then some (rangeD i j) else none
def lrO (fa : M D) : M (List D) := bindM (intM fa) fun j => optM (lrG 0 j)
theorem rg_reps {K : PySem.W.Frag} {G : Hp} (i j : Int) : Reps K G (rgV i j) (rangeD i j) := by
  unfold rgV rangeD
  generalize List.range (j - i).toNat = l
  induction l with
  | nil => exact .nil
  | cons k l ih => exact .cons (.int _) ih
theorem eo_listRg (ha : EM X a fa) (hm : X.mg "list" = none) (hm2 : X.mg "range" = none) (hg : Gl X "list" := by rfl) (hg2 : Gl X "range" := by rfl) (hc : X.calm = true := by rfl) (h1 : starEach [a] X.env = (false, eval a X.env) :: starEach [] X.env := by rfl)
    (h2 : starEach [.Call (.Name "range" p2) [a] [] pos2] X.env = (false, eval (.Call (.Name "range" p2) [a] [] pos2) X.env) :: starEach [] X.env := by rfl) :
    EO X (.Call (.Name "list" p) [.Call (.Name "range" p2) [a] [] pos2] [] pos) (lrO fa) := by
  obtain ⟨t, pa, w⟩ := ha.ex
  refine ⟨_, pe_listRg hc hg hm (prg_1 hg2 hm2 pa h1) h2, fun F σ H G ρ ds ρ' Q g hf q => ?_⟩
  obtain ⟨j, ρ1, e1, f1⟩ := bind_some hf
  obtain ⟨d, ρ2, e2, f2⟩ := bind_some e1
  obtain ⟨e3, rfl⟩ := opt_some f2
  obtain ⟨e4, rfl⟩ := opt_some f1
  have hd := int_some e3
  subst hd
  simp only [lrG] at e4
  split at e4
  · rename_i hj
    cases e4
    refine w F σ H G ρ _ _ _ g e2 fun v H1 G1 g1 t1 r1 => ?_
    cases r1
    refine ⟨j, rfl, L2.RgOk.of_le (by omega) (by omega) (by omega) (by omega), fun q' nq => ?_⟩
    obtain ⟨g2, t2⟩ := g1.newO (o := .lst (rgV 0 j)) nq
    obtain ⟨k1, k2, k3⟩ := g1.fresh nq
    exact q q' _ _ G1 g2 (t1.trans t2) (t1.back nq) k2 upd_same (rg_reps 0 j) k3
  · cases e4
/-! ### math.gcd -/
abbrev gcdG : List D → Option D := int2G fun i j => ((Nat.gcd i.natAbs j.natAbs : Nat) : Int)
theorem c_gcd : CallD X (.builtin "math.gcd") gcdG := c_int2 cr_gcd
theorem em_callBf {g : List D → Option D} {x : Str} {id : String} (hc : CallD X (.builtin id) g) (hs : AM X (e :: es) fs) (hm : X.mg x = some (.builtin id)) (hg : Gl X x := by rfl) (hdb : (x == ("__debug__" : Str)) = false := by decide)
    (he : starEach (e :: es) X.env = (false, eval e X.env) :: starEach es X.env := by rfl) (hpl : (backTo pos (starEach es X.env)).any (·.1) = false := by rfl) : EM X (.Call (.Name x p) (e :: es) [] pos) (callM g fs) := by
  obtain ⟨r, hr, wr⟩ := hc.ex
  obtain ⟨t, q, w⟩ := hs.ex
  refine ⟨_, pe_callBfun hr hg hm q hdb he hpl, fun F σ H G ρ d ρ' Q g0 hf q => ?_⟩
  obtain ⟨ds, ρ1, e1, f1⟩ := bind_some hf
  obtain ⟨e2, rfl⟩ := opt_some f1
  exact w F σ H G ρ ds _ _ g0 e1 fun vs H1 G1 g1 s1 r1 => wr F _ σ H1 G1 ds vs d Q g1 r1 e2 fun v' H' G' g' s' r' => q v' H' G' g' (s1.trans s') r'
/-! ### names bound by the parts of a tuple, new lists among them -/
def NewVs (K : PySem.W.Frag) (σ : St) (ρ' : List Sl) (H H' G' : Hp) : List V → List Sl → Prop
  | [], [] => True
  | v :: vs, s :: ss => NewV K σ ρ' H H' G' v s ∧ NewVs K σ ρ' H H' G' vs ss ∧ ∀ p, OwnA s (some v) p → ∀ (j : Nat) v' s', vs[j]? = some v' → ss[j]? = some s' → ¬ OwnA s' (some v') p
  | _, _ => False
structure AV (X : Cx) (es : List Expr) (f : M (List Sl)) : Prop where
  ex : ∃ t, PA X es t ∧ ∀ (F : Fr) (σ : St) (H G : Hp) (ρ : List Sl) (ss : List Sl) (ρ' : List Sl) (Q : List V → Hp → Prop), Good X.K F ρ σ H G → f ρ = some (ss, ρ') →
    (∀ vs H' G', Good X.K F ρ' σ H' G' → Tr σ ρ H G ρ' H' G' → NewVs X.K σ ρ' H H' G' vs ss → Q vs H') → t σ H Q
theorem NewV.own {K : PySem.W.Frag} {σ : St} {ρ' : List Sl} {H H' G' : Hp} {v : V} {s : Sl} {p : Addr} (h : NewV K σ ρ' H H' G' v s) (o : OwnA s (some v) p) : v = .ref p ∧ H p = none ∧ ∃ u, H' p = some u := by
  cases s with
  | ol ds => obtain ⟨q, vs, rfl, h1, h2, h3, _⟩ := h; cases (show some (V.ref q) = some (V.ref p) from o); exact ⟨rfl, h1, _, h3⟩
  | dk ds => obtain ⟨q, vs, rfl, h1, h2, h3, _⟩ := h; cases (show some (V.ref q) = some (V.ref p) from o); exact ⟨rfl, h1, _, h3⟩
  | dt ds => obtain ⟨q, vs, rfl, h1, h2, h3, _⟩ := h; cases (show some (V.ref q) = some (V.ref p) from o); exact ⟨rfl, h1, _, h3⟩
  | d x => exact o.elim
  | no => exact o.elim
  | pot _ => exact h.elim
  | rd _ => exact o.elim
theorem NewV.from {K : PySem.W.Frag} {σ : St} {ρ' : List Sl} {H H0 H' G' : Hp} {v : V} {s : Sl} (h : NewV K σ ρ' H H' G' v s) (e : ∀ p, H p = none → H0 p = none) : NewV K σ ρ' H0 H' G' v s := by
  cases s with
  | d x => exact h
  | ol ds => obtain ⟨p, vs, a, h1, b⟩ := h; exact ⟨p, vs, a, e p h1, b⟩
  | dk ds => obtain ⟨p, vs, a, h1, b⟩ := h; exact ⟨p, vs, a, e p h1, b⟩
  | dt ds => obtain ⟨p, vs, a, h1, b⟩ := h; exact ⟨p, vs, a, e p h1, b⟩
  | no => exact h.elim
  | pot _ => exact h.elim
  | rd _ => exact h.elim
theorem NewVs.step {K : PySem.W.Frag} {σ : St} {ρ1 ρ2 : List Sl} {H H1 G1 H2 G2 : Hp} (t : Tr σ ρ1 H1 G1 ρ2 H2 G2) : ∀ {vs : List V} {ss : List Sl}, NewVs K σ ρ1 H H1 G1 vs ss → NewVs K σ ρ2 H H2 G2 vs ss
  | [], [], _ => trivial
  | _ :: _, _ :: _, ⟨a, b, c⟩ => ⟨a.step t, NewVs.step t b, c⟩
  | [], _ :: _, h => h.elim
  | _ :: _, [], h => h.elim
theorem NewVs.from {K : PySem.W.Frag} {σ : St} {ρ' : List Sl} {H H0 H' G' : Hp} (e : ∀ p, H p = none → H0 p = none) : ∀ {vs : List V} {ss : List Sl}, NewVs K σ ρ' H H' G' vs ss → NewVs K σ ρ' H0 H' G' vs ss
  | [], [], _ => trivial
  | _ :: _, _ :: _, ⟨a, b, c⟩ => ⟨a.from e, NewVs.from e b, c⟩
  | [], _ :: _, h => h.elim
  | _ :: _, [], h => h.elim
theorem NewVs.get {K : PySem.W.Frag} {σ : St} {ρ' : List Sl} {H H' G' : Hp} : ∀ {vs : List V} {ss : List Sl} {j : Nat} {v : V} {s : Sl}, NewVs K σ ρ' H H' G' vs ss → vs[j]? = some v → ss[j]? = some s → NewV K σ ρ' H H' G' v s
  | _ :: _, _ :: _, 0, _, _, ⟨a, _, _⟩, e1, e2 => by cases e1; cases e2; exact a
  | _ :: _, _ :: _, j + 1, _, _, ⟨_, b, _⟩, e1, e2 => NewVs.get (j := j) b e1 e2
  | [], [], _, _, _, _, e1, _ => by simp at e1
  | [], _ :: _, _, _, _, h, _, _ => h.elim
  | _ :: _, [], _, _, _, h, _, _ => h.elim
theorem av_nil : AV X [] (retM []) := ⟨_, pa_nil, fun F σ H G ρ ss ρ' Q g hf q => by
  cases hf
  exact q [] H G g Tr.refl trivial⟩
abbrev consV (fv : M Sl) (fs : M (List Sl)) : M (List Sl) := bindM fv fun s => bindM fs fun ss => retM (s :: ss)
theorem av_cons {fv : M Sl} {fs : M (List Sl)} (ha : EV X e fv) (hs : AV X es fs) (hst : starEach (e :: es) X.env = (false, eval e X.env) :: starEach es X.env := by rfl) : AV X (e :: es) (consV fv fs) := by
  obtain ⟨t, p, w⟩ := ha.ex
  obtain ⟨t2, p2, w2⟩ := hs.ex
  refine ⟨_, pa_cons p p2 hst, fun F σ H G ρ ss ρ' Q g hf q => ?_⟩
  obtain ⟨s, ρ1, e1, f1⟩ := bind_some hf
  obtain ⟨ss', ρ2, e2, f2⟩ := bind_some f1
  cases f2
  refine w F σ H G ρ s ρ1 _ g e1 fun v H1 G1 g1 t1 n1 => ?_
  refine w2 F σ H1 G1 ρ1 ss' _ _ g1 e2 fun vs H2 G2 g2 t2 n2 => ?_
  refine q (v :: vs) H2 G2 g2 (t1.trans t2) ⟨n1.step t2, n2.from fun p hp => t1.back hp, fun p o j v' s' e3 e4 o' => ?_⟩
  obtain ⟨_, _, u, hu⟩ := n1.own o
  obtain ⟨_, hn, _⟩ := (n2.get e3 e4).own o'
  rw [hu] at hn; cases hn
/-- names' slots bound one after another -/
abbrev setsS : List Nat → List Sl → List Sl → List Sl
  | i :: is, s :: ss, ρ => setsS is ss (ρ.set i s)
  | _, _, ρ => ρ
theorem good_sets {K : PySem.W.Frag} {F : Fr} {H0 H G : Hp} (h0 : ∀ a, H0 a = none → F.H a = none) : ∀ (is : List Nat) (vs : List V) (ss : List Sl) (ρ : List Sl) (σ : St), is.length = vs.length → Good K F ρ σ H G → NewVs K σ ρ H0 H G vs ss →
    ∃ σ', (∀ (Q : St → Hp → Prop), Q σ' H → (is.foldr (fun i t => gCons (gName i) t) gNil) vs σ H Q) ∧ Good K F (setsS is ss ρ) σ' H G
  | [], [], [], ρ, σ, _, g, _ => ⟨σ, fun Q q => ⟨rfl, q⟩, g⟩
  | i :: is, v :: vs, s :: ss, ρ, σ, hl, g, ⟨a, b, c⟩ => by
    have g1 := g.bind (i := i) h0 a
    have nx : NewVs K (σ.set i (some v)) (ρ.set i s) H0 H G vs ss := by
      have go : ∀ (us : List V) (ts : List Sl), NewVs K σ ρ H0 H G us ts → (∀ p, OwnA s (some v) p → ∀ (j : Nat) v' s', us[j]? = some v' → ts[j]? = some s' → ¬ OwnA s' (some v') p) → NewVs K (σ.set i (some v)) (ρ.set i s) H0 H G us ts := by
        intro us
        induction us with
        | nil => intro ts h _; cases ts <;> first | trivial | exact h.elim
        | cons u us ih =>
          intro ts h hn
          cases ts with
          | nil => exact h.elim
          | cons t ts =>
            obtain ⟨h1, h2, h3⟩ := h
            refine ⟨?_, ih ts h2 fun p o j v' s' e1 e2 => hn p o (j + 1) v' s' e1 e2, h3⟩
            have no : ∀ p, OwnA t (some u) p → ¬ OwnIn ρ σ p → ¬ OwnIn (ρ.set i s) (σ.set i (some v)) p := fun p o hp z => by
              rcases own_set z with z | z
              · exact hp z
              · exact hn p z 0 u t rfl rfl o
            cases t with
            | d x => exact h1
            | ol ds => obtain ⟨p, ws, rfl, m1, m2, m3, m4, m5⟩ := h1; exact ⟨p, ws, rfl, m1, m2, m3, m4, no p rfl m5⟩
            | dk ds => obtain ⟨p, ws, rfl, m1, m2, m3, m4, m5⟩ := h1; exact ⟨p, ws, rfl, m1, m2, m3, m4, no p rfl m5⟩
            | dt ds => obtain ⟨p, ws, rfl, m1, m2, m3, m4, m5⟩ := h1; exact ⟨p, ws, rfl, m1, m2, m3, m4, no p rfl m5⟩
            | no => exact h1.elim
            | pot _ => exact h1.elim
            | rd _ => exact h1.elim
      exact go vs ss b c
    obtain ⟨σ', q1, q2⟩ := good_sets h0 is vs ss _ _ (Nat.succ.inj hl) g1 nx
    exact ⟨σ', fun Q q => ⟨v, vs, rfl, q1 Q q⟩, q2⟩
  | [], _ :: _, _, _, _, hl, _, _ => by cases hl
  | _ :: _, [], _, _, _, hl, _, _ => by cases hl
  | [], [], _ :: _, _, _, _, _, h => h.elim
  | _ :: _, _ :: _, [], _, _, _, _, h => h.elim
/-- the targets: names -/
structure NamesOk (X : Cx) (tgs : List Expr) (is : List Nat) : Prop where
  pg : PGs X tgs (is.foldr (fun i t => gCons (gName i) t) gNil)
  len : tgs.length = is.length
theorem nms_nil : NamesOk X [] [] := ⟨pgs_nil, rfl⟩
theorem nms_cons {tgs : List Expr} {is : List Nat} {y : Str} {py : Pos} (i : Nat) (h : PG X (.Name y py) (gName i)) (hs : NamesOk X tgs is) (h1 : (assignEach (.Name y py :: tgs) X.env).map (·.2) = assign (.Name y py) X.env :: (assignEach tgs X.env).map (·.2) := by rfl) : NamesOk X (.Name y py :: tgs) (i :: is) :=
  ⟨pgs_cons h hs.pg h1, by rw [List.length_cons, List.length_cons, hs.len]⟩
def asgVS (is : List Nat) (fs : M (List Sl)) : M Out := bindM fs fun ss => fun ρ => if ss.length = is.length then some (.nx, setsS is ss ρ) else none
theorem newvs_len {K : PySem.W.Frag} {σ : St} {ρ' : List Sl} {H H' G' : Hp} : ∀ {vs : List V} {ss : List Sl}, NewVs K σ ρ' H H' G' vs ss → vs.length = ss.length
  | [], [], _ => rfl
  | _ :: _, _ :: _, ⟨_, b, _⟩ => congrArg Nat.succ (newvs_len b)
  | [], _ :: _, h => h.elim
  | _ :: _, [], h => h.elim
/-- a, b, .. = e1, e2, .. where the tuple is made -/
theorem sm_asgV {tgs : List Expr} {is : List Nat} {fs : M (List Sl)} {kt k2 : Nat} {pt pt2 : Pos} (hp : ∀ t g, PE X (.Tuple es k2 pt2) t → PG X (.Tuple tgs kt pt) g → PS X st (tAsg t g)) (ht : NamesOk X tgs is) (h : AV X es fs) (hc : X.calm = true := by rfl) (hn : (assignEach tgs X.env).length = is.length := by rfl) (hst : (assignEach tgs X.env).findIdx? (·.1) = none := by rfl) (hl : is.length ≤ 1000 := by decide) :
    SM X st (asgVS is fs) := by
  obtain ⟨t, p, k⟩ := h.ex
  refine ⟨_, hp _ _ (pe_tup p) (pg_tup hc ht.pg hn hst), fun F σ H G ρ o ρ' E g hf q => ?_⟩
  obtain ⟨ss, ρ1, e1, f1⟩ := bind_some hf
  split at f1
  · rename_i hlen
    cases f1
    refine k F σ H G ρ ss ρ1 _ g e1 fun vs H1 G1 g1 t1 n1 => ?_
    have hvs : vs.length = is.length := (newvs_len n1).trans hlen
    refine ⟨by rw [hvs]; exact Nat.le_of_lt (small1000 hl), fun p np => ?_⟩
    obtain ⟨g2, t2⟩ := g1.newO (o := .tup vs) np
    obtain ⟨σ', q1, q2⟩ := good_sets (H0 := H) (fun a z => (g.fresh z).1) is vs ss ρ1 σ hvs.symm g2 (n1.step t2)
    exact ⟨p, vs, rfl, SqT.of upd_same, hvs, q1 _ (q σ' _ G1 q2 (t1.sg.trans t2.sg))⟩
  · cases f1
end
section
variable {X : Cx} {pos p : Pos} {e a b c : Expr} {fa fb fc : M D}
/-! ### comparisons as tests -/
theorem tm_cmp {op : CmpOp} {g : D → D → Option D} (ho : OpD X (compareOp op) g) (ha : EM X a fa) (hb : EM X b fb) (hm : behindInMarks op b = false) : TM X (.Compare a [op] [b] pos) (boolM (bin2 g fa fb)) := by
  obtain ⟨r, hr, wr⟩ := ho.ex
  obtain ⟨ta, pa, wa⟩ := ha.ex
  obtain ⟨tb, pb, wb⟩ := hb.ex
  refine ⟨_, pt_cmpR hr pa pb hm, fun F σ H G ρ k ρ' Q g0 hf q => ?_⟩
  obtain ⟨d, ρ3, e0, f0⟩ := bind_some hf
  obtain ⟨ek, rfl⟩ := opt_some f0
  obtain ⟨x, ρ1, e1, f1⟩ := bind_some e0
  obtain ⟨y, ρ2, e2, f2⟩ := bind_some f1
  obtain ⟨e3, rfl⟩ := opt_some f2
  have hd := bool_some ek
  subst hd
  refine wa F σ H G ρ x ρ1 _ g0 e1 fun v H1 G1 g1 s1 r1 => ?_
  refine wb F σ H1 G1 ρ1 y _ _ g1 e2 fun u H2 G2 g2 s2 r2 => ?_
  refine wr F _ σ H2 G2 x y v u _ _ g2 (r1.mono s2.sg) r2 e3 fun v H' G' g' s' r' => ?_
  cases r'
  exact ⟨k, rfl, q H' G' g' ((s1.trans s2).trans s')⟩
theorem tm_chain {op op' : CmpOp} {g g' : D → D → Option D} (ho : OpD X (compareOp op) g) (ho' : OpD X (compareOp op') g') (ha : EM X a fa) (hb : EM X b fb) (hc : EM X c fc) (hm : lastMarks [op, op'] [b, c] = false := by with_unfolding_all rfl) :
    TM X (.Compare a [op, op'] [b, c] pos) (boolM (chainM g g' fa fb fc)) := by
  obtain ⟨t, _, w, k⟩ := chain_ex ho ho' ha hb hc (pos := pos) hm
  refine ⟨_, w, fun F σ H G ρ d ρ' Q g0 hf q => ?_⟩
  obtain ⟨y, ρ3, e0, f0⟩ := bind_some hf
  obtain ⟨ek, rfl⟩ := opt_some f0
  have hd := bool_some ek
  subst hd
  refine k F σ H G ρ _ _ _ g0 e0 fun v H' G' g' s' r' => ?_
  cases r'
  exact ⟨d, rfl, q H' G' g' s'⟩
end
end PD
end
/-! PD15: how a def's reading is asked; the plain side. -/
noncomputable section
namespace PD
open PySem PySem.Spec PyProof.Rows L2
theorem runD_eq (N : List Str) (u : M Out) (ds : List D) (ρ : List Sl) (h : slots N (ds.map .d) = ρ) : runD N u ds = (match u ρ with
  | some (.ret d, _) => some d
  | some (.nx, _) => some .none
  | some (.ro ds, _) => some (.list ds)
  | _ => none) := by subst h; rfl
theorem runO_eq (N : List Str) (u : M Out) (ds : List D) (ρ : List Sl) (h : slots N (ds.map .d) = ρ) : runO N u ds = (match u ρ with
  | some (.ro ds, _) => some ds
  | _ => none) := by subst h; rfl
theorem runR_eq (N : List Str) (u : M Out) (ds : List D) (ρ : List Sl) (h : slots N [.rd ds] = ρ) : runR N u ds = (match u ρ with
  | some (.ro ds, _) => some ds
  | _ => none) := by subst h; rfl
theorem runM_eq (N : List Str) (u : M Out) (pot ds : List D) (ρ : List Sl) (h : slots N (.pot pot :: ds.map .d) = ρ) : runM N u pot ds = (match u ρ with
  | some (.ret d, .pot pot' :: _) => some (d, pot')
  | some (.nx, .pot pot' :: _) => some (.none, pot')
  | _ => none) := by subst h; rfl
end PD
end
/-! PD16: the readings, run at a state. -/
noncomputable section
namespace PD
open PySem L2
section
variable {α β : Type} {ρ : List Sl}
theorem bind_ap (f : M α) (g : α → M β) : bindM f g ρ = (match f ρ with
  | some (a, ρ1) => g a ρ1
  | none => none) := rfl
theorem ret_ap (a : α) : retM a ρ = some (a, ρ) := rfl
theorem opt_ap (o : Option α) : optM o ρ = (match o with
  | some a => some (a, ρ)
  | none => none) := by cases o <;> rfl
theorem look_ap (k : List Sl → Option α) : lookM k ρ = (match k ρ with
  | some a => some (a, ρ)
  | none => none) := by unfold lookM; rfl
theorem var_ap (i : Nat) : varM i ρ = (match ρ[i]? with
  | some (.d x) => some (x, ρ)
  | _ => none) := by unfold varM; rfl
theorem bin2_ap (g : D → D → Option D) (fa fb : M D) : bin2 g fa fb ρ = bindM fa (fun a => bindM fb fun b => optM (g a b)) ρ := rfl
theorem bin2o_ap (g : D → D → Option (List D)) (fa fb : M D) : bin2o g fa fb ρ = bindM fa (fun a => bindM fb fun b => optM (g a b)) ρ := rfl
theorem bin1_ap (g : D → Option D) (fa : M D) : bin1 g fa ρ = bindM fa (fun a => optM (g a)) ρ := rfl
theorem chain_ap (g g' : D → D → Option D) (fa fb fc : M D) : chainM g g' fa fb fc ρ = bindM fa (fun a => bindM fb fun b => bindM (optM (g a b)) fun z => bindM (optM (boolO z)) fun k => if k = true then bindM fc fun c => optM (g' b c) else retM (.bool false)) ρ := rfl
theorem bool_ap (fa : M D) : boolM fa ρ = bindM fa (fun d => optM (boolO d)) ρ := rfl
theorem andT_ap (ta tb : M Bool) : andT ta tb ρ = bindM ta (fun k => if k = true then tb else retM false) ρ := rfl
theorem orT_ap (ta tb : M Bool) : orT ta tb ρ = bindM ta (fun k => if k = true then retM true else tb) ρ := rfl
theorem notT_ap (ta : M Bool) : notT ta ρ = bindM ta (fun k => retM (!k)) ρ := rfl
theorem andV_ap (fa fb : M D) : andV fa fb ρ = bindM (boolM fa) (fun k => if k = true then fb else retM (.bool false)) ρ := rfl
theorem orV_ap (fa fb : M D) : orV fa fb ρ = bindM (boolM fa) (fun k => if k = true then retM (.bool true) else fb) ρ := rfl
theorem if_ap (t : M Bool) (fa fb : M α) : ifM t fa fb ρ = bindM t (fun k => if k = true then fa else fb) ρ := rfl
theorem ite_ap {c : Prop} [Decidable c] (f g : M α) : (if c then f else g) ρ = if c then f ρ else g ρ := by split <;> rfl
theorem cons_ap (fa : M D) (fs : M (List D)) : consM fa fs ρ = bindM fa (fun d => bindM fs fun ds => retM (d :: ds)) ρ := rfl
theorem int_ap (fa : M D) : intM fa ρ = bindM fa (fun d => optM (intO d)) ρ := rfl
theorem cont_ap (g : Bool → List D → Option α) (fr : M Rf) : contM g fr ρ = bindM fr (fun r => lookM fun ρ => match look r ρ with
  | some (b, ds) => g b ds
  | none => none) ρ := rfl
theorem callP_ap (i : Nat) (f : List D → List D → Option (D × List D)) (ds : List D) : callP i f ds ρ = (match ρ[i]? with
  | some (.pot xs) => (match f xs ds with
    | some (d, xs') => some (d, ρ.set i (.pot xs'))
    | none => none)
  | some (.ol xs) => (match f xs ds with
    | some (d, xs') => some (d, ρ.set i (.ol xs'))
    | none => none)
  | _ => none) := by unfold callP; rfl
theorem guard_ap (b : List Sl → Bool) : guardM b ρ = if b ρ = true then some ((), ρ) else none := rfl
theorem seq_ap (u w : M Out) : seqM u w ρ = (match u ρ with
  | some (.nx, ρ1) => w ρ1
  | r => r) := by
  unfold seqM bindM
  cases u ρ with
  | none => rfl
  | some p => obtain ⟨o, ρ1⟩ := p; cases o <;> rfl
theorem set_ap (i : Nat) (fv : M Sl) : setS i fv ρ = (match fv ρ with
  | some (s, ρ1) => some (.nx, ρ1.set i s)
  | none => none) := by
  unfold setS bindM
  cases fv ρ <;> rfl
theorem par_ap (i j : Nat) (fv fw : M Sl) : parS i j fv fw ρ = bindM fv (fun s => bindM fw fun r => fun ρ => some (.nx, (ρ.set i s).set j r)) ρ := rfl
theorem par3_ap (i j l : Nat) (fa fb fc : M D) : par3S i j l fa fb fc ρ = bindM fa (fun x => bindM fb fun y => bindM fc fun z => fun ρ => some (.nx, ((ρ.set i (.d x)).set j (.d y)).set l (.d z))) ρ := rfl
theorem aug_ap (i : Nat) (g : D → D → Option D) (fa : M D) : augS i g fa ρ = bindM (lookM (dAt i)) (fun x => bindM fa fun y => bindM (optM (g x y)) fun z => fun ρ => some (.nx, ρ.set i (.d z))) ρ := rfl
theorem app_ap (i : Nat) (fa : M D) : appS i fa ρ = bindM (guardM (ownB i)) (fun _ => bindM fa fun d => fun ρ => match ownL i ρ with
  | some ds => if ds.length < 16000000 then some (.nx, putL i (ds ++ [d]) ρ) else none
  | none => none) ρ := rfl
theorem sto_ap (i : Nat) (fa fk : M D) : stoS i fa fk ρ = bindM fa (fun d => bindM (guardM (ownB i)) fun _ => bindM fk fun k => fun ρ => match ownL i ρ, k with
  | some ds, .int k => (match ixN ds.length k with
    | some j => some (.nx, putL i (ds.set j d) ρ)
    | none => none)
  | _, _ => none) ρ := rfl
theorem augI_ap (i : Nat) (g : D → D → Option D) (fk fa : M D) : augI i g fk fa ρ = bindM (guardM (ownB i)) (fun _ => bindM (intM fk) fun k => bindM (lookM fun ρ => (ownL i ρ).bind fun ds => atI ds k) fun x => bindM fa fun y => bindM (optM (g x y)) fun z => fun ρ => match ownL i ρ with
  | some ds => (match ixN ds.length k with
    | some j => some (.nx, putL i (ds.set j z) ρ)
    | none => none)
  | none => none) ρ := rfl
theorem asg_ap (ft : D → List Sl → Option (List Sl)) (fa : M D) : asgS ft fa ρ = (match fa ρ with
  | some (d, ρ1) => (match ft d ρ1 with
    | some ρ2 => some (.nx, ρ2)
    | none => none)
  | none => none) := by
  unfold asgS bindM
  cases fa ρ <;> rfl
theorem for_ap (fi : M (List D)) (ft : D → List Sl → Option (List Sl)) (body : M Out) : forS fi ft body ρ = (match fi ρ with
  | some (ds, ρ1) => loopD ft body ds ρ1
  | none => none) := by
  unfold forS bindM
  cases fi ρ <;> rfl
theorem frz_ap (i : Nat) (fs : M Out) : frzS i fs ρ = (match fs ρ with
  | some (.nx, ρ1) => (match olAt i ρ1 with
    | some ds => some (.nx, ρ1.set i (.d (.list ds)))
    | none => none)
  | r => r) := by
  unfold frzS bindM
  cases fs ρ with
  | none => rfl
  | some p => obtain ⟨o, ρ1⟩ := p; cases o <;> rfl
theorem dist_if {c : Prop} [Decidable c] {f g : α → β} (a : α) : (if c then f else g) a = if c then f a else g a := by split <;> rfl
theorem lt0 (n : Nat) : (0 < n + 1) = True := by simp
theorem lt1 (n : Nat) : (1 < n + 1 + 1) = True := by simp
theorem lt2 (n : Nat) : (2 < n + 1 + 1 + 1) = True := by simp
theorem lt3 (n : Nat) : (3 < n + 1 + 1 + 1 + 1) = True := by simp
theorem ixN_pos (n : Nat) {k : Int} (h : 0 ≤ k) : ixN n k = if k.toNat < n then some k.toNat else none := by
  unfold ixN; rw [if_pos h]
  by_cases h2 : k < n
  · rw [if_pos h2, if_pos (by omega)]
  · rw [if_neg h2, if_neg (by omega)]
theorem ixN_neg (n : Nat) {k : Int} (h : k < 0) : ixN n k = if (-k).toNat ≤ n then some (n - (-k).toNat) else none := by
  unfold ixN; rw [if_neg (by omega)]
  by_cases h2 : -(n : Int) ≤ k
  · rw [if_pos h2, if_pos (by omega)]; congr 1; omega
  · rw [if_neg h2, if_neg (by omega)]
theorem atI_pos {α : Type} (ds : List α) {k : Int} (h : 0 ≤ k) : atI ds k = ds[k.toNat]? := by
  unfold atI; rw [ixN_pos _ h]
  by_cases h2 : k.toNat < ds.length
  · rw [if_pos h2]; rfl
  · rw [if_neg h2, List.getElem?_eq_none (by omega)]; rfl
theorem atI_neg {α : Type} (ds : List α) {k : Int} (h : k < 0) : atI ds k = if (-k).toNat ≤ ds.length then ds[ds.length - (-k).toNat]? else none := by
  unfold atI; rw [ixN_neg _ h]
  by_cases h2 : (-k).toNat ≤ ds.length
  · rw [if_pos h2, if_pos h2]; rfl
  · rw [if_neg h2, if_neg h2]; rfl
theorem mulOk_r {i j : Int} (h : j.natAbs < 18446744073709551616) : MulOk i j ↔ True := ⟨fun _ => trivial, fun _ => .inr (.inl h)⟩
theorem mulOk_l {i j : Int} (h : i.natAbs < 18446744073709551616) : MulOk i j ↔ True := ⟨fun _ => trivial, fun _ => .inl h⟩
theorem divOk_s {j : Int} (h0 : 0 < j) (h : j < 1073741824) : DivOk j ↔ True := ⟨fun _ => trivial, fun _ => ⟨by omega, .inl (by omega)⟩⟩
theorem rgOk_s {j : Int} (h0 : -1000000000000 ≤ j) (h : j < 1000000000000) : RgOk j ↔ True := ⟨fun _ => trivial, fun _ => ⟨by omega, by omega⟩⟩
theorem log2_lt {n k : Nat} (h : n < 2 ^ k) (hk : 0 < k) : n.log2 < k := by
  by_cases h0 : n = 0
  · subst h0; simpa using hk
  · exact (Nat.log2_lt h0).2 h
theorem powOk_2 {i : Int} (h : i.natAbs < 2 ^ 1000) : PowOk i 2 ↔ True := ⟨fun _ => trivial, fun _ => ⟨by omega, by
  have := log2_lt h (by decide)
  omega⟩⟩
theorem powOk_c {i j : Int} (h0 : 0 ≤ j) (h : i.natAbs < 2 ^ 64) (hj : j < 1000000) : PowOk i j ↔ True := ⟨fun _ => trivial, fun _ => ⟨h0, by
  have := log2_lt h (by decide)
  have h2 : ((i.natAbs.log2 + 1 : Nat) : Int) ≤ 64 := by omega
  have h3 : ((i.natAbs.log2 + 1 : Nat) : Int) * j ≤ 64 * j := Int.mul_le_mul_of_nonneg_right h2 h0
  omega⟩⟩
end
end PD
end
/-! PD17: comprehensions and loops, run at a state. -/
noncomputable section
namespace PD
open PySem L2
theorem wipe_wipe (ρ : List Sl) : ∀ vs : List Nat, wipeS (wipeS ρ vs) vs = wipeS ρ vs := by
  have key : ∀ (ρ : List Sl) (vs : List Nat) (v : Nat), wipeS (ρ.set v .no) vs = (wipeS ρ vs).set v .no := by
    intro ρ vs v
    induction vs with
    | nil => rfl
    | cons u us ih =>
      unfold wipeS
      rw [ih]
      by_cases h : u = v
      · subst h; rfl
      · rw [List.set_comm _ _ (fun e => h e.symm)]
  intro vs
  induction vs with
  | nil => rfl
  | cons v vs ih =>
    show (wipeS ((wipeS ρ vs).set v .no) vs).set v .no = _
    rw [key, ih, List.set_set]
    rfl
section
variable {fi : M (List D)} {vs : List Nat} {ft : D → List Sl → Option (List Sl)} {tt : M Bool} {fe : M D}
/-- each item's value told by a relation; the state by an invariant of the wiped state -/
theorem comp_rel (I : Nat → List Sl → Prop) (R : D → D → Prop) : ∀ (ds : List D) (n : Nat) (ρ : List Sl), I n (wipeS ρ vs) →
    (∀ d ∈ ds, ∀ m ρ, m < n + ds.length → I m ρ → ∃ ρ1 y ρ3, ft d ρ = some ρ1 ∧ tt ρ1 = some (true, ρ1) ∧ fe ρ1 = some (y, ρ3) ∧ I (m + 1) (wipeS ρ3 vs) ∧ R d y) →
    ∃ ys ρ', compD vs ft tt fe ds ρ = some (ys, ρ') ∧ I (n + ds.length) (wipeS ρ' vs) ∧ ys.length = ds.length ∧ ∀ (i : Nat) d y, ds[i]? = some d → ys[i]? = some y → R d y
  | [], n, ρ, h, _ => ⟨[], ρ, rfl, h, rfl, fun i d y e => by cases e⟩
  | d :: ds, n, ρ, h, hs => by
    obtain ⟨ρ1, y, ρ3, e1, e2, e3, h4, r⟩ := hs d (.head _) n _ (by simp) h
    obtain ⟨ys, ρ', e5, h6, h7, h8⟩ := comp_rel I R ds (n + 1) ρ3 h4 fun d hd m ρ hm => hs d (.tail _ hd) m ρ (by rw [List.length_cons]; omega)
    refine ⟨y :: ys, ρ', ?_, by rw [List.length_cons]; rwa [show n + (ds.length + 1) = n + 1 + ds.length by omega], by simp [h7], fun i d' y' a b => ?_⟩
    · unfold compD
      simp only [e1, e2, e3, e5]
    · cases i with
      | zero => cases a; cases b; exact r
      | succ i => exact h8 i d' y' a b
theorem comp_map (W : List Sl) (h : D → D) : ∀ (ds : List D) (ρ : List Sl), wipeS ρ vs = W →
    (∀ d ∈ ds, ∃ ρ1 ρ3, ft d W = some ρ1 ∧ tt ρ1 = some (true, ρ1) ∧ fe ρ1 = some (h d, ρ3) ∧ wipeS ρ3 vs = W) →
    ∃ ρ', compD vs ft tt fe ds ρ = some (ds.map h, ρ') ∧ wipeS ρ' vs = W
  | [], ρ, e, _ => ⟨ρ, rfl, e⟩
  | d :: ds, ρ, e, hs => by
    obtain ⟨ρ1, ρ3, e1, e2, e3, h4⟩ := hs d (.head _)
    obtain ⟨ρ', e5, h6⟩ := comp_map W h ds ρ3 h4 fun d hd => hs d (.tail _ hd)
    refine ⟨ρ', ?_, h6⟩
    unfold compD
    simp only [e, e1, e2, e3, e5, List.map_cons]
theorem comp_filter (W : List Sl) (k : D → Bool) (h : D → D) : ∀ (ds : List D) (ρ : List Sl), wipeS ρ vs = W →
    (∀ d ∈ ds, ∃ ρ1 ρ2, ft d W = some ρ1 ∧ tt ρ1 = some (k d, ρ2) ∧ wipeS ρ2 vs = W ∧ (k d = true → ∃ ρ3, fe ρ2 = some (h d, ρ3) ∧ wipeS ρ3 vs = W)) →
    ∃ ρ', compD vs ft tt fe ds ρ = some ((ds.filter k).map h, ρ') ∧ wipeS ρ' vs = W
  | [], ρ, e, _ => ⟨ρ, rfl, e⟩
  | d :: ds, ρ, e, hs => by
    obtain ⟨ρ1, ρ2, e1, e2, h2, h3⟩ := hs d (.head _)
    cases hk : k d with
    | false =>
      obtain ⟨ρ', e5, h6⟩ := comp_filter W k h ds ρ2 h2 fun d hd => hs d (.tail _ hd)
      rw [hk] at e2
      refine ⟨ρ', ?_, h6⟩
      unfold compD
      simp only [e, e1, e2, e5, List.filter_cons, hk, Bool.false_eq_true, if_false]
    | true =>
      obtain ⟨ρ3, e3, h4⟩ := h3 hk
      obtain ⟨ρ', e5, h6⟩ := comp_filter W k h ds ρ3 h4 fun d hd => hs d (.tail _ hd)
      rw [hk] at e2
      refine ⟨ρ', ?_, h6⟩
      unfold compD
      simp only [e, e1, e2, e3, e5, List.filter_cons, hk, if_true, List.map_cons]
theorem lc_of {ρ ρf ρ' : List Sl} {ds ys : List D} (e : fi ρ = some (ds, ρf)) (hl : ds.length < 16000000) (hc : compD vs ft tt fe ds ρf = some (ys, ρ')) : lcM fi vs ft tt fe ρ = some (ys, restS ρf (wipeS ρ' vs) vs) := by
  unfold lcM bindM
  simp only [e, hc, if_pos hl]
theorem lc_map {ρ ρf : List Sl} {ds : List D} (W : List Sl) (h : D → D) (e : fi ρ = some (ds, ρf)) (hl : ds.length < 16000000) (hW : wipeS ρf vs = W)
    (hs : ∀ d ∈ ds, ∃ ρ1 ρ3, ft d W = some ρ1 ∧ tt ρ1 = some (true, ρ1) ∧ fe ρ1 = some (h d, ρ3) ∧ wipeS ρ3 vs = W) : lcM fi vs ft tt fe ρ = some (ds.map h, restS ρf W vs) := by
  obtain ⟨ρ', e1, e2⟩ := comp_map W h ds ρf hW hs
  rw [lc_of e hl e1, e2]
theorem lc_filter {ρ ρf : List Sl} {ds : List D} (W : List Sl) (k : D → Bool) (h : D → D) (e : fi ρ = some (ds, ρf)) (hl : ds.length < 16000000) (hW : wipeS ρf vs = W)
    (hs : ∀ d ∈ ds, ∃ ρ1 ρ2, ft d W = some ρ1 ∧ tt ρ1 = some (k d, ρ2) ∧ wipeS ρ2 vs = W ∧ (k d = true → ∃ ρ3, fe ρ2 = some (h d, ρ3) ∧ wipeS ρ3 vs = W)) : lcM fi vs ft tt fe ρ = some ((ds.filter k).map h, restS ρf W vs) := by
  obtain ⟨ρ', e1, e2⟩ := comp_filter W k h ds ρf hW hs
  rw [lc_of e hl e1, e2]
theorem lc_rel {ρ ρf : List Sl} {ds : List D} (I : Nat → List Sl → Prop) (R : D → D → Prop) (n : Nat) (e : fi ρ = some (ds, ρf)) (hl : ds.length < 16000000) (hI : I n (wipeS ρf vs))
    (hs : ∀ d ∈ ds, ∀ m ρ, m < n + ds.length → I m ρ → ∃ ρ1 y ρ3, ft d ρ = some ρ1 ∧ tt ρ1 = some (true, ρ1) ∧ fe ρ1 = some (y, ρ3) ∧ I (m + 1) (wipeS ρ3 vs) ∧ R d y) :
    ∃ ys ρ', lcM fi vs ft tt fe ρ = some (ys, restS ρf ρ' vs) ∧ I (n + ds.length) ρ' ∧ ys.length = ds.length ∧ ∀ (i : Nat) d y, ds[i]? = some d → ys[i]? = some y → R d y := by
  obtain ⟨ys, ρ', e1, e2, e3, e4⟩ := comp_rel I R ds n ρf hI hs
  exact ⟨ys, _, lc_of e hl e1, e2, e3, e4⟩
end
section
variable {ft : D → List Sl → Option (List Sl)} {body : M Out}
theorem loop_gen (J : Nat → List Sl → Prop) (B : List Sl → Prop) (T : D → List Sl → Prop) : ∀ (ds : List D) (n : Nat) (ρ : List Sl), J n ρ →
    (∀ (k : Nat) d ρ, ds[k]? = some d → J (n + k) ρ → ∃ ρ1, ft d ρ = some ρ1 ∧ ∃ o ρ2, body ρ1 = some (o, ρ2) ∧ match o with
      | .nx => J (n + k + 1) ρ2
      | .ct => J (n + k + 1) ρ2
      | .bk => B ρ2
      | .ret d => T d ρ2
      | .ro _ => False) →
    ∃ o ρ', loopD ft body ds ρ = some (o, ρ') ∧ match o with
      | .nx => J (n + ds.length) ρ' ∨ B ρ'
      | .ret d => T d ρ'
      | _ => False
  | [], n, ρ, h, _ => ⟨.nx, ρ, rfl, .inl h⟩
  | d :: ds, n, ρ, h, hs => by
    obtain ⟨ρ1, e1, o, ρ2, e2, h2⟩ := hs 0 d ρ rfl h
    have next : J (n + 1) ρ2 → ∃ o ρ', loopD ft body ds ρ2 = some (o, ρ') ∧ match o with
      | .nx => J (n + (d :: ds).length) ρ' ∨ B ρ'
      | .ret d => T d ρ'
      | _ => False := fun h3 => by
      have := loop_gen J B T ds (n + 1) ρ2 h3 fun k d' ρ' e h' => by
        have := hs (k + 1) d' ρ' (by simpa using e) (by rwa [show n + (k + 1) = n + 1 + k by omega])
        rwa [show n + (k + 1) + 1 = n + 1 + k + 1 by omega] at this
      rwa [List.length_cons, show n + (ds.length + 1) = n + 1 + ds.length by omega]
    cases o with
    | nx =>
      obtain ⟨o, ρ', e3, h3⟩ := next h2
      exact ⟨o, ρ', by unfold loopD; simp only [e1, e2, e3], h3⟩
    | ct =>
      obtain ⟨o, ρ', e3, h3⟩ := next h2
      exact ⟨o, ρ', by unfold loopD; simp only [e1, e2, e3], h3⟩
    | bk => exact ⟨.nx, ρ2, by unfold loopD; simp only [e1, e2], .inr h2⟩
    | ret d => exact ⟨.ret d, ρ2, by unfold loopD; simp only [e1, e2], h2⟩
    | ro _ => exact h2.elim
theorem loop_nx (J : Nat → List Sl → Prop) (ds : List D) (ρ : List Sl) (h : J 0 ρ)
    (hs : ∀ (k : Nat) d ρ, ds[k]? = some d → J k ρ → ∃ ρ1, ft d ρ = some ρ1 ∧ ∃ ρ2, body ρ1 = some (.nx, ρ2) ∧ J (k + 1) ρ2) :
    ∃ ρ', loopD ft body ds ρ = some (.nx, ρ') ∧ J ds.length ρ' := by
  obtain ⟨o, ρ', e, k⟩ := loop_gen (ft := ft) (body := body) J (fun _ => False) (fun _ _ => False) ds 0 ρ h fun k d ρ e j => by
    obtain ⟨ρ1, e1, ρ2, e2, j2⟩ := hs k d ρ e (by simpa using j)
    exact ⟨ρ1, e1, .nx, ρ2, e2, by simpa using j2⟩
  cases o with
  | nx => rcases k with k | k
          · exact ⟨ρ', e, by simpa using k⟩
          · exact k.elim
  | _ => exact k.elim
theorem while_nx {c : M Bool} (J : Nat → List Sl → Prop) (E : List Sl → Prop) : ∀ (fuel n : Nat) (ρ : List Sl), n < fuel → J n ρ →
    (∀ (n : Nat) ρ, J n ρ → (∃ ρ1, c ρ = some (false, ρ1) ∧ E ρ1) ∨ ∃ ρ1 ρ2 m, c ρ = some (true, ρ1) ∧ (body ρ1 = some (.nx, ρ2) ∨ body ρ1 = some (.ct, ρ2)) ∧ m < n ∧ J m ρ2) →
    ∃ ρ', whileD c body fuel ρ = some (.nx, ρ') ∧ E ρ'
  | 0, n, ρ, h, _, _ => by omega
  | fuel + 1, n, ρ, h, j, hs => by
    rcases hs n ρ j with ⟨ρ1, e1, h1⟩ | ⟨ρ1, ρ2, m, e1, e2, hm, j2⟩
    · exact ⟨ρ1, by unfold whileD; simp only [e1], h1⟩
    · obtain ⟨ρ', e3, h3⟩ := while_nx (c := c) J E fuel m ρ2 (by omega) j2 hs
      refine ⟨ρ', ?_, h3⟩
      rcases e2 with e2 | e2
      · unfold whileD; simp only [e1, e2, e3]
      · unfold whileD; simp only [e1, e2, e3]
end
end PD
end
noncomputable section
namespace PDL
open PySem PySem.Spec PyProof.Rows L2 PD
abbrev N__law_pot : List Str := ["script"]
abbrev N__law_take : List Str := ["pot", "many", "cell", "drawn", "mixed"]
abbrev N__law_integer : List Str := ["pot", "far"]
abbrev N__law_recurrence : List Str := ["pot", "most", "far", "r", "a", "u", "step"]
abbrev N__law_terms : List Str := ["recurrence", "many", "a", "u", "found", "n", "i"]
abbrev N_is_integer : List Str := ["value"]
abbrev N_are_integers : List Str := ["value", "own"]
abbrev N_is_recurrence_of : List Str := ["value", "own"]
abbrev N_check_recurrence : List Str := ["recurrence"]
abbrev N_check_from : List Str := ["value", "least"]
abbrev N_terms_to : List Str := ["recurrence", "many", "a", "found", "own", "more"]
abbrev N_term : List Str := ["recurrence", "n"]
abbrev N_is_recurrence : List Str := ["value"]
abbrev N__law_same : List Str := ["got", "due", "k"]
abbrev N__law_times : List Str := ["one", "other", "by", "r", "i", "j", "k"]
abbrev N__law_far : List Str := ["own", "n", "by", "a", "u", "r", "power", "table", "step", "i", "j"]
abbrev N_law : List Str := ["script", "pot", "turn", "own", "terms", "n", "a", "u", "other", "both", "far", "told", "by", "near", "step", "at"]
def u__law_pot : M Out :=
  (retoS (bin2o catO (lstM (consM (kI 0) (consM (kI 15485863) (consM (kI 5) (consM (kI 4) nilM))))) (lstM (listO (cmO 0)))))
def den__law_pot : List D → Option (List D) := runR N__law_pot u__law_pot
theorem run__law_pot (x : List D) : den__law_pot x = (match u__law_pot [.rd x] with
  | some (.ro ds, _) => some ds
  | _ => none) := runR_eq _ _ _ _ rfl
def u__law_take : M Out :=
  (seqM (ifM (andT (boolM (bin2 eqD (ixM (cmO 0) (kI 0)) (kI 0))) (boolM (bin2 ltD (ixM (cmO 0) (kI 3)) (lenM (cmO 0))))) (seqM (setS 2 (evD (ixM (cmO 0) (ixM (cmO 0) (kI 3))))) (seqM (augI 0 iaddD (kI 3) (kI 1)) (ifM (boolM (bin2 geD (varM 2) (bin2 powD (kI 10) (kI 18)))) (stoS 0 (bin2 subD (varM 2) (bin2 powD (kI 10) (kI 18))) (kI 0)) (stoS 0 (bin2 modD (callM intG (consM (bin2 addD (bin2 addD (bin2 mulD (ixM (cmO 0) (kI 1)) (kI 3202034522624059733)) (bin2 mulD (varM 2) (kI 4253))) (bin2 mulD (kI 7) (ixM (cmO 0) (kI 3)))) nilM)) (kI 9223372036854775421)) (kI 1))))) nxM) (seqM (ifM (boolM (bin2 gtD (ixM (cmO 0) (kI 0)) (kI 0))) (seqM (setS 3 (evD (bin2 modD (callM intG (consM (ixM (cmO 0) (kI 0)) nilM)) (varM 1)))) (seqM (stoS 0 (bin2 fdivD (ixM (cmO 0) (kI 0)) (varM 1)) (kI 0)) (retS (varM 3)))) nxM) (seqM (augI 0 iaddD (kI 2) (kI 1)) (seqM (setS 4 (evD (bin2 modD (callM intG (consM (bin2 addD (bin2 mulD (bin2 powD (bin2 addD (ixM (cmO 0) (kI 1)) (bin2 mulD (kI 75979) (ixM (cmO 0) (kI 2)))) (kI 2)) (kI 1181783497276652981)) (bin2 mulD (kI 3) (ixM (cmO 0) (kI 2)))) nilM)) (kI 1180591620717411303449)))) (seqM (setS 4 (evD (bin2 modD (callM intG (consM (bin2 addD (bin2 powD (bin2 addD (varM 4) (kI 88172645463325252)) (kI 2)) (ixM (cmO 0) (kI 1))) nilM)) (kI 340282366920938463463374607431768211297)))) (retS (bin2 modD (callM intG (consM (bin2 fdivD (varM 4) (kI 65536)) nilM)) (varM 1))))))))
def den__law_take : List D → List D → Option (D × List D) := runM N__law_take u__law_take
theorem run__law_take (pot : List D) (x1 : D) : den__law_take pot [x1] = (match u__law_take [.pot pot, .d x1, .no, .no, .no] with
  | some (.ret d, .pot pot' :: _) => some (d, pot')
  | some (.nx, .pot pot' :: _) => some (.none, pot')
  | _ => none) := runM_eq _ _ _ _ _ rfl
def u__law_integer : M Out :=
  (retS (bin2 subD (callPM 0 den__law_take (consM (bin2 addD (bin2 mulD (kI 2) (varM 1)) (kI 1)) nilM)) (varM 1)))
def den__law_integer : List D → List D → Option (D × List D) := runM N__law_integer u__law_integer
theorem run__law_integer (pot : List D) (x1 : D) : den__law_integer pot [x1] = (match u__law_integer [.pot pot, .d x1] with
  | some (.ret d, .pot pot' :: _) => some (d, pot')
  | some (.nx, .pot pot' :: _) => some (.none, pot')
  | _ => none) := runM_eq _ _ _ _ _ rfl
def el__law_recurrence_1 : M D :=
  (callPM 0 den__law_integer (consM (varM 2) nilM))
def lc__law_recurrence_1 : M (List D) :=
  (lcM (rngM (consM (varM 3) nilM)) [6] (gN 6) (retM true) el__law_recurrence_1)
def u__law_recurrence : M Out :=
  (seqM (setS 3 (evD (bin2 addD (kI 1) (callPM 0 den__law_take (consM (varM 1) nilM))))) (seqM (parS 4 5 (evO lc__law_recurrence_1) (evD (lstM lc__law_recurrence_1))) (seqM (stoS 4 (ifM (boolM (bin2 neD (ixM (cmO 4) (bin1 negD (kI 1))) (kI 0))) (ixM (cmO 4) (bin1 negD (kI 1))) (ixM (cmD (lstM (consM (kI 1) (consM (bin1 negD (kI 1)) (consM (kI 2) nilM))))) (callPM 0 den__law_take (consM (kI 3) nilM)))) (bin1 negD (kI 1))) (retS (tupM (consM (tupOfM (cmO 4)) (consM (tupOfM (cmD (varM 5))) nilM)))))))
def den__law_recurrence : List D → List D → Option (D × List D) := runM N__law_recurrence u__law_recurrence
theorem run__law_recurrence (pot : List D) (x1 x2 : D) : den__law_recurrence pot [x1, x2] = (match u__law_recurrence [.pot pot, .d x1, .d x2, .no, .no, .no, .no] with
  | some (.ret d, .pot pot' :: _) => some (d, pot')
  | some (.nx, .pot pot' :: _) => some (.none, pot')
  | _ => none) := runM_eq _ _ _ _ _ rfl
def el__law_terms_1 : M D :=
  (bin2 mulD (ixM (cmD (varM 2)) (varM 6)) (ixM (cmO 4) (bin2 subD (bin2 subD (varM 5) (kI 1)) (varM 6))))
def lc__law_terms_1 : M (List D) :=
  (lcM (rngM (consM (lenM (cmD (varM 2))) nilM)) [6] (gN 6) (retM true) el__law_terms_1)
def bd__law_terms_1 : M Out :=
  (appS 4 (sumM (cmD (lstM lc__law_terms_1))))
def lp__law_terms_1 : M Out :=
  (forS (rngM (consM (lenM (cmD (varM 3))) (consM (varM 1) nilM))) (gN 5) bd__law_terms_1)
def u__law_terms : M Out :=
  (seqM (asgS (gtup (gcons (gN 2) (gcons (gN 3) g0))) (varM 0)) (seqM (setS 4 (evO (listO (cmD (varM 3))))) (seqM lp__law_terms_1 (retS (sliceM (cmO 4) omN (omS (varM 1)))))))
def den__law_terms : List D → Option D := runD N__law_terms u__law_terms
theorem run__law_terms (x0 x1 : D) : den__law_terms [x0, x1] = (match u__law_terms [.d x0, .d x1, .no, .no, .no, .no, .no] with
  | some (.ret d, _) => some d
  | some (.nx, _) => some .none
  | some (.ro ds, _) => some (.list ds)
  | _ => none) := runD_eq _ _ _ _ rfl
def u_is_integer : M Out :=
  (retS (andV (isinM Ty.int (varM 0)) (notV (isinM Ty.bool (varM 0)))))
def den_is_integer : List D → Option D := runD N_is_integer u_is_integer
theorem run_is_integer (x0 : D) : den_is_integer [x0] = (match u_is_integer [.d x0] with
  | some (.ret d, _) => some d
  | some (.nx, _) => some .none
  | some (.ro ds, _) => some (.list ds)
  | _ => none) := runD_eq _ _ _ _ rfl
def el_are_integers_1 : M D :=
  (callM den_is_integer (consM (varM 1) nilM))
def lc_are_integers_1 : M (List D) :=
  (lcM (itM (cmD (varM 0))) [1] (gN 1) (retM true) el_are_integers_1)
def u_are_integers : M Out :=
  (retS (andV (isinM Ty.tuple (varM 0)) (allM (cmD (lstM lc_are_integers_1)))))
def den_are_integers : List D → Option D := runD N_are_integers u_are_integers
theorem run_are_integers (x0 : D) : den_are_integers [x0] = (match u_are_integers [.d x0, .no] with
  | some (.ret d, _) => some d
  | some (.nx, _) => some .none
  | some (.ro ds, _) => some (.list ds)
  | _ => none) := runD_eq _ _ _ _ rfl
def el_is_recurrence_of_1 : M D :=
  (callM den_are_integers (consM (varM 1) nilM))
def lc_is_recurrence_of_1 : M (List D) :=
  (lcM (itM (cmD (varM 0))) [1] (gN 1) (retM true) el_is_recurrence_of_1)
def u_is_recurrence_of : M Out :=
  (seqM (ifM (orT (notT (boolM (isinM Ty.tuple (varM 0)))) (orT (boolM (bin2 neD (lenM (cmD (varM 0))) (kI 2))) (notT (boolM (allM (cmD (lstM lc_is_recurrence_of_1))))))) (retS (kB false)) nxM) (retS (andV (bin2 eqD (lenM (cmD (ixM (cmD (varM 0)) (kI 0)))) (lenM (cmD (ixM (cmD (varM 0)) (kI 1))))) (andV (bin2 neD (ixM (cmD (varM 0)) (kI 0)) (tupM nilM)) (bin2 neD (ixM (cmD (ixM (cmD (varM 0)) (kI 0))) (bin1 negD (kI 1))) (kI 0))))))
def den_is_recurrence_of : List D → Option D := runD N_is_recurrence_of u_is_recurrence_of
theorem run_is_recurrence_of (x0 : D) : den_is_recurrence_of [x0] = (match u_is_recurrence_of [.d x0, .no] with
  | some (.ret d, _) => some d
  | some (.nx, _) => some .none
  | some (.ro ds, _) => some (.list ds)
  | _ => none) := runD_eq _ _ _ _ rfl
def u_check_recurrence : M Out :=
  (ifM (notT (boolM (callM den_is_recurrence_of (consM (varM 0) nilM)))) neverS nxM)
def den_check_recurrence : List D → Option D := runD N_check_recurrence u_check_recurrence
theorem run_check_recurrence (x0 : D) : den_check_recurrence [x0] = (match u_check_recurrence [.d x0] with
  | some (.ret d, _) => some d
  | some (.nx, _) => some .none
  | some (.ro ds, _) => some (.list ds)
  | _ => none) := runD_eq _ _ _ _ rfl
def u_check_from : M Out :=
  (ifM (orT (notT (boolM (callM den_is_integer (consM (varM 0) nilM)))) (boolM (bin2 ltD (varM 0) (varM 1)))) neverS nxM)
def den_check_from : List D → Option D := runD N_check_from u_check_from
theorem run_check_from (x0 x1 : D) : den_check_from [x0, x1] = (match u_check_from [.d x0, .d x1] with
  | some (.ret d, _) => some d
  | some (.nx, _) => some .none
  | some (.ro ds, _) => some (.list ds)
  | _ => none) := runD_eq _ _ _ _ rfl
def el_terms_to_1 : M D :=
  (bin2 mulD (varM 4) (varM 5))
def lc_terms_to_1 : M (List D) :=
  (lcM (zipM (cmD (varM 2)) (cmD (revM (cmO 3)))) [4, 5] (gtup (gcons (gN 4) (gcons (gN 5) g0))) (retM true) el_terms_to_1)
def ts_terms_to_1 : M Bool :=
  (boolM (bin2 ltD (lenM (cmO 3)) (varM 1)))
def bd_terms_to_1 : M Out :=
  (appS 3 (sumM (cmD (lstM lc_terms_to_1))))
def lp_terms_to_1 : M Out :=
  (whileD ts_terms_to_1 bd_terms_to_1 FUEL)
def u_terms_to : M Out :=
  (seqM (parS 2 3 (evD (ixM (cmD (varM 0)) (kI 0))) (evO (listO (cmD (ixM (cmD (varM 0)) (kI 1)))))) (seqM lp_terms_to_1 (retS (sliceM (cmO 3) omN (omS (varM 1))))))
def den_terms_to : List D → Option D := runD N_terms_to u_terms_to
theorem run_terms_to (x0 x1 : D) : den_terms_to [x0, x1] = (match u_terms_to [.d x0, .d x1, .no, .no, .no, .no] with
  | some (.ret d, _) => some d
  | some (.nx, _) => some .none
  | some (.ro ds, _) => some (.list ds)
  | _ => none) := runD_eq _ _ _ _ rfl
def u_term : M Out :=
  (seqM (exprS (callM den_check_recurrence (consM (varM 0) nilM))) (seqM (exprS (callM den_check_from (consM (varM 1) (consM (kI 0) nilM)))) (retS (ixM (cmD (callM den_terms_to (consM (varM 0) (consM (bin2 addD (varM 1) (kI 1)) nilM)))) (varM 1)))))
def den_term : List D → Option D := runD N_term u_term
theorem run_term (x0 x1 : D) : den_term [x0, x1] = (match u_term [.d x0, .d x1] with
  | some (.ret d, _) => some d
  | some (.nx, _) => some .none
  | some (.ro ds, _) => some (.list ds)
  | _ => none) := runD_eq _ _ _ _ rfl
def u_is_recurrence : M Out :=
  (retS (callM den_is_recurrence_of (consM (varM 0) nilM)))
def den_is_recurrence : List D → Option D := runD N_is_recurrence u_is_recurrence
theorem run_is_recurrence (x0 : D) : den_is_recurrence [x0] = (match u_is_recurrence [.d x0] with
  | some (.ret d, _) => some d
  | some (.nx, _) => some .none
  | some (.ro ds, _) => some (.list ds)
  | _ => none) := runD_eq _ _ _ _ rfl
def u__law_same (den : List D → Option D) : M Out :=
  (seqM (ifM (boolM (isin2M Ty.tuple Ty.list (varM 1))) (seqM (ifM (orT (boolM (bin2 neD (isinM Ty.tuple (varM 0)) (isinM Ty.tuple (varM 1)))) (boolM (bin2 neD (isinM Ty.list (varM 0)) (isinM Ty.list (varM 1))))) (retS (kB false)) nxM) (retS (andV (bin2 eqD (lenM (cmD (varM 0))) (lenM (cmD (varM 1)))) (allM (cmD (lstM (lcM (rngM (consM (lenM (cmD (varM 1))) nilM)) [2] (gN 2) (retM true) (callM den (consM (ixM (cmD (varM 0)) (varM 2)) (consM (ixM (cmD (varM 1)) (varM 2)) nilM)))))))))) nxM) (seqM (ifM (orT (boolM (bin2 isD (varM 1) kN)) (boolM (bin2 isD (varM 0) kN))) (retS (andV (bin2 isD (varM 1) kN) (bin2 isD (varM 0) kN))) nxM) (seqM (ifM (orT (boolM (isinM Ty.bool (varM 1))) (boolM (isinM Ty.bool (varM 0)))) (retS (andV (isinM Ty.bool (varM 1)) (andV (isinM Ty.bool (varM 0)) (bin2 eqD (varM 0) (varM 1))))) nxM) (seqM (ifM (boolM (isinM Ty.str (varM 1))) (retS (andV (isinM Ty.str (varM 0)) (bin2 eqD (varM 0) (varM 1)))) nxM) (retS (andV (isinM Ty.int (varM 1)) (andV (isinM Ty.int (varM 0)) (bin2 eqD (varM 0) (varM 1)))))))))
def den__law_same : Nat → List D → Option D
  | 0 => fun _ => none
  | n + 1 => runD N__law_same (u__law_same (den__law_same n))
def el__law_times_1 : M D :=
  (bin2 mulD (ixM (cmD (ixM (cmD (varM 0)) (varM 4))) (varM 6)) (ixM (cmD (ixM (cmD (varM 1)) (varM 6))) (varM 5)))
def lc__law_times_1 : M (List D) :=
  (lcM (itM (cmD (varM 3))) [6] (gN 6) (retM true) el__law_times_1)
def el__law_times_2 : M D :=
  (bin2 modD (callM intG (consM (sumM (cmD (lstM lc__law_times_1))) nilM)) (varM 2))
def lc__law_times_2 : M (List D) :=
  (lcM (itM (cmD (varM 3))) [5] (gN 5) (retM true) el__law_times_2)
def el__law_times_3 : M D :=
  (lstM lc__law_times_2)
def lc__law_times_3 : M (List D) :=
  (lcM (itM (cmD (varM 3))) [4] (gN 4) (retM true) el__law_times_3)
def u__law_times : M Out :=
  (seqM (setS 3 (evD (lstM (lrO (lenM (cmD (varM 0))))))) (retS (lstM lc__law_times_3)))
def den__law_times : List D → Option D := runD N__law_times u__law_times
theorem run__law_times (x0 x1 x2 : D) : den__law_times [x0, x1, x2] = (match u__law_times [.d x0, .d x1, .d x2, .no, .no, .no, .no] with
  | some (.ret d, _) => some d
  | some (.nx, _) => some .none
  | some (.ro ds, _) => some (.list ds)
  | _ => none) := runD_eq _ _ _ _ rfl
def el__law_far_1 : M D :=
  (callM intG (consM (bin2 eqD (varM 9) (varM 10)) nilM))
def lc__law_far_1 : M (List D) :=
  (lcM (rngM (consM (varM 5) nilM)) [10] (gN 10) (retM true) el__law_far_1)
def el__law_far_2 : M D :=
  (lstM lc__law_far_1)
def lc__law_far_2 : M (List D) :=
  (lcM (rngM (consM (varM 5) nilM)) [9] (gN 9) (retM true) el__law_far_2)
def el__law_far_3 : M D :=
  (ifM (boolM (bin2 eqD (varM 9) (kI 0))) (ixM (cmD (varM 3)) (varM 10)) (callM intG (consM (bin2 eqD (varM 10) (bin2 subD (varM 9) (kI 1))) nilM)))
def lc__law_far_3 : M (List D) :=
  (lcM (rngM (consM (varM 5) nilM)) [10] (gN 10) (retM true) el__law_far_3)
def el__law_far_4 : M D :=
  (lstM lc__law_far_3)
def lc__law_far_4 : M (List D) :=
  (lcM (rngM (consM (varM 5) nilM)) [9] (gN 9) (retM true) el__law_far_4)
def bd__law_far_1 : M Out :=
  (seqM (ifM (boolM (bin2 eqD (varM 1) (kI 0))) (retM .bk) nxM) (seqM (ifM (boolM (bin2 eqD (bin2 modD (callM intG (consM (varM 1) nilM)) (kI 2)) (kI 1))) (setS 6 (evD (callM den__law_times (consM (varM 6) (consM (varM 7) (consM (varM 2) nilM)))))) nxM) (parS 7 1 (evD (callM den__law_times (consM (varM 7) (consM (varM 7) (consM (varM 2) nilM))))) (evD (bin2 fdivD (varM 1) (kI 2))))))
def lp__law_far_1 : M Out :=
  (forS (rngM (consM (kI 12) nilM)) (gN 8) bd__law_far_1)
def el__law_far_5 : M D :=
  (bin2 mulD (ixM (cmD (ixM (cmD (varM 6)) (bin2 subD (varM 5) (kI 1)))) (varM 10)) (ixM (cmD (varM 4)) (bin2 subD (bin2 subD (varM 5) (kI 1)) (varM 10))))
def lc__law_far_5 : M (List D) :=
  (lcM (rngM (consM (varM 5) nilM)) [10] (gN 10) (retM true) el__law_far_5)
def u__law_far : M Out :=
  (seqM (asgS (gtup (gcons (gN 3) (gcons (gN 4) g0))) (varM 0)) (seqM (setS 5 (evD (lenM (cmD (varM 3))))) (seqM (setS 6 (evD (lstM lc__law_far_2))) (seqM (frzS 7 (setS 7 (evO lc__law_far_4))) (seqM lp__law_far_1 (retS (bin2 modD (callM intG (consM (sumM (cmD (lstM lc__law_far_5))) nilM)) (varM 2))))))))
def den__law_far : List D → Option D := runD N__law_far u__law_far
theorem run__law_far (x0 x1 x2 : D) : den__law_far [x0, x1, x2] = (match u__law_far [.d x0, .d x1, .d x2, .no, .no, .no, .no, .no, .no, .no, .no] with
  | some (.ret d, _) => some d
  | some (.nx, _) => some .none
  | some (.ro ds, _) => some (.list ds)
  | _ => none) := runD_eq _ _ _ _ rfl
def el_law_1 : M D :=
  (callPM 1 den__law_integer (consM (kI 99) nilM))
def lc_law_1 : M (List D) :=
  (lcM (itM (cmD (varM 6))) [14] (gN 14) (retM true) el_law_1)
def el_law_2 : M D :=
  (bin2 addD (ixM (cmD (varM 7)) (varM 15)) (bin2 mulD (kI 3) (ixM (cmD (ixM (cmD (varM 8)) (kI 1))) (varM 15))))
def lc_law_2 : M (List D) :=
  (lcM (rngM (consM (lenM (cmD (varM 6))) nilM)) [15] (gN 15) (retM true) el_law_2)
def bd_law_1 : M Out :=
  (ifM (boolM (bin2 neD (bin2 modD (bin2 subD (varM 11) (callM den__law_far (consM (varM 3) (consM (varM 10) (consM (varM 12) nilM))))) (varM 12)) (kI 0))) (retS (kB false)) nxM)
def lp_law_1 : M Out :=
  (forS (itM (cmD (lstM (consM (bin2 addD (bin2 powD (kI 10) (kI 9)) (kI 7)) (consM (kI 998244353) (consM (bin2 subD (bin2 powD (kI 2) (kI 61)) (kI 1)) nilM)))))) (gN 12) bd_law_1)
def bd_law_2 : M Out :=
  (seqM (setS 3 (evD (callPM 1 den__law_recurrence (consM (kI 3) (consM (ixM (cmD (lstM (consM (kI 9) (consM (kI 999) nilM)))) (callPM 1 den__law_take (consM (kI 2) nilM))) nilM))))) (seqM (setS 4 (evD (callM den__law_terms (consM (varM 3) (consM (kI 80) nilM))))) (seqM (setS 5 (evD (callPM 1 den__law_take (consM (kI 80) nilM)))) (seqM (ifM (notT (boolM (callM (den__law_same 6) (consM (lstM (consM (callM den_term (consM (varM 3) (consM (varM 5) nilM))) (consM (callKM den_term [1, 0] nilM (consM (varM 5) (consM (varM 3) nilM))) (consM (callM den_is_recurrence (consM (varM 3) nilM)) (consM (callKM den_is_recurrence [0] nilM (consM (varM 3) nilM)) nilM))))) (consM (lstM (consM (ixM (cmD (varM 4)) (varM 5)) (consM (ixM (cmD (varM 4)) (varM 5)) (consM (kB true) (consM (kB true) nilM))))) nilM))))) (retS (kB false)) nxM) (seqM (asgS (gtup (gcons (gN 6) (gcons (gN 7) g0))) (varM 3)) (seqM (setS 8 (evD (tupM (consM (varM 6) (consM (tupOfM (cmD (lstM lc_law_1))) nilM))))) (seqM (setS 9 (evD (tupM (consM (varM 6) (consM (tupOfM (cmD (lstM lc_law_2))) nilM))))) (seqM (ifM (notT (boolM (callM (den__law_same 6) (consM (callM den_term (consM (varM 9) (consM (varM 5) nilM))) (consM (bin2 addD (ixM (cmD (varM 4)) (varM 5)) (bin2 mulD (kI 3) (ixM (cmD (callM den__law_terms (consM (varM 8) (consM (kI 80) nilM)))) (varM 5)))) nilM))))) (retS (kB false)) nxM) (seqM (setS 10 (evD (callPM 1 den__law_take (consM (kI 1001) nilM)))) (seqM (setS 11 (evD (callM den_term (consM (varM 3) (consM (varM 10) nilM))))) (seqM (ifM (orT (notT (boolM (isinM Ty.int (varM 11)))) (boolM (isinM Ty.bool (varM 11)))) (retS (kB false)) nxM) (seqM lp_law_1 (seqM (setS 13 (evD (lstM (consM (tupM (consM (varM 6) (consM (sliceM (cmD (varM 7)) (omS (kI 1)) omN) nilM))) (consM (tupM (consM (bin2 addD (sliceM (cmD (varM 6)) omN (omS (bin1 negD (kI 1)))) (tupM (consM (kI 0) nilM))) (consM (varM 7) nilM))) (consM (tupM (consM (varM 6) nilM)) (consM (tupM (consM (varM 6) (consM (varM 7) (consM (varM 7) nilM)))) (consM (lstM (consM (varM 6) (consM (varM 7) nilM))) (consM (tupM (consM (lstM (listO (cmD (varM 6)))) (consM (varM 7) nilM))) (consM (tupM (consM (tupM nilM) (consM (tupM nilM) nilM))) (consM kN (consM (tupM (consM (varM 6) (consM (bin2 addD (sliceM (cmD (varM 7)) omN (omS (bin1 negD (kI 1)))) (tupM (consM kN nilM))) nilM))) (consM (tupM (consM (bin2 addD (sliceM (cmD (varM 6)) omN (omS (bin1 negD (kI 1)))) (tupM (consM (kB true) nilM))) (consM (varM 7) nilM))) (consM (kS (Str.ofString "a")) (consM (tupM (consM (bin2 addD (varM 6) (tupM (consM (kI 1) nilM))) (consM (varM 7) nilM))) (consM (kI 0) nilM)))))))))))))))) (ifM (notT (boolM (callM (den__law_same 6) (consM (callM den_is_recurrence (consM (ixM (cmD (varM 13)) (callPM 1 den__law_take (consM (kI 13) nilM))) nilM)) (consM (kB false) nilM))))) (retS (kB false)) nxM))))))))))))))
def lp_law_2 : M Out :=
  (forS (rngM (consM (kI 3) nilM)) (gN 2) bd_law_2)
def u_law : M Out :=
  (seqM (setS 1 (evO (callRM 0 den__law_pot))) (seqM lp_law_2 (retS (kB true))))
end PDL
end
noncomputable section
namespace PDL
open PySem L2 PD
/-- the pot: four numbers, then the script's -/
structure PotOk (n : Nat) (p : List D) : Prop where
  ex : ∃ (a b c d : Int) (rest : List Int), p = .int a :: .int b :: .int c :: .int d :: rest.map .int ∧ 0 ≤ b ∧ b < 9223372036854775421 ∧ 0 ≤ c ∧ c ≤ n ∧ 4 ≤ d
theorem PotOk.mono {n m : Nat} {p : List D} (h : PotOk n p) (e : n ≤ m) : PotOk m p := by
  obtain ⟨a, b, c, d, rest, h1, h2, h3, h4, h5, h6⟩ := h.ex
  exact ⟨a, b, c, d, rest, h1, h2, h3, h4, by omega, h6⟩
def tkMix : M Out := seqM (augI 0 iaddD (kI 2) (kI 1)) (seqM (setS 4 (evD (bin2 modD (callM intG (consM (bin2 addD (bin2 mulD (bin2 powD (bin2 addD (ixM (cmO 0) (kI 1)) (bin2 mulD (kI 75979) (ixM (cmO 0) (kI 2)))) (kI 2)) (kI 1181783497276652981)) (bin2 mulD (kI 3) (ixM (cmO 0) (kI 2)))) nilM)) (kI 1180591620717411303449)))) (seqM (setS 4 (evD (bin2 modD (callM intG (consM (bin2 addD (bin2 powD (bin2 addD (varM 4) (kI 88172645463325252)) (kI 2)) (ixM (cmO 0) (kI 1))) nilM)) (kI 340282366920938463463374607431768211297)))) (retS (bin2 modD (callM intG (consM (bin2 fdivD (varM 4) (kI 65536)) nilM)) (varM 1)))))
def tkDiv : M Out := ifM (boolM (bin2 gtD (ixM (cmO 0) (kI 0)) (kI 0))) (seqM (setS 3 (evD (bin2 modD (callM intG (consM (ixM (cmO 0) (kI 0)) nilM)) (varM 1)))) (seqM (stoS 0 (bin2 fdivD (ixM (cmO 0) (kI 0)) (varM 1)) (kI 0)) (retS (varM 3)))) nxM
def tkCell : M Out := ifM (andT (boolM (bin2 eqD (ixM (cmO 0) (kI 0)) (kI 0))) (boolM (bin2 ltD (ixM (cmO 0) (kI 3)) (lenM (cmO 0))))) (seqM (setS 2 (evD (ixM (cmO 0) (ixM (cmO 0) (kI 3))))) (seqM (augI 0 iaddD (kI 3) (kI 1)) (ifM (boolM (bin2 geD (varM 2) (bin2 powD (kI 10) (kI 18)))) (stoS 0 (bin2 subD (varM 2) (bin2 powD (kI 10) (kI 18))) (kI 0)) (stoS 0 (bin2 modD (callM intG (consM (bin2 addD (bin2 addD (bin2 mulD (ixM (cmO 0) (kI 1)) (kI 3202034522624059733)) (bin2 mulD (varM 2) (kI 4253))) (bin2 mulD (kI 7) (ixM (cmO 0) (kI 3)))) nilM)) (kI 9223372036854775421)) (kI 1))))) nxM
theorem tk_parts : u__law_take = seqM tkCell (seqM tkDiv tkMix) := rfl
theorem take_mixed {n : Nat} {a b c d many : Int} {rest : List Int} (s2 s3 : Sl) (hb : 0 ≤ b) (hb2 : b < 9223372036854775421) (hc : 0 ≤ c) (hc2 : c ≤ n) (hn : n < 1099511627776) (hm : 0 < many) :
    ∃ r ρ', tkMix [.pot (.int a :: .int b :: .int c :: .int d :: rest.map .int), .d (.int many), s2, s3, .no] = some (.ret (.int r), .pot (.int a :: .int b :: .int (c + 1) :: .int d :: rest.map .int) :: ρ') ∧ 0 ≤ r ∧ r < many := by
  have h1 : PowOk (b + 75979 * (c + 1)) 2 ↔ True := powOk_2 (by omega)
  have h2 (x : Int) : PowOk (x % 1180591620717411303449 + 88172645463325252) 2 ↔ True := powOk_2 (by omega)
  unfold tkMix
  simp (decide := true) only [mulOk_r, mulOk_l, divOk_s, rgOk_s, powOk_c, Option.bind_some, Int.reduceToNat, Int.reduceNeg, Int.reduceLE, Int.reduceLT, Nat.reduceLT, Nat.reduceLeDiff, Nat.reduceSub, Nat.reduceAdd, Int.reduceAdd, Int.reduceSub, Int.reduceMul, Int.reduceEq, Nat.reduceEqDiff, Int.reducePow, lt0, lt1, lt2, lt3, cmO, ixD, look, looki, eqD, eqB, neD, boolO, cmpI, ltD, leD, gtD, geD, addD, subD, mulD, modD, fdivD, powD, negD, isD, isNotD, isNoneD, intO, ownB, ownL, putL, olAt, dAt, iaddD, isubD, intG, seq_ap, bind_ap, ret_ap, opt_ap, look_ap, var_ap, bin2_ap, bin2o_ap, bin1_ap, chain_ap, bool_ap, andT_ap, orT_ap, notT_ap, andV_ap, orV_ap, if_ap, ite_ap, cons_ap, int_ap, cont_ap, callP_ap, guard_ap, set_ap, par_ap, par3_ap, aug_ap, app_ap, sto_ap, augI_ap, asg_ap, for_ap, frz_ap, atI_pos, atI_neg, ixN_pos, ixN_neg, List.getElem?_cons_zero, List.getElem?_cons_succ, List.set_cons_zero, List.set_cons_succ, Int.le_refl, ↓reduceIte, Option.map_some, Bool.not_true, Bool.not_false, Int.toNat_natCast, List.length_cons, List.length_nil, decide_true, decide_false, decide_eq_true_eq, Bool.false_eq_true, h1, h2, hm]
  exact ⟨_, _, rfl, Int.emod_nonneg _ (by omega), Int.emod_lt_of_pos _ hm⟩
theorem take_cell {n : Nat} {a b c d many : Int} {rest : List Int} (hb : 0 ≤ b) (hb2 : b < 9223372036854775421) (hd : 4 ≤ d) :
    ∃ a' b' d' s2, tkCell [.pot (.int a :: .int b :: .int c :: .int d :: rest.map .int), .d (.int many), .no, .no, .no] = some (.nx, [.pot (.int a' :: .int b' :: .int c :: .int d' :: rest.map .int), .d (.int many), s2, .no, .no]) ∧ 0 ≤ b' ∧ b' < 9223372036854775421 ∧ 4 ≤ d' := by
  unfold tkCell
  by_cases ha : a = 0
  · by_cases hl : d < ((rest.length + 1 + 1 + 1 + 1 : Nat) : Int)
    · obtain ⟨k, rfl⟩ : ∃ k : Nat, d = (k : Int) + 4 := ⟨(d - 4).toNat, by omega⟩
      have hk : k < rest.length := by omega
      have hget : atI (PyData.int 0 :: .int b :: .int c :: .int ((k : Int) + 4) :: rest.map .int) ((k : Int) + 4) = some (.int rest[k]) := by
        rw [atI_pos _ (by omega)]
        have e : ((k : Int) + 4).toNat = k + 1 + 1 + 1 + 1 := by omega
        rw [e]
        simp only [List.getElem?_cons_succ, List.getElem?_map, List.getElem?_eq_getElem hk, Option.map_some]
      by_cases hc : (10 : Int) ^ 18 ≤ rest[k]
      · have hc' : (1000000000000000000 : Int) ≤ rest[k] := hc
        simp (decide := true) only [mulOk_r, mulOk_l, divOk_s, rgOk_s, powOk_c, Option.bind_some, Int.reduceToNat, Int.reduceNeg, Int.reduceLE, Int.reduceLT, Nat.reduceLT, Nat.reduceLeDiff, Nat.reduceSub, Nat.reduceAdd, Int.reduceAdd, Int.reduceSub, Int.reduceMul, Int.reduceEq, Nat.reduceEqDiff, Int.reducePow, lt0, lt1, lt2, lt3, cmO, ixD, look, looki, eqD, eqB, neD, boolO, cmpI, ltD, leD, gtD, geD, addD, subD, mulD, modD, fdivD, powD, negD, isD, isNotD, isNoneD, intO, ownB, ownL, putL, olAt, dAt, iaddD, isubD, intG, seq_ap, bind_ap, ret_ap, opt_ap, look_ap, var_ap, bin2_ap, bin2o_ap, bin1_ap, chain_ap, bool_ap, andT_ap, orT_ap, notT_ap, andV_ap, orV_ap, if_ap, ite_ap, cons_ap, int_ap, cont_ap, callP_ap, guard_ap, set_ap, par_ap, par3_ap, aug_ap, app_ap, sto_ap, augI_ap, asg_ap, for_ap, frz_ap, atI_pos, atI_neg, ixN_pos, ixN_neg, List.getElem?_cons_zero, List.getElem?_cons_succ, List.set_cons_zero, List.set_cons_succ, Int.le_refl, ↓reduceIte, Option.map_some, Bool.not_true, Bool.not_false, Int.toNat_natCast, List.length_cons, List.length_nil, decide_true, decide_false, decide_eq_true_eq, Bool.false_eq_true, ha, hl, hget, List.length_map, hc']
        exact ⟨_, _, _, _, rfl, hb, hb2, by omega⟩
      · have hc' : ¬ (1000000000000000000 : Int) ≤ rest[k] := hc
        simp (decide := true) only [mulOk_r, mulOk_l, divOk_s, rgOk_s, powOk_c, Option.bind_some, Int.reduceToNat, Int.reduceNeg, Int.reduceLE, Int.reduceLT, Nat.reduceLT, Nat.reduceLeDiff, Nat.reduceSub, Nat.reduceAdd, Int.reduceAdd, Int.reduceSub, Int.reduceMul, Int.reduceEq, Nat.reduceEqDiff, Int.reducePow, lt0, lt1, lt2, lt3, cmO, ixD, look, looki, eqD, eqB, neD, boolO, cmpI, ltD, leD, gtD, geD, addD, subD, mulD, modD, fdivD, powD, negD, isD, isNotD, isNoneD, intO, ownB, ownL, putL, olAt, dAt, iaddD, isubD, intG, seq_ap, bind_ap, ret_ap, opt_ap, look_ap, var_ap, bin2_ap, bin2o_ap, bin1_ap, chain_ap, bool_ap, andT_ap, orT_ap, notT_ap, andV_ap, orV_ap, if_ap, ite_ap, cons_ap, int_ap, cont_ap, callP_ap, guard_ap, set_ap, par_ap, par3_ap, aug_ap, app_ap, sto_ap, augI_ap, asg_ap, for_ap, frz_ap, atI_pos, atI_neg, ixN_pos, ixN_neg, List.getElem?_cons_zero, List.getElem?_cons_succ, List.set_cons_zero, List.set_cons_succ, Int.le_refl, ↓reduceIte, Option.map_some, Bool.not_true, Bool.not_false, Int.toNat_natCast, List.length_cons, List.length_nil, decide_true, decide_false, decide_eq_true_eq, Bool.false_eq_true, ha, hl, hget, List.length_map, hc']
        exact ⟨_, _, _, _, rfl, Int.emod_nonneg _ (by decide), Int.emod_lt_of_pos _ (by decide), by omega⟩
    · simp (decide := true) only [mulOk_r, mulOk_l, divOk_s, rgOk_s, powOk_c, Option.bind_some, Int.reduceToNat, Int.reduceNeg, Int.reduceLE, Int.reduceLT, Nat.reduceLT, Nat.reduceLeDiff, Nat.reduceSub, Nat.reduceAdd, Int.reduceAdd, Int.reduceSub, Int.reduceMul, Int.reduceEq, Nat.reduceEqDiff, Int.reducePow, lt0, lt1, lt2, lt3, cmO, ixD, look, looki, eqD, eqB, neD, boolO, cmpI, ltD, leD, gtD, geD, addD, subD, mulD, modD, fdivD, powD, negD, isD, isNotD, isNoneD, intO, ownB, ownL, putL, olAt, dAt, iaddD, isubD, intG, seq_ap, bind_ap, ret_ap, opt_ap, look_ap, var_ap, bin2_ap, bin2o_ap, bin1_ap, chain_ap, bool_ap, andT_ap, orT_ap, notT_ap, andV_ap, orV_ap, if_ap, ite_ap, cons_ap, int_ap, cont_ap, callP_ap, guard_ap, set_ap, par_ap, par3_ap, aug_ap, app_ap, sto_ap, augI_ap, asg_ap, for_ap, frz_ap, atI_pos, atI_neg, ixN_pos, ixN_neg, List.getElem?_cons_zero, List.getElem?_cons_succ, List.set_cons_zero, List.set_cons_succ, Int.le_refl, ↓reduceIte, Option.map_some, Bool.not_true, Bool.not_false, Int.toNat_natCast, List.length_cons, List.length_nil, decide_true, decide_false, decide_eq_true_eq, Bool.false_eq_true, ha, hl, List.length_map]
      exact ⟨_, _, _, _, rfl, hb, hb2, hd⟩
  · simp (decide := true) only [mulOk_r, mulOk_l, divOk_s, rgOk_s, powOk_c, Option.bind_some, Int.reduceToNat, Int.reduceNeg, Int.reduceLE, Int.reduceLT, Nat.reduceLT, Nat.reduceLeDiff, Nat.reduceSub, Nat.reduceAdd, Int.reduceAdd, Int.reduceSub, Int.reduceMul, Int.reduceEq, Nat.reduceEqDiff, Int.reducePow, lt0, lt1, lt2, lt3, cmO, ixD, look, looki, eqD, eqB, neD, boolO, cmpI, ltD, leD, gtD, geD, addD, subD, mulD, modD, fdivD, powD, negD, isD, isNotD, isNoneD, intO, ownB, ownL, putL, olAt, dAt, iaddD, isubD, intG, seq_ap, bind_ap, ret_ap, opt_ap, look_ap, var_ap, bin2_ap, bin2o_ap, bin1_ap, chain_ap, bool_ap, andT_ap, orT_ap, notT_ap, andV_ap, orV_ap, if_ap, ite_ap, cons_ap, int_ap, cont_ap, callP_ap, guard_ap, set_ap, par_ap, par3_ap, aug_ap, app_ap, sto_ap, augI_ap, asg_ap, for_ap, frz_ap, atI_pos, atI_neg, ixN_pos, ixN_neg, List.getElem?_cons_zero, List.getElem?_cons_succ, List.set_cons_zero, List.set_cons_succ, Int.le_refl, ↓reduceIte, Option.map_some, Bool.not_true, Bool.not_false, Int.toNat_natCast, List.length_cons, List.length_nil, decide_true, decide_false, decide_eq_true_eq, Bool.false_eq_true, ha]
    exact ⟨_, _, _, _, rfl, hb, hb2, hd⟩
theorem take_ok {n : Nat} {p : List D} (h : PotOk n p) (hn : n < 1099511627776) {many : Int} (hm : 0 < many) (hm2 : many < 1073741824) : ∃ (r : Int) (p' : List D), den__law_take p [.int many] = some (.int r, p') ∧ 0 ≤ r ∧ r < many ∧ PotOk (n + 1) p' := by
  obtain ⟨a, b, c, d, rest, rfl, h2, h3, h4, h5, h6⟩ := h.ex
  rw [run__law_take, tk_parts]
  obtain ⟨a', b', d', s2, e1, k1, k2, k3⟩ := take_cell (n := n) (a := a) (c := c) (many := many) (rest := rest) h2 h3 h6
  by_cases ha : 0 < a'
  · have e2 : tkDiv [.pot (.int a' :: .int b' :: .int c :: .int d' :: rest.map .int), .d (.int many), s2, .no, .no] = some (.ret (.int (a' % many)), [.pot (.int (a' / many) :: .int b' :: .int c :: .int d' :: rest.map .int), .d (.int many), s2, .d (.int (a' % many)), .no]) := by
      unfold tkDiv
      simp (decide := true) only [mulOk_r, mulOk_l, divOk_s, rgOk_s, powOk_c, Option.bind_some, Int.reduceToNat, Int.reduceNeg, Int.reduceLE, Int.reduceLT, Nat.reduceLT, Nat.reduceLeDiff, Nat.reduceSub, Nat.reduceAdd, Int.reduceAdd, Int.reduceSub, Int.reduceMul, Int.reduceEq, Nat.reduceEqDiff, Int.reducePow, lt0, lt1, lt2, lt3, cmO, ixD, look, looki, eqD, eqB, neD, boolO, cmpI, ltD, leD, gtD, geD, addD, subD, mulD, modD, fdivD, powD, negD, isD, isNotD, isNoneD, intO, ownB, ownL, putL, olAt, dAt, iaddD, isubD, intG, seq_ap, bind_ap, ret_ap, opt_ap, look_ap, var_ap, bin2_ap, bin2o_ap, bin1_ap, chain_ap, bool_ap, andT_ap, orT_ap, notT_ap, andV_ap, orV_ap, if_ap, ite_ap, cons_ap, int_ap, cont_ap, callP_ap, guard_ap, set_ap, par_ap, par3_ap, aug_ap, app_ap, sto_ap, augI_ap, asg_ap, for_ap, frz_ap, atI_pos, atI_neg, ixN_pos, ixN_neg, List.getElem?_cons_zero, List.getElem?_cons_succ, List.set_cons_zero, List.set_cons_succ, Int.le_refl, ↓reduceIte, Option.map_some, Bool.not_true, Bool.not_false, Int.toNat_natCast, List.length_cons, List.length_nil, decide_true, decide_false, decide_eq_true_eq, Bool.false_eq_true, ha, hm, hm2]
    simp only [seq_ap, e1, e2]
    exact ⟨_, _, rfl, Int.emod_nonneg _ (by omega), Int.emod_lt_of_pos _ hm, ⟨_, _, _, _, _, rfl, k1, k2, h4, by omega, k3⟩⟩
  · have e2 : tkDiv [.pot (.int a' :: .int b' :: .int c :: .int d' :: rest.map .int), .d (.int many), s2, .no, .no] = some (.nx, [.pot (.int a' :: .int b' :: .int c :: .int d' :: rest.map .int), .d (.int many), s2, .no, .no]) := by
      unfold tkDiv
      simp (decide := true) only [mulOk_r, mulOk_l, divOk_s, rgOk_s, powOk_c, Option.bind_some, Int.reduceToNat, Int.reduceNeg, Int.reduceLE, Int.reduceLT, Nat.reduceLT, Nat.reduceLeDiff, Nat.reduceSub, Nat.reduceAdd, Int.reduceAdd, Int.reduceSub, Int.reduceMul, Int.reduceEq, Nat.reduceEqDiff, Int.reducePow, lt0, lt1, lt2, lt3, cmO, ixD, look, looki, eqD, eqB, neD, boolO, cmpI, ltD, leD, gtD, geD, addD, subD, mulD, modD, fdivD, powD, negD, isD, isNotD, isNoneD, intO, ownB, ownL, putL, olAt, dAt, iaddD, isubD, intG, seq_ap, bind_ap, ret_ap, opt_ap, look_ap, var_ap, bin2_ap, bin2o_ap, bin1_ap, chain_ap, bool_ap, andT_ap, orT_ap, notT_ap, andV_ap, orV_ap, if_ap, ite_ap, cons_ap, int_ap, cont_ap, callP_ap, guard_ap, set_ap, par_ap, par3_ap, aug_ap, app_ap, sto_ap, augI_ap, asg_ap, for_ap, frz_ap, atI_pos, atI_neg, ixN_pos, ixN_neg, List.getElem?_cons_zero, List.getElem?_cons_succ, List.set_cons_zero, List.set_cons_succ, Int.le_refl, ↓reduceIte, Option.map_some, Bool.not_true, Bool.not_false, Int.toNat_natCast, List.length_cons, List.length_nil, decide_true, decide_false, decide_eq_true_eq, Bool.false_eq_true, ha]
    obtain ⟨r, ρ', e3, r0, r1⟩ := take_mixed (n := n) (a := a') (d := d') (rest := rest) s2 .no k1 k2 h4 h5 hn hm
    simp only [seq_ap, e1, e2, e3]
    exact ⟨r, _, rfl, r0, r1, ⟨_, _, _, _, _, rfl, k1, k2, by omega, by omega, k3⟩⟩
end PDL
end
noncomputable section
namespace PDL
open PySem L2 PD
/-! ### tuples of integers -/
abbrev mI (ns : List Int) : List D := ns.map .int
abbrev tupI (ns : List Int) : D := .tuple (mI ns)
theorem ints_map (ns : List Int) : intsO (mI ns) = some ns := by
  induction ns with
  | nil => rfl
  | cons n ns ih => show (match intO (.int n), intsO (mI ns) with | some i, some r => some (i :: r) | _, _ => none) = _; rw [ih]
theorem bools_map (ns : List Bool) : boolsO (ns.map .bool) = some ns := by
  induction ns with
  | nil => rfl
  | cons n ns ih => show (match boolO (.bool n), boolsO (ns.map .bool) with | some i, some r => some (i :: r) | _, _ => none) = _; rw [ih]
def isIntB : D → Bool
  | .int _ => true
  | _ => false
theorem is_integer_eq (d : D) : den_is_integer [d] = some (.bool (isIntB d)) := by
  rw [run_is_integer, u_is_integer]
  cases d <;> simp (decide := true) only [gtup, gcons, gN, g0, List.length_map, listG, mulOk_r, mulOk_l, divOk_s, rgOk_s, powOk_c, Option.bind_some, Int.reduceToNat, Int.reduceNeg, Int.reduceLE, Int.reduceLT, Nat.reduceLT, Nat.reduceLeDiff, Nat.reduceSub, Nat.reduceAdd, Int.reduceAdd, Int.reduceSub, Int.reduceMul, Int.reduceEq, Nat.reduceEqDiff, Int.reducePow, lt0, lt1, lt2, lt3, cmO, ixD, look, looki, eqD, eqB, neD, boolO, cmpI, ltD, leD, gtD, geD, addD, subD, mulD, modD, fdivD, powD, negD, isD, isNotD, isNoneD, intO, ownB, ownL, putL, olAt, dAt, iaddD, isubD, intG, seq_ap, bind_ap, ret_ap, opt_ap, look_ap, var_ap, bin2_ap, bin2o_ap, bin1_ap, chain_ap, bool_ap, andT_ap, orT_ap, notT_ap, andV_ap, orV_ap, if_ap, ite_ap, cons_ap, int_ap, cont_ap, callP_ap, guard_ap, set_ap, par_ap, par3_ap, aug_ap, app_ap, sto_ap, augI_ap, asg_ap, for_ap, frz_ap, atI_pos, atI_neg, ixN_pos, ixN_neg, List.getElem?_cons_zero, List.getElem?_cons_succ, List.set_cons_zero, List.set_cons_succ, Int.le_refl, ↓reduceIte, Option.map_some, Bool.not_true, Bool.not_false, Int.toNat_natCast, List.length_cons, List.length_nil, decide_true, decide_false, decide_eq_true_eq, Bool.false_eq_true, Ty.has, isIntB]
theorem el_are (d : D) (s : Sl) : el_are_integers_1 [s, .d d] = some (.bool (isIntB d), [s, .d d]) := by
  unfold el_are_integers_1
  simp (decide := true) only [gtup, gcons, gN, g0, List.length_map, listG, mulOk_r, mulOk_l, divOk_s, rgOk_s, powOk_c, Option.bind_some, Int.reduceToNat, Int.reduceNeg, Int.reduceLE, Int.reduceLT, Nat.reduceLT, Nat.reduceLeDiff, Nat.reduceSub, Nat.reduceAdd, Int.reduceAdd, Int.reduceSub, Int.reduceMul, Int.reduceEq, Nat.reduceEqDiff, Int.reducePow, lt0, lt1, lt2, lt3, cmO, ixD, look, looki, eqD, eqB, neD, boolO, cmpI, ltD, leD, gtD, geD, addD, subD, mulD, modD, fdivD, powD, negD, isD, isNotD, isNoneD, intO, ownB, ownL, putL, olAt, dAt, iaddD, isubD, intG, seq_ap, bind_ap, ret_ap, opt_ap, look_ap, var_ap, bin2_ap, bin2o_ap, bin1_ap, chain_ap, bool_ap, andT_ap, orT_ap, notT_ap, andV_ap, orV_ap, if_ap, ite_ap, cons_ap, int_ap, cont_ap, callP_ap, guard_ap, set_ap, par_ap, par3_ap, aug_ap, app_ap, sto_ap, augI_ap, asg_ap, for_ap, frz_ap, atI_pos, atI_neg, ixN_pos, ixN_neg, List.getElem?_cons_zero, List.getElem?_cons_succ, List.set_cons_zero, List.set_cons_succ, Int.le_refl, ↓reduceIte, Option.map_some, Bool.not_true, Bool.not_false, Int.toNat_natCast, List.length_cons, List.length_nil, decide_true, decide_false, decide_eq_true_eq, Bool.false_eq_true, is_integer_eq]
def areB : D → Bool
  | .tuple xs => xs.all isIntB
  | _ => false
theorem lc_are (xs : List D) (h : xs.length < 16000000) : lc_are_integers_1 [.d (.tuple xs), .no] = some ((xs.map isIntB).map .bool, [.d (.tuple xs), .no]) := by
  have := lc_map (fi := itM (cmD (varM 0))) (vs := [1]) (ft := gN 1) (tt := retM true) (fe := el_are_integers_1) (ρ := [.d (.tuple xs), .no]) (ρf := [.d (.tuple xs), .no]) (ds := xs) [.d (.tuple xs), .no] (fun d => .bool (isIntB d))
    (by simp (decide := true) only [gtup, gcons, gN, g0, List.length_map, listG, mulOk_r, mulOk_l, divOk_s, rgOk_s, powOk_c, Option.bind_some, Int.reduceToNat, Int.reduceNeg, Int.reduceLE, Int.reduceLT, Nat.reduceLT, Nat.reduceLeDiff, Nat.reduceSub, Nat.reduceAdd, Int.reduceAdd, Int.reduceSub, Int.reduceMul, Int.reduceEq, Nat.reduceEqDiff, Int.reducePow, lt0, lt1, lt2, lt3, cmO, ixD, look, looki, eqD, eqB, neD, boolO, cmpI, ltD, leD, gtD, geD, addD, subD, mulD, modD, fdivD, powD, negD, isD, isNotD, isNoneD, intO, ownB, ownL, putL, olAt, dAt, iaddD, isubD, intG, seq_ap, bind_ap, ret_ap, opt_ap, look_ap, var_ap, bin2_ap, bin2o_ap, bin1_ap, chain_ap, bool_ap, andT_ap, orT_ap, notT_ap, andV_ap, orV_ap, if_ap, ite_ap, cons_ap, int_ap, cont_ap, callP_ap, guard_ap, set_ap, par_ap, par3_ap, aug_ap, app_ap, sto_ap, augI_ap, asg_ap, for_ap, frz_ap, atI_pos, atI_neg, ixN_pos, ixN_neg, List.getElem?_cons_zero, List.getElem?_cons_succ, List.set_cons_zero, List.set_cons_succ, Int.le_refl, ↓reduceIte, Option.map_some, Bool.not_true, Bool.not_false, Int.toNat_natCast, List.length_cons, List.length_nil, decide_true, decide_false, decide_eq_true_eq, Bool.false_eq_true]) h rfl (fun d _ => ⟨[.d (.tuple xs), .d d], [.d (.tuple xs), .d d], rfl, rfl, el_are d _, rfl⟩)
  unfold lc_are_integers_1
  rw [this, List.map_map]
  rfl
theorem are_integers_eq (d : D) (h : ∀ xs, d = .tuple xs → xs.length < 16000000) : den_are_integers [d] = some (.bool (areB d)) := by
  rw [run_are_integers, u_are_integers]
  cases d with
  | tuple xs =>
    simp (decide := true) only [gtup, gcons, gN, g0, List.length_map, listG, mulOk_r, mulOk_l, divOk_s, rgOk_s, powOk_c, Option.bind_some, Int.reduceToNat, Int.reduceNeg, Int.reduceLE, Int.reduceLT, Nat.reduceLT, Nat.reduceLeDiff, Nat.reduceSub, Nat.reduceAdd, Int.reduceAdd, Int.reduceSub, Int.reduceMul, Int.reduceEq, Nat.reduceEqDiff, Int.reducePow, lt0, lt1, lt2, lt3, cmO, ixD, look, looki, eqD, eqB, neD, boolO, cmpI, ltD, leD, gtD, geD, addD, subD, mulD, modD, fdivD, powD, negD, isD, isNotD, isNoneD, intO, ownB, ownL, putL, olAt, dAt, iaddD, isubD, intG, seq_ap, bind_ap, ret_ap, opt_ap, look_ap, var_ap, bin2_ap, bin2o_ap, bin1_ap, chain_ap, bool_ap, andT_ap, orT_ap, notT_ap, andV_ap, orV_ap, if_ap, ite_ap, cons_ap, int_ap, cont_ap, callP_ap, guard_ap, set_ap, par_ap, par3_ap, aug_ap, app_ap, sto_ap, augI_ap, asg_ap, for_ap, frz_ap, atI_pos, atI_neg, ixN_pos, ixN_neg, List.getElem?_cons_zero, List.getElem?_cons_succ, List.set_cons_zero, List.set_cons_succ, Int.le_refl, ↓reduceIte, Option.map_some, Bool.not_true, Bool.not_false, Int.toNat_natCast, List.length_cons, List.length_nil, decide_true, decide_false, decide_eq_true_eq, Bool.false_eq_true, Ty.has, areB, lc_are xs (h xs rfl), bools_map]
    simp [List.all_map, Function.comp_def]
  | _ => simp (decide := true) only [gtup, gcons, gN, g0, List.length_map, listG, mulOk_r, mulOk_l, divOk_s, rgOk_s, powOk_c, Option.bind_some, Int.reduceToNat, Int.reduceNeg, Int.reduceLE, Int.reduceLT, Nat.reduceLT, Nat.reduceLeDiff, Nat.reduceSub, Nat.reduceAdd, Int.reduceAdd, Int.reduceSub, Int.reduceMul, Int.reduceEq, Nat.reduceEqDiff, Int.reducePow, lt0, lt1, lt2, lt3, cmO, ixD, look, looki, eqD, eqB, neD, boolO, cmpI, ltD, leD, gtD, geD, addD, subD, mulD, modD, fdivD, powD, negD, isD, isNotD, isNoneD, intO, ownB, ownL, putL, olAt, dAt, iaddD, isubD, intG, seq_ap, bind_ap, ret_ap, opt_ap, look_ap, var_ap, bin2_ap, bin2o_ap, bin1_ap, chain_ap, bool_ap, andT_ap, orT_ap, notT_ap, andV_ap, orV_ap, if_ap, ite_ap, cons_ap, int_ap, cont_ap, callP_ap, guard_ap, set_ap, par_ap, par3_ap, aug_ap, app_ap, sto_ap, augI_ap, asg_ap, for_ap, frz_ap, atI_pos, atI_neg, ixN_pos, ixN_neg, List.getElem?_cons_zero, List.getElem?_cons_succ, List.set_cons_zero, List.set_cons_succ, Int.le_refl, ↓reduceIte, Option.map_some, Bool.not_true, Bool.not_false, Int.toNat_natCast, List.length_cons, List.length_nil, decide_true, decide_false, decide_eq_true_eq, Bool.false_eq_true, Ty.has, areB]
theorem isInt_map (ns : List Int) : (mI ns).all isIntB = true := by simp [isIntB]
theorem canLay_ints (ns : List Int) : PyData.canLayAll0 (mI ns) = true := by
  induction ns with
  | nil => rfl
  | cons n ns ih => show (PyData.canLay0 (.int n) && PyData.canLayAll0 (mI ns)) = true; rw [ih]; rfl
theorem depth_ints (ns : List Int) : PyData.depthAll (mI ns) ≤ 1 := by
  induction ns with
  | nil => decide
  | cons n ns ih => show max (PyData.depth (.int n)) (PyData.depthAll (mI ns)) ≤ 1; exact Nat.max_le.2 ⟨by show PyData.depth (.int n) ≤ 1; unfold PyData.depth; omega, ih⟩
theorem shaped_tupI (ns : List Int) : SeqAt.shaped (tupI ns) = true := by
  unfold SeqAt.shaped
  rw [Bool.and_eq_true]
  refine ⟨canLay_ints ns, decide_eq_true ?_⟩
  have := depth_ints ns
  show PyData.depth (.tuple (mI ns)) ≤ 64
  unfold PyData.depth
  omega
theorem shaped_nil : SeqAt.shaped (.tuple []) = true := shaped_tupI []
theorem eqv_nil (ns : List Int) : PyData.eqv (tupI ns) (.tuple []) = decide (ns = []) := by
  cases ns <;> rfl
/-! ### is_recurrence -/
theorem lc_isrec (xs : List D) (h : xs.length < 16000000) (h2 : ∀ ys, .tuple ys ∈ xs → ys.length < 16000000) : lc_is_recurrence_of_1 [.d (.tuple xs), .no] = some ((xs.map areB).map .bool, [.d (.tuple xs), .no]) := by
  have := lc_map (fi := itM (cmD (varM 0))) (vs := [1]) (ft := gN 1) (tt := retM true) (fe := el_is_recurrence_of_1) (ρ := [.d (.tuple xs), .no]) (ρf := [.d (.tuple xs), .no]) (ds := xs) [.d (.tuple xs), .no] (fun d => .bool (areB d))
    (by simp (decide := true) only [gtup, gcons, gN, g0, List.length_map, listG, mulOk_r, mulOk_l, divOk_s, rgOk_s, powOk_c, Option.bind_some, Int.reduceToNat, Int.reduceNeg, Int.reduceLE, Int.reduceLT, Nat.reduceLT, Nat.reduceLeDiff, Nat.reduceSub, Nat.reduceAdd, Int.reduceAdd, Int.reduceSub, Int.reduceMul, Int.reduceEq, Nat.reduceEqDiff, Int.reducePow, lt0, lt1, lt2, lt3, cmO, ixD, look, looki, eqD, eqB, neD, boolO, cmpI, ltD, leD, gtD, geD, addD, subD, mulD, modD, fdivD, powD, negD, isD, isNotD, isNoneD, intO, ownB, ownL, putL, olAt, dAt, iaddD, isubD, intG, seq_ap, bind_ap, ret_ap, opt_ap, look_ap, var_ap, bin2_ap, bin2o_ap, bin1_ap, chain_ap, bool_ap, andT_ap, orT_ap, notT_ap, andV_ap, orV_ap, if_ap, ite_ap, cons_ap, int_ap, cont_ap, callP_ap, guard_ap, set_ap, par_ap, par3_ap, aug_ap, app_ap, sto_ap, augI_ap, asg_ap, for_ap, frz_ap, atI_pos, atI_neg, ixN_pos, ixN_neg, List.getElem?_cons_zero, List.getElem?_cons_succ, List.set_cons_zero, List.set_cons_succ, Int.le_refl, ↓reduceIte, Option.map_some, Bool.not_true, Bool.not_false, Int.toNat_natCast, List.length_cons, List.length_nil, decide_true, decide_false, decide_eq_true_eq, Bool.false_eq_true]) h rfl (fun d hd => ⟨[.d (.tuple xs), .d d], [.d (.tuple xs), .d d], rfl, rfl, by
      unfold el_is_recurrence_of_1
      simp (decide := true) only [gtup, gcons, gN, g0, List.length_map, listG, mulOk_r, mulOk_l, divOk_s, rgOk_s, powOk_c, Option.bind_some, Int.reduceToNat, Int.reduceNeg, Int.reduceLE, Int.reduceLT, Nat.reduceLT, Nat.reduceLeDiff, Nat.reduceSub, Nat.reduceAdd, Int.reduceAdd, Int.reduceSub, Int.reduceMul, Int.reduceEq, Nat.reduceEqDiff, Int.reducePow, lt0, lt1, lt2, lt3, cmO, ixD, look, looki, eqD, eqB, neD, boolO, cmpI, ltD, leD, gtD, geD, addD, subD, mulD, modD, fdivD, powD, negD, isD, isNotD, isNoneD, intO, ownB, ownL, putL, olAt, dAt, iaddD, isubD, intG, seq_ap, bind_ap, ret_ap, opt_ap, look_ap, var_ap, bin2_ap, bin2o_ap, bin1_ap, chain_ap, bool_ap, andT_ap, orT_ap, notT_ap, andV_ap, orV_ap, if_ap, ite_ap, cons_ap, int_ap, cont_ap, callP_ap, guard_ap, set_ap, par_ap, par3_ap, aug_ap, app_ap, sto_ap, augI_ap, asg_ap, for_ap, frz_ap, atI_pos, atI_neg, ixN_pos, ixN_neg, List.getElem?_cons_zero, List.getElem?_cons_succ, List.set_cons_zero, List.set_cons_succ, Int.le_refl, ↓reduceIte, Option.map_some, Bool.not_true, Bool.not_false, Int.toNat_natCast, List.length_cons, List.length_nil, decide_true, decide_false, decide_eq_true_eq, Bool.false_eq_true, are_integers_eq d (fun ys e => h2 ys (e ▸ hd))], rfl⟩)
  unfold lc_is_recurrence_of_1
  rw [this, List.map_map]
  rfl
theorem isrec_no (d : D) (h : ∀ xs, d ≠ .tuple xs) : den_is_recurrence_of [d] = some (.bool false) := by
  rw [run_is_recurrence_of, u_is_recurrence_of]
  cases d with
  | tuple xs => exact absurd rfl (h xs)
  | _ => simp (decide := true) only [gtup, gcons, gN, g0, List.length_map, listG, mulOk_r, mulOk_l, divOk_s, rgOk_s, powOk_c, Option.bind_some, Int.reduceToNat, Int.reduceNeg, Int.reduceLE, Int.reduceLT, Nat.reduceLT, Nat.reduceLeDiff, Nat.reduceSub, Nat.reduceAdd, Int.reduceAdd, Int.reduceSub, Int.reduceMul, Int.reduceEq, Nat.reduceEqDiff, Int.reducePow, lt0, lt1, lt2, lt3, cmO, ixD, look, looki, eqD, eqB, neD, boolO, cmpI, ltD, leD, gtD, geD, addD, subD, mulD, modD, fdivD, powD, negD, isD, isNotD, isNoneD, intO, ownB, ownL, putL, olAt, dAt, iaddD, isubD, intG, seq_ap, bind_ap, ret_ap, opt_ap, look_ap, var_ap, bin2_ap, bin2o_ap, bin1_ap, chain_ap, bool_ap, andT_ap, orT_ap, notT_ap, andV_ap, orV_ap, if_ap, ite_ap, cons_ap, int_ap, cont_ap, callP_ap, guard_ap, set_ap, par_ap, par3_ap, aug_ap, app_ap, sto_ap, augI_ap, asg_ap, for_ap, frz_ap, atI_pos, atI_neg, ixN_pos, ixN_neg, List.getElem?_cons_zero, List.getElem?_cons_succ, List.set_cons_zero, List.set_cons_succ, Int.le_refl, ↓reduceIte, Option.map_some, Bool.not_true, Bool.not_false, Int.toNat_natCast, List.length_cons, List.length_nil, decide_true, decide_false, decide_eq_true_eq, Bool.false_eq_true, Ty.has]
theorem isrec_len (xs : List D) (h : xs.length ≠ 2) : den_is_recurrence_of [.tuple xs] = some (.bool false) := by
  rw [run_is_recurrence_of, u_is_recurrence_of]
  have e : ((xs.length : Int) = 2) = False := eq_false (by omega)
  simp (decide := true) only [gtup, gcons, gN, g0, List.length_map, listG, mulOk_r, mulOk_l, divOk_s, rgOk_s, powOk_c, Option.bind_some, Int.reduceToNat, Int.reduceNeg, Int.reduceLE, Int.reduceLT, Nat.reduceLT, Nat.reduceLeDiff, Nat.reduceSub, Nat.reduceAdd, Int.reduceAdd, Int.reduceSub, Int.reduceMul, Int.reduceEq, Nat.reduceEqDiff, Int.reducePow, lt0, lt1, lt2, lt3, cmO, ixD, look, looki, eqD, eqB, neD, boolO, cmpI, ltD, leD, gtD, geD, addD, subD, mulD, modD, fdivD, powD, negD, isD, isNotD, isNoneD, intO, ownB, ownL, putL, olAt, dAt, iaddD, isubD, intG, seq_ap, bind_ap, ret_ap, opt_ap, look_ap, var_ap, bin2_ap, bin2o_ap, bin1_ap, chain_ap, bool_ap, andT_ap, orT_ap, notT_ap, andV_ap, orV_ap, if_ap, ite_ap, cons_ap, int_ap, cont_ap, callP_ap, guard_ap, set_ap, par_ap, par3_ap, aug_ap, app_ap, sto_ap, augI_ap, asg_ap, for_ap, frz_ap, atI_pos, atI_neg, ixN_pos, ixN_neg, List.getElem?_cons_zero, List.getElem?_cons_succ, List.set_cons_zero, List.set_cons_succ, Int.le_refl, ↓reduceIte, Option.map_some, Bool.not_true, Bool.not_false, Int.toNat_natCast, List.length_cons, List.length_nil, decide_true, decide_false, decide_eq_true_eq, Bool.false_eq_true, Ty.has, e]
theorem isrec_not (xs ys : D) (h : ∀ zs, .tuple zs ∈ [xs, ys] → zs.length < 16000000) (hb : (areB xs && areB ys) = false) : den_is_recurrence_of [.tuple [xs, ys]] = some (.bool false) := by
  rw [run_is_recurrence_of, u_is_recurrence_of]
  have e := lc_isrec [xs, ys] (by simp) h
  have b : boolsO [.bool (areB xs), .bool (areB ys)] = some [areB xs, areB ys] := rfl
  simp only [List.map_cons, List.map_nil] at e
  simp (decide := true) only [gtup, gcons, gN, g0, List.length_map, listG, mulOk_r, mulOk_l, divOk_s, rgOk_s, powOk_c, Option.bind_some, Int.reduceToNat, Int.reduceNeg, Int.reduceLE, Int.reduceLT, Nat.reduceLT, Nat.reduceLeDiff, Nat.reduceSub, Nat.reduceAdd, Int.reduceAdd, Int.reduceSub, Int.reduceMul, Int.reduceEq, Nat.reduceEqDiff, Int.reducePow, lt0, lt1, lt2, lt3, cmO, ixD, look, looki, eqD, eqB, neD, boolO, cmpI, ltD, leD, gtD, geD, addD, subD, mulD, modD, fdivD, powD, negD, isD, isNotD, isNoneD, intO, ownB, ownL, putL, olAt, dAt, iaddD, isubD, intG, seq_ap, bind_ap, ret_ap, opt_ap, look_ap, var_ap, bin2_ap, bin2o_ap, bin1_ap, chain_ap, bool_ap, andT_ap, orT_ap, notT_ap, andV_ap, orV_ap, if_ap, ite_ap, cons_ap, int_ap, cont_ap, callP_ap, guard_ap, set_ap, par_ap, par3_ap, aug_ap, app_ap, sto_ap, augI_ap, asg_ap, for_ap, frz_ap, atI_pos, atI_neg, ixN_pos, ixN_neg, List.getElem?_cons_zero, List.getElem?_cons_succ, List.set_cons_zero, List.set_cons_succ, Int.le_refl, ↓reduceIte, Option.map_some, Bool.not_true, Bool.not_false, Int.toNat_natCast, List.length_cons, List.length_nil, decide_true, decide_false, decide_eq_true_eq, Bool.false_eq_true, Ty.has, e, b, List.all_cons, List.all_nil, Bool.and_true, hb]
theorem isrec_pair (a u : List Int) (ha : a.length < 16000000) (hu : u.length < 16000000) : den_is_recurrence_of [.tuple [tupI a, tupI u]] = some (.bool (decide (a.length = u.length) && (!decide (a = []) && !decide (a.getLast? = some 0)))) := by
  rw [run_is_recurrence_of, u_is_recurrence_of]
  have e := lc_isrec [tupI a, tupI u] (by simp) (fun ys hy => by
    simp only [List.mem_cons, PyData.tuple.injEq, List.not_mem_nil, or_false] at hy
    rcases hy with rfl | rfl <;> simpa)
  have b : boolsO [.bool true, .bool true] = some [true, true] := rfl
  have k1 : areB (tupI a) = true := isInt_map a
  have k2 : areB (tupI u) = true := isInt_map u
  simp only [List.map_cons, List.map_nil] at e
  rw [k1, k2] at e
  by_cases hl : a.length = u.length
  · by_cases hn : a = []
    · subst hn
      have hu0 : u = [] := List.eq_nil_of_length_eq_zero hl.symm
      subst hu0
      simp (decide := true) only [gtup, gcons, gN, g0, List.length_map, listG, mulOk_r, mulOk_l, divOk_s, rgOk_s, powOk_c, Option.bind_some, Int.reduceToNat, Int.reduceNeg, Int.reduceLE, Int.reduceLT, Nat.reduceLT, Nat.reduceLeDiff, Nat.reduceSub, Nat.reduceAdd, Int.reduceAdd, Int.reduceSub, Int.reduceMul, Int.reduceEq, Nat.reduceEqDiff, Int.reducePow, lt0, lt1, lt2, lt3, cmO, ixD, look, looki, eqD, eqB, neD, boolO, cmpI, ltD, leD, gtD, geD, addD, subD, mulD, modD, fdivD, powD, negD, isD, isNotD, isNoneD, intO, ownB, ownL, putL, olAt, dAt, iaddD, isubD, intG, seq_ap, bind_ap, ret_ap, opt_ap, look_ap, var_ap, bin2_ap, bin2o_ap, bin1_ap, chain_ap, bool_ap, andT_ap, orT_ap, notT_ap, andV_ap, orV_ap, if_ap, ite_ap, cons_ap, int_ap, cont_ap, callP_ap, guard_ap, set_ap, par_ap, par3_ap, aug_ap, app_ap, sto_ap, augI_ap, asg_ap, for_ap, frz_ap, atI_pos, atI_neg, ixN_pos, ixN_neg, List.getElem?_cons_zero, List.getElem?_cons_succ, List.set_cons_zero, List.set_cons_succ, Int.le_refl, ↓reduceIte, Option.map_some, Bool.not_true, Bool.not_false, Int.toNat_natCast, List.length_cons, List.length_nil, decide_true, decide_false, decide_eq_true_eq, Bool.false_eq_true, Ty.has, e, b, List.all_cons, List.all_nil, Bool.and_true, List.length_map, List.map_nil, shaped_nil]
      rfl
    · obtain ⟨x, hx⟩ : ∃ x, a.getLast? = some x := by
        cases h : a.getLast? with
        | none => exact absurd (List.getLast?_eq_none_iff.1 h) hn
        | some x => exact ⟨x, rfl⟩
      have h1 : 1 ≤ a.length := by
        cases a with
        | nil => exact absurd rfl hn
        | cons _ _ => simp
      have e1 : (mI a)[u.length - 1]? = some (.int x) := by
        rw [← hl, ← List.length_map (f := PyData.int) (as := a), ← List.getLast?_eq_getElem?, List.getLast?_map, hx]; rfl
      have h2 : 1 ≤ u.length := hl ▸ h1
      simp (decide := true) only [gtup, gcons, gN, g0, List.length_map, listG, mulOk_r, mulOk_l, divOk_s, rgOk_s, powOk_c, Option.bind_some, Int.reduceToNat, Int.reduceNeg, Int.reduceLE, Int.reduceLT, Nat.reduceLT, Nat.reduceLeDiff, Nat.reduceSub, Nat.reduceAdd, Int.reduceAdd, Int.reduceSub, Int.reduceMul, Int.reduceEq, Nat.reduceEqDiff, Int.reducePow, lt0, lt1, lt2, lt3, cmO, ixD, look, looki, eqD, eqB, neD, boolO, cmpI, ltD, leD, gtD, geD, addD, subD, mulD, modD, fdivD, powD, negD, isD, isNotD, isNoneD, intO, ownB, ownL, putL, olAt, dAt, iaddD, isubD, intG, seq_ap, bind_ap, ret_ap, opt_ap, look_ap, var_ap, bin2_ap, bin2o_ap, bin1_ap, chain_ap, bool_ap, andT_ap, orT_ap, notT_ap, andV_ap, orV_ap, if_ap, ite_ap, cons_ap, int_ap, cont_ap, callP_ap, guard_ap, set_ap, par_ap, par3_ap, aug_ap, app_ap, sto_ap, augI_ap, asg_ap, for_ap, frz_ap, atI_pos, atI_neg, ixN_pos, ixN_neg, List.getElem?_cons_zero, List.getElem?_cons_succ, List.set_cons_zero, List.set_cons_succ, Int.le_refl, ↓reduceIte, Option.map_some, Bool.not_true, Bool.not_false, Int.toNat_natCast, List.length_cons, List.length_nil, decide_true, decide_false, decide_eq_true_eq, Bool.false_eq_true, Ty.has, e, b, List.all_cons, List.all_nil, Bool.and_true, List.length_map, shaped_nil, shaped_tupI, eqv_nil, hl, hn, hx, e1, h2, Bool.true_and, Option.some.injEq]
  · have e0 : (((a.length : Nat) : Int) = ((u.length : Nat) : Int)) = False := eq_false (by omega)
    simp (decide := true) only [gtup, gcons, gN, g0, List.length_map, listG, mulOk_r, mulOk_l, divOk_s, rgOk_s, powOk_c, Option.bind_some, Int.reduceToNat, Int.reduceNeg, Int.reduceLE, Int.reduceLT, Nat.reduceLT, Nat.reduceLeDiff, Nat.reduceSub, Nat.reduceAdd, Int.reduceAdd, Int.reduceSub, Int.reduceMul, Int.reduceEq, Nat.reduceEqDiff, Int.reducePow, lt0, lt1, lt2, lt3, cmO, ixD, look, looki, eqD, eqB, neD, boolO, cmpI, ltD, leD, gtD, geD, addD, subD, mulD, modD, fdivD, powD, negD, isD, isNotD, isNoneD, intO, ownB, ownL, putL, olAt, dAt, iaddD, isubD, intG, seq_ap, bind_ap, ret_ap, opt_ap, look_ap, var_ap, bin2_ap, bin2o_ap, bin1_ap, chain_ap, bool_ap, andT_ap, orT_ap, notT_ap, andV_ap, orV_ap, if_ap, ite_ap, cons_ap, int_ap, cont_ap, callP_ap, guard_ap, set_ap, par_ap, par3_ap, aug_ap, app_ap, sto_ap, augI_ap, asg_ap, for_ap, frz_ap, atI_pos, atI_neg, ixN_pos, ixN_neg, List.getElem?_cons_zero, List.getElem?_cons_succ, List.set_cons_zero, List.set_cons_succ, Int.le_refl, ↓reduceIte, Option.map_some, Bool.not_true, Bool.not_false, Int.toNat_natCast, List.length_cons, List.length_nil, decide_true, decide_false, decide_eq_true_eq, Bool.false_eq_true, Ty.has, e, b, List.all_cons, List.all_nil, Bool.and_true, List.length_map, e0, hl, Bool.false_and]
theorem is_recurrence_eq {d : D} {b : Bool} (h : den_is_recurrence_of [d] = some (.bool b)) : den_is_recurrence [d] = some (.bool b) := by
  rw [run_is_recurrence, u_is_recurrence]
  simp (decide := true) only [gtup, gcons, gN, g0, List.length_map, listG, mulOk_r, mulOk_l, divOk_s, rgOk_s, powOk_c, Option.bind_some, Int.reduceToNat, Int.reduceNeg, Int.reduceLE, Int.reduceLT, Nat.reduceLT, Nat.reduceLeDiff, Nat.reduceSub, Nat.reduceAdd, Int.reduceAdd, Int.reduceSub, Int.reduceMul, Int.reduceEq, Nat.reduceEqDiff, Int.reducePow, lt0, lt1, lt2, lt3, cmO, ixD, look, looki, eqD, eqB, neD, boolO, cmpI, ltD, leD, gtD, geD, addD, subD, mulD, modD, fdivD, powD, negD, isD, isNotD, isNoneD, intO, ownB, ownL, putL, olAt, dAt, iaddD, isubD, intG, seq_ap, bind_ap, ret_ap, opt_ap, look_ap, var_ap, bin2_ap, bin2o_ap, bin1_ap, chain_ap, bool_ap, andT_ap, orT_ap, notT_ap, andV_ap, orV_ap, if_ap, ite_ap, cons_ap, int_ap, cont_ap, callP_ap, guard_ap, set_ap, par_ap, par3_ap, aug_ap, app_ap, sto_ap, augI_ap, asg_ap, for_ap, frz_ap, atI_pos, atI_neg, ixN_pos, ixN_neg, List.getElem?_cons_zero, List.getElem?_cons_succ, List.set_cons_zero, List.set_cons_succ, Int.le_refl, ↓reduceIte, Option.map_some, Bool.not_true, Bool.not_false, Int.toNat_natCast, List.length_cons, List.length_nil, decide_true, decide_false, decide_eq_true_eq, Bool.false_eq_true, h]
theorem check_rec {d : D} (h : den_is_recurrence_of [d] = some (.bool true)) : den_check_recurrence [d] = some .none := by
  rw [run_check_recurrence, u_check_recurrence]
  simp (decide := true) only [gtup, gcons, gN, g0, List.length_map, listG, mulOk_r, mulOk_l, divOk_s, rgOk_s, powOk_c, Option.bind_some, Int.reduceToNat, Int.reduceNeg, Int.reduceLE, Int.reduceLT, Nat.reduceLT, Nat.reduceLeDiff, Nat.reduceSub, Nat.reduceAdd, Int.reduceAdd, Int.reduceSub, Int.reduceMul, Int.reduceEq, Nat.reduceEqDiff, Int.reducePow, lt0, lt1, lt2, lt3, cmO, ixD, look, looki, eqD, eqB, neD, boolO, cmpI, ltD, leD, gtD, geD, addD, subD, mulD, modD, fdivD, powD, negD, isD, isNotD, isNoneD, intO, ownB, ownL, putL, olAt, dAt, iaddD, isubD, intG, seq_ap, bind_ap, ret_ap, opt_ap, look_ap, var_ap, bin2_ap, bin2o_ap, bin1_ap, chain_ap, bool_ap, andT_ap, orT_ap, notT_ap, andV_ap, orV_ap, if_ap, ite_ap, cons_ap, int_ap, cont_ap, callP_ap, guard_ap, set_ap, par_ap, par3_ap, aug_ap, app_ap, sto_ap, augI_ap, asg_ap, for_ap, frz_ap, atI_pos, atI_neg, ixN_pos, ixN_neg, List.getElem?_cons_zero, List.getElem?_cons_succ, List.set_cons_zero, List.set_cons_succ, Int.le_refl, ↓reduceIte, Option.map_some, Bool.not_true, Bool.not_false, Int.toNat_natCast, List.length_cons, List.length_nil, decide_true, decide_false, decide_eq_true_eq, Bool.false_eq_true, h]
theorem check_from_ok {n : Int} (h : 0 ≤ n) : den_check_from [.int n, .int 0] = some .none := by
  have h2 : ¬ n < 0 := by omega
  rw [run_check_from, u_check_from]
  simp (decide := true) only [gtup, gcons, gN, g0, List.length_map, listG, mulOk_r, mulOk_l, divOk_s, rgOk_s, powOk_c, Option.bind_some, Int.reduceToNat, Int.reduceNeg, Int.reduceLE, Int.reduceLT, Nat.reduceLT, Nat.reduceLeDiff, Nat.reduceSub, Nat.reduceAdd, Int.reduceAdd, Int.reduceSub, Int.reduceMul, Int.reduceEq, Nat.reduceEqDiff, Int.reducePow, lt0, lt1, lt2, lt3, cmO, ixD, look, looki, eqD, eqB, neD, boolO, cmpI, ltD, leD, gtD, geD, addD, subD, mulD, modD, fdivD, powD, negD, isD, isNotD, isNoneD, intO, ownB, ownL, putL, olAt, dAt, iaddD, isubD, intG, seq_ap, bind_ap, ret_ap, opt_ap, look_ap, var_ap, bin2_ap, bin2o_ap, bin1_ap, chain_ap, bool_ap, andT_ap, orT_ap, notT_ap, andV_ap, orV_ap, if_ap, ite_ap, cons_ap, int_ap, cont_ap, callP_ap, guard_ap, set_ap, par_ap, par3_ap, aug_ap, app_ap, sto_ap, augI_ap, asg_ap, for_ap, frz_ap, atI_pos, atI_neg, ixN_pos, ixN_neg, List.getElem?_cons_zero, List.getElem?_cons_succ, List.set_cons_zero, List.set_cons_succ, Int.le_refl, ↓reduceIte, Option.map_some, Bool.not_true, Bool.not_false, Int.toNat_natCast, List.length_cons, List.length_nil, decide_true, decide_false, decide_eq_true_eq, Bool.false_eq_true, is_integer_eq, isIntB, h2]
/-! ### the terms -/
def dot (a xs : List Int) : Int := (List.zipWith (· * ·) a xs).sum
def gr (a : List Int) (xs : List Int) : Nat → List Int
  | 0 => xs
  | k + 1 => gr a xs k ++ [dot a (gr a xs k).reverse]
theorem gr_length (a xs : List Int) (k : Nat) : (gr a xs k).length = xs.length + k := by
  induction k with
  | zero => rfl
  | succ k ih => simp [gr, ih]; omega
def small (a : List Int) : Prop := ∀ x ∈ a, x.natAbs < 18446744073709551616
def mulH : D → D
  | .tuple [.int x, .int y] => .int (x * y)
  | d => d
theorem zip_mul : ∀ (a b : List Int), (zip2 (mI a) (mI b)).map mulH = mI (List.zipWith (· * ·) a b)
  | [], _ => rfl
  | _ :: _, [] => rfl
  | x :: a, y :: b => by
    have := zip_mul a b
    simp only [zip2, mI, List.map_cons, List.zip_cons_cons, List.zipWith_cons_cons, mulH] at this ⊢
    rw [this]
theorem zip_mem {a b : List Int} {d : D} (h : d ∈ zip2 (mI a) (mI b)) : ∃ x y, d = .tuple [.int x, .int y] ∧ x ∈ a := by
  simp only [zip2, mI, List.mem_map] at h
  obtain ⟨⟨p, q⟩, hm, rfl⟩ := h
  have h1 := List.of_mem_zip hm
  simp only [List.mem_map] at h1
  obtain ⟨⟨x, hx, rfl⟩, ⟨y, _, rfl⟩⟩ := h1
  exact ⟨x, y, rfl, hx⟩
theorem lc_tt (a xs : List Int) (r m : D) (h : small a) (hl : a.length < 16000000) : lc_terms_to_1 [.d r, .d m, .d (tupI a), .ol (mI xs), .no, .no] = some (mI (List.zipWith (· * ·) a xs.reverse), [.d r, .d m, .d (tupI a), .ol (mI xs), .no, .no]) := by
  have e : (mI xs).reverse = mI xs.reverse := by simp
  have := lc_map (fi := zipM (cmD (varM 2)) (cmD (revM (cmO 3)))) (vs := [4, 5]) (ft := gtup (gcons (gN 4) (gcons (gN 5) g0))) (tt := retM true) (fe := el_terms_to_1) (ρ := [.d r, .d m, .d (tupI a), .ol (mI xs), .no, .no]) (ρf := [.d r, .d m, .d (tupI a), .ol (mI xs), .no, .no]) (ds := zip2 (mI a) (mI xs.reverse)) [.d r, .d m, .d (tupI a), .ol (mI xs), .no, .no] mulH
    (by simp (decide := true) only [gtup, gcons, gN, g0, List.length_map, listG, mulOk_r, mulOk_l, divOk_s, rgOk_s, powOk_c, Option.bind_some, Int.reduceToNat, Int.reduceNeg, Int.reduceLE, Int.reduceLT, Nat.reduceLT, Nat.reduceLeDiff, Nat.reduceSub, Nat.reduceAdd, Int.reduceAdd, Int.reduceSub, Int.reduceMul, Int.reduceEq, Nat.reduceEqDiff, Int.reducePow, lt0, lt1, lt2, lt3, cmO, ixD, look, looki, eqD, eqB, neD, boolO, cmpI, ltD, leD, gtD, geD, addD, subD, mulD, modD, fdivD, powD, negD, isD, isNotD, isNoneD, intO, ownB, ownL, putL, olAt, dAt, iaddD, isubD, intG, seq_ap, bind_ap, ret_ap, opt_ap, look_ap, var_ap, bin2_ap, bin2o_ap, bin1_ap, chain_ap, bool_ap, andT_ap, orT_ap, notT_ap, andV_ap, orV_ap, if_ap, ite_ap, cons_ap, int_ap, cont_ap, callP_ap, guard_ap, set_ap, par_ap, par3_ap, aug_ap, app_ap, sto_ap, augI_ap, asg_ap, for_ap, frz_ap, atI_pos, atI_neg, ixN_pos, ixN_neg, List.getElem?_cons_zero, List.getElem?_cons_succ, List.set_cons_zero, List.set_cons_succ, Int.le_refl, ↓reduceIte, Option.map_some, Bool.not_true, Bool.not_false, Int.toNat_natCast, List.length_cons, List.length_nil, decide_true, decide_false, decide_eq_true_eq, Bool.false_eq_true, revD, e]) (by simp [zip2]; omega) rfl (fun d hd => by
      obtain ⟨x, y, rfl, hx⟩ := zip_mem hd
      have hs := h x hx
      refine ⟨[.d r, .d m, .d (tupI a), .ol (mI xs), .d (.int x), .d (.int y)], [.d r, .d m, .d (tupI a), .ol (mI xs), .d (.int x), .d (.int y)], rfl, rfl, ?_, rfl⟩
      unfold el_terms_to_1
      simp (decide := true) only [gtup, gcons, gN, g0, List.length_map, listG, mulOk_r, mulOk_l, divOk_s, rgOk_s, powOk_c, Option.bind_some, Int.reduceToNat, Int.reduceNeg, Int.reduceLE, Int.reduceLT, Nat.reduceLT, Nat.reduceLeDiff, Nat.reduceSub, Nat.reduceAdd, Int.reduceAdd, Int.reduceSub, Int.reduceMul, Int.reduceEq, Nat.reduceEqDiff, Int.reducePow, lt0, lt1, lt2, lt3, cmO, ixD, look, looki, eqD, eqB, neD, boolO, cmpI, ltD, leD, gtD, geD, addD, subD, mulD, modD, fdivD, powD, negD, isD, isNotD, isNoneD, intO, ownB, ownL, putL, olAt, dAt, iaddD, isubD, intG, seq_ap, bind_ap, ret_ap, opt_ap, look_ap, var_ap, bin2_ap, bin2o_ap, bin1_ap, chain_ap, bool_ap, andT_ap, orT_ap, notT_ap, andV_ap, orV_ap, if_ap, ite_ap, cons_ap, int_ap, cont_ap, callP_ap, guard_ap, set_ap, par_ap, par3_ap, aug_ap, app_ap, sto_ap, augI_ap, asg_ap, for_ap, frz_ap, atI_pos, atI_neg, ixN_pos, ixN_neg, List.getElem?_cons_zero, List.getElem?_cons_succ, List.set_cons_zero, List.set_cons_succ, Int.le_refl, ↓reduceIte, Option.map_some, Bool.not_true, Bool.not_false, Int.toNat_natCast, List.length_cons, List.length_nil, decide_true, decide_false, decide_eq_true_eq, Bool.false_eq_true, mulOk_l hs, mulH])
  unfold lc_terms_to_1
  rw [this, zip_mul]
  rfl
theorem bd_tt (a xs : List Int) (r m : D) (h : small a) (hl : a.length < 16000000) (hx : xs.length < 16000000) : bd_terms_to_1 [.d r, .d m, .d (tupI a), .ol (mI xs), .no, .no] = some (.nx, [.d r, .d m, .d (tupI a), .ol (mI (xs ++ [dot a xs.reverse])), .no, .no]) := by
  unfold bd_terms_to_1
  simp (decide := true) only [gtup, gcons, gN, g0, List.length_map, listG, mulOk_r, mulOk_l, divOk_s, rgOk_s, powOk_c, Option.bind_some, Int.reduceToNat, Int.reduceNeg, Int.reduceLE, Int.reduceLT, Nat.reduceLT, Nat.reduceLeDiff, Nat.reduceSub, Nat.reduceAdd, Int.reduceAdd, Int.reduceSub, Int.reduceMul, Int.reduceEq, Nat.reduceEqDiff, Int.reducePow, lt0, lt1, lt2, lt3, cmO, ixD, look, looki, eqD, eqB, neD, boolO, cmpI, ltD, leD, gtD, geD, addD, subD, mulD, modD, fdivD, powD, negD, isD, isNotD, isNoneD, intO, ownB, ownL, putL, olAt, dAt, iaddD, isubD, intG, seq_ap, bind_ap, ret_ap, opt_ap, look_ap, var_ap, bin2_ap, bin2o_ap, bin1_ap, chain_ap, bool_ap, andT_ap, orT_ap, notT_ap, andV_ap, orV_ap, if_ap, ite_ap, cons_ap, int_ap, cont_ap, callP_ap, guard_ap, set_ap, par_ap, par3_ap, aug_ap, app_ap, sto_ap, augI_ap, asg_ap, for_ap, frz_ap, atI_pos, atI_neg, ixN_pos, ixN_neg, List.getElem?_cons_zero, List.getElem?_cons_succ, List.set_cons_zero, List.set_cons_succ, Int.le_refl, ↓reduceIte, Option.map_some, Bool.not_true, Bool.not_false, Int.toNat_natCast, List.length_cons, List.length_nil, decide_true, decide_false, decide_eq_true_eq, Bool.false_eq_true, lc_tt a xs r m h hl, ints_map, List.length_map, hx, dot, mI, List.map_append, List.map_cons, List.map_nil]
theorem lp_tt (a u : List Int) (r : D) (m : Nat) (h : small a) (hl : a.length < 16000000) (hu : u.length ≤ 1500) (hm : m ≤ 1500) : lp_terms_to_1 [.d r, .d (.int m), .d (tupI a), .ol (mI u), .no, .no] = some (.nx, [.d r, .d (.int m), .d (tupI a), .ol (mI (gr a u (m - u.length))), .no, .no]) := by
  obtain ⟨ρ', e, h2⟩ := while_nx (c := ts_terms_to_1) (body := bd_terms_to_1) (fun n ρ => ∃ k, n + k = m - u.length ∧ ρ = [.d r, .d (.int m), .d (tupI a), .ol (mI (gr a u k)), .no, .no]) (fun ρ => ρ = [.d r, .d (.int m), .d (tupI a), .ol (mI (gr a u (m - u.length))), .no, .no]) FUEL (m - u.length) [.d r, .d (.int m), .d (tupI a), .ol (mI u), .no, .no] (by unfold FUEL; omega) ⟨0, rfl, rfl⟩ (by
    rintro n ρ ⟨k, hk, rfl⟩
    have hg := gr_length a u k
    have et : ts_terms_to_1 [.d r, .d (.int m), .d (tupI a), .ol (mI (gr a u k)), .no, .no] = some (decide (((u.length + k : Nat) : Int) < (m : Int)), [.d r, .d (.int m), .d (tupI a), .ol (mI (gr a u k)), .no, .no]) := by
      unfold ts_terms_to_1
      simp (decide := true) only [gtup, gcons, gN, g0, List.length_map, listG, mulOk_r, mulOk_l, divOk_s, rgOk_s, powOk_c, Option.bind_some, Int.reduceToNat, Int.reduceNeg, Int.reduceLE, Int.reduceLT, Nat.reduceLT, Nat.reduceLeDiff, Nat.reduceSub, Nat.reduceAdd, Int.reduceAdd, Int.reduceSub, Int.reduceMul, Int.reduceEq, Nat.reduceEqDiff, Int.reducePow, lt0, lt1, lt2, lt3, cmO, ixD, look, looki, eqD, eqB, neD, boolO, cmpI, ltD, leD, gtD, geD, addD, subD, mulD, modD, fdivD, powD, negD, isD, isNotD, isNoneD, intO, ownB, ownL, putL, olAt, dAt, iaddD, isubD, intG, seq_ap, bind_ap, ret_ap, opt_ap, look_ap, var_ap, bin2_ap, bin2o_ap, bin1_ap, chain_ap, bool_ap, andT_ap, orT_ap, notT_ap, andV_ap, orV_ap, if_ap, ite_ap, cons_ap, int_ap, cont_ap, callP_ap, guard_ap, set_ap, par_ap, par3_ap, aug_ap, app_ap, sto_ap, augI_ap, asg_ap, for_ap, frz_ap, atI_pos, atI_neg, ixN_pos, ixN_neg, List.getElem?_cons_zero, List.getElem?_cons_succ, List.set_cons_zero, List.set_cons_succ, Int.le_refl, ↓reduceIte, Option.map_some, Bool.not_true, Bool.not_false, Int.toNat_natCast, List.length_cons, List.length_nil, decide_true, decide_false, decide_eq_true_eq, Bool.false_eq_true, List.length_map, hg]
    rw [et]
    by_cases hc : ((u.length + k : Nat) : Int) < (m : Int)
    · refine .inr ⟨_, _, n - 1, by rw [decide_eq_true hc], .inl (bd_tt a _ r _ h hl (by omega)), by omega, k + 1, by omega, rfl⟩
    · refine .inl ⟨_, by rw [decide_eq_false hc], ?_⟩
      rw [show k = m - u.length by omega])
  subst h2
  exact e
theorem cut_to (ds : List D) (m : Nat) : cutD ds none (some (m : Int)) = ds.take m := by
  unfold cutD
  rw [HT.sIx_none, HT.sIx_nat, List.drop_zero, Nat.sub_zero]
  by_cases h : m ≤ ds.length
  · rw [Nat.min_eq_left h]
  · rw [Nat.min_eq_right (by omega), List.take_of_length_le (by omega), List.take_of_length_le (by omega)]
theorem terms_to_eq (a u : List Int) (m : Nat) (h : small a) (hl : a.length < 16000000) (hu : u.length ≤ 1500) (hm : m ≤ 1500) : den_terms_to [.tuple [tupI a, tupI u], .int m] = some (.list (mI ((gr a u (m - u.length)).take m))) := by
  rw [run_terms_to, u_terms_to]
  simp (decide := true) only [gtup, gcons, gN, g0, List.length_map, listG, mulOk_r, mulOk_l, divOk_s, rgOk_s, powOk_c, Option.bind_some, Int.reduceToNat, Int.reduceNeg, Int.reduceLE, Int.reduceLT, Nat.reduceLT, Nat.reduceLeDiff, Nat.reduceSub, Nat.reduceAdd, Int.reduceAdd, Int.reduceSub, Int.reduceMul, Int.reduceEq, Nat.reduceEqDiff, Int.reducePow, lt0, lt1, lt2, lt3, cmO, ixD, look, looki, eqD, eqB, neD, boolO, cmpI, ltD, leD, gtD, geD, addD, subD, mulD, modD, fdivD, powD, negD, isD, isNotD, isNoneD, intO, ownB, ownL, putL, olAt, dAt, iaddD, isubD, intG, seq_ap, bind_ap, ret_ap, opt_ap, look_ap, var_ap, bin2_ap, bin2o_ap, bin1_ap, chain_ap, bool_ap, andT_ap, orT_ap, notT_ap, andV_ap, orV_ap, if_ap, ite_ap, cons_ap, int_ap, cont_ap, callP_ap, guard_ap, set_ap, par_ap, par3_ap, aug_ap, app_ap, sto_ap, augI_ap, asg_ap, for_ap, frz_ap, atI_pos, atI_neg, ixN_pos, ixN_neg, List.getElem?_cons_zero, List.getElem?_cons_succ, List.set_cons_zero, List.set_cons_succ, Int.le_refl, ↓reduceIte, Option.map_some, Bool.not_true, Bool.not_false, Int.toNat_natCast, List.length_cons, List.length_nil, decide_true, decide_false, decide_eq_true_eq, Bool.false_eq_true, lp_tt a u _ m h hl hu hm, sliceD, cut_to]
  simp only [mI, List.map_take]
/-- a recurrence of the law -/
structure Rec (a u : List Int) : Prop where
  l1 : 1 ≤ a.length
  l3 : a.length ≤ 3
  lu : u.length = a.length
  sa : ∀ x ∈ a, x.natAbs < 1000
  su : ∀ x ∈ u, x.natAbs < 100000
  z : a.getLast? ≠ some 0
theorem Rec.small {a u : List Int} (h : Rec a u) : small a := fun x hx => Nat.lt_trans (h.sa x hx) (by decide)
theorem Rec.isrec {a u : List Int} (h : Rec a u) : den_is_recurrence_of [.tuple [tupI a, tupI u]] = some (.bool true) := by
  rw [isrec_pair a u (by have := h.l3; omega) (by have := h.l3; have := h.lu; omega)]
  have h1 : a ≠ [] := fun e => by have := h.l1; rw [e] at this; simp at this
  simp [h.lu, h1, h.z]
/-- the n-th term -/
def T (a u : List Int) (n : Nat) : Int := ((gr a u n)[n]?).getD 0
theorem gr_pre (a u : List Int) (k : Nat) : ∀ (n i : Nat), i < u.length + k → (gr a u (k + n))[i]? = (gr a u k)[i]?
  | 0, i, _ => rfl
  | n + 1, i, h => by
    show (gr a u (k + n) ++ [_])[i]? = _
    rw [List.getElem?_append_left (by rw [gr_length]; omega)]
    exact gr_pre a u k n i h
theorem gr_T {a u : List Int} {k i : Nat} (h : i < u.length + k) (hu : 1 ≤ u.length) : (gr a u k)[i]? = some (T a u i) := by
  unfold T
  have e : (gr a u k)[i]? = (gr a u i)[i]? := by
    by_cases hk : k ≤ i
    · have := gr_pre a u k (i - k) i h
      rw [show k + (i - k) = i by omega] at this
      exact this.symm
    · have := gr_pre a u i (k - i) i (by omega)
      rw [show i + (k - i) = k by omega] at this
      exact this
  rw [e]
  have : i < (gr a u i).length := by rw [gr_length]; omega
  rw [List.getElem?_eq_getElem this]; rfl
theorem term_eq {a u : List Int} (h : Rec a u) (n : Nat) (hn : n ≤ 1400) : den_term [.tuple [tupI a, tupI u], .int n] = some (.int (T a u n)) := by
  have h3 := h.l3
  have hlu := h.lu
  have h1 := h.l1
  rw [run_term, u_term]
  have e := terms_to_eq a u (n + 1) h.small (by omega) (by omega) (by omega)
  have e2 : (mI ((gr a u (n + 1 - u.length)).take (n + 1)))[n]? = some (.int (T a u n)) := by
    rw [List.getElem?_map, List.getElem?_take_of_lt (by omega), gr_T (by omega) (by omega)]; rfl
  have e3 : ((n + 1 : Nat) : Int) = (n : Int) + 1 := by omega
  rw [e3] at e
  have e4 : den_check_from [.int (n : Int), .int 0] = some .none := check_from_ok (by omega)
  simp (decide := true) only [gtup, gcons, gN, g0, List.length_map, listG, mulOk_r, mulOk_l, divOk_s, rgOk_s, powOk_c, Option.bind_some, Int.reduceToNat, Int.reduceNeg, Int.reduceLE, Int.reduceLT, Nat.reduceLT, Nat.reduceLeDiff, Nat.reduceSub, Nat.reduceAdd, Int.reduceAdd, Int.reduceSub, Int.reduceMul, Int.reduceEq, Nat.reduceEqDiff, Int.reducePow, lt0, lt1, lt2, lt3, cmO, ixD, look, looki, eqD, eqB, neD, boolO, cmpI, ltD, leD, gtD, geD, addD, subD, mulD, modD, fdivD, powD, negD, isD, isNotD, isNoneD, intO, ownB, ownL, putL, olAt, dAt, iaddD, isubD, intG, seq_ap, bind_ap, ret_ap, opt_ap, look_ap, var_ap, bin2_ap, bin2o_ap, bin1_ap, chain_ap, bool_ap, andT_ap, orT_ap, notT_ap, andV_ap, orV_ap, if_ap, ite_ap, cons_ap, int_ap, cont_ap, callP_ap, guard_ap, set_ap, par_ap, par3_ap, aug_ap, app_ap, sto_ap, augI_ap, asg_ap, for_ap, frz_ap, atI_pos, atI_neg, ixN_pos, ixN_neg, List.getElem?_cons_zero, List.getElem?_cons_succ, List.set_cons_zero, List.set_cons_succ, Int.le_refl, ↓reduceIte, Option.map_some, Bool.not_true, Bool.not_false, Int.toNat_natCast, List.length_cons, List.length_nil, decide_true, decide_false, decide_eq_true_eq, Bool.false_eq_true, check_rec h.isrec, e4, e, e2, Int.natCast_nonneg]
/-! ### the law's own terms -/
def mul2H (a xs : List Int) (n : Nat) : D → D
  | .int i => .int ((a[i.toNat]?).getD 0 * (xs[n - 1 - i.toNat]?).getD 0)
  | d => d
theorem dot_list (a xs : List Int) (h : a.length ≤ xs.length) : (rangeD 0 a.length).map (mul2H a xs xs.length) = mI (List.zipWith (· * ·) a xs.reverse) := by
  apply List.ext_getElem?
  intro i
  simp only [rangeD, List.map_map, List.getElem?_map, mI]
  by_cases hi : i < a.length
  · have hz : i < (List.zipWith (· * ·) a xs.reverse).length := by simp; omega
    rw [List.getElem?_eq_getElem (by simp; omega : i < (List.range ((a.length : Int) - 0).toNat).length), List.getElem?_eq_getElem hz]
    have hx : xs.length - 1 - i < xs.length := by omega
    simp [mul2H, hi, hx]
  · rw [List.getElem?_eq_none (by simp; omega), List.getElem?_eq_none (by simp; omega)]
    rfl
theorem lc_lt (a u xs : List Int) (r m : D) (h : small a) (hl : a.length ≤ 1500) (hx : a.length ≤ xs.length) : lc__law_terms_1 [.d r, .d m, .d (tupI a), .d (tupI u), .ol (mI xs), .d (.int xs.length), .no] = some (mI (List.zipWith (· * ·) a xs.reverse), [.d r, .d m, .d (tupI a), .d (tupI u), .ol (mI xs), .d (.int xs.length), .no]) := by
  have hr : RgOk ((a.length : Nat) : Int) ↔ True := rgOk_s (by omega) (by omega)
  have := lc_map (fi := rngM (consM (lenM (cmD (varM 2))) nilM)) (vs := [6]) (ft := gN 6) (tt := retM true) (fe := el__law_terms_1) (ρ := [.d r, .d m, .d (tupI a), .d (tupI u), .ol (mI xs), .d (.int xs.length), .no]) (ρf := [.d r, .d m, .d (tupI a), .d (tupI u), .ol (mI xs), .d (.int xs.length), .no]) (ds := rangeD 0 a.length) [.d r, .d m, .d (tupI a), .d (tupI u), .ol (mI xs), .d (.int xs.length), .no] (mul2H a xs xs.length)
    (by simp (decide := true) only [gtup, gcons, gN, g0, List.length_map, listG, mulOk_r, mulOk_l, divOk_s, rgOk_s, powOk_c, Option.bind_some, Int.reduceToNat, Int.reduceNeg, Int.reduceLE, Int.reduceLT, Nat.reduceLT, Nat.reduceLeDiff, Nat.reduceSub, Nat.reduceAdd, Int.reduceAdd, Int.reduceSub, Int.reduceMul, Int.reduceEq, Nat.reduceEqDiff, Int.reducePow, lt0, lt1, lt2, lt3, cmO, ixD, look, looki, eqD, eqB, neD, boolO, cmpI, ltD, leD, gtD, geD, addD, subD, mulD, modD, fdivD, powD, negD, isD, isNotD, isNoneD, intO, ownB, ownL, putL, olAt, dAt, iaddD, isubD, intG, seq_ap, bind_ap, ret_ap, opt_ap, look_ap, var_ap, bin2_ap, bin2o_ap, bin1_ap, chain_ap, bool_ap, andT_ap, orT_ap, notT_ap, andV_ap, orV_ap, if_ap, ite_ap, cons_ap, int_ap, cont_ap, callP_ap, guard_ap, set_ap, par_ap, par3_ap, aug_ap, app_ap, sto_ap, augI_ap, asg_ap, for_ap, frz_ap, atI_pos, atI_neg, ixN_pos, ixN_neg, List.getElem?_cons_zero, List.getElem?_cons_succ, List.set_cons_zero, List.set_cons_succ, Int.le_refl, ↓reduceIte, Option.map_some, Bool.not_true, Bool.not_false, Int.toNat_natCast, List.length_cons, List.length_nil, decide_true, decide_false, decide_eq_true_eq, Bool.false_eq_true, rangeG, hr]) (by simp [rangeD]; omega) rfl (fun d hd => by
      simp only [rangeD, List.mem_map, List.mem_range] at hd
      obtain ⟨i, hi, rfl⟩ := hd
      have hi2 : i < a.length := by omega
      have e0 : (0 : Int) + (i : Int) = (i : Int) := by omega
      rw [e0]
      refine ⟨[.d r, .d m, .d (tupI a), .d (tupI u), .ol (mI xs), .d (.int xs.length), .d (.int i)], [.d r, .d m, .d (tupI a), .d (tupI u), .ol (mI xs), .d (.int xs.length), .d (.int i)], rfl, rfl, ?_, rfl⟩
      have e1 : (mI a)[i]? = some (.int a[i]) := by simp [hi2]
      have hj : xs.length - 1 - i < xs.length := by omega
      have e2 : (mI xs)[xs.length - 1 - i]? = some (.int xs[xs.length - 1 - i]) := by simp [hj]
      have e3 : ((xs.length : Nat) : Int) - 1 - (i : Int) = ((xs.length - 1 - i : Nat) : Int) := by omega
      have hs := h a[i] (List.getElem_mem hi2)
      unfold el__law_terms_1
      simp (decide := true) only [gtup, gcons, gN, g0, List.length_map, listG, mulOk_r, mulOk_l, divOk_s, rgOk_s, powOk_c, Option.bind_some, Int.reduceToNat, Int.reduceNeg, Int.reduceLE, Int.reduceLT, Nat.reduceLT, Nat.reduceLeDiff, Nat.reduceSub, Nat.reduceAdd, Int.reduceAdd, Int.reduceSub, Int.reduceMul, Int.reduceEq, Nat.reduceEqDiff, Int.reducePow, lt0, lt1, lt2, lt3, cmO, ixD, look, looki, eqD, eqB, neD, boolO, cmpI, ltD, leD, gtD, geD, addD, subD, mulD, modD, fdivD, powD, negD, isD, isNotD, isNoneD, intO, ownB, ownL, putL, olAt, dAt, iaddD, isubD, intG, seq_ap, bind_ap, ret_ap, opt_ap, look_ap, var_ap, bin2_ap, bin2o_ap, bin1_ap, chain_ap, bool_ap, andT_ap, orT_ap, notT_ap, andV_ap, orV_ap, if_ap, ite_ap, cons_ap, int_ap, cont_ap, callP_ap, guard_ap, set_ap, par_ap, par3_ap, aug_ap, app_ap, sto_ap, augI_ap, asg_ap, for_ap, frz_ap, atI_pos, atI_neg, ixN_pos, ixN_neg, List.getElem?_cons_zero, List.getElem?_cons_succ, List.set_cons_zero, List.set_cons_succ, Int.le_refl, ↓reduceIte, Option.map_some, Bool.not_true, Bool.not_false, Int.toNat_natCast, List.length_cons, List.length_nil, decide_true, decide_false, decide_eq_true_eq, Bool.false_eq_true, e1, e3, e2, mulOk_l hs, Int.natCast_nonneg, mul2H]
      simp [hi2, hj])
  unfold lc__law_terms_1
  rw [this, dot_list a xs hx]
  rfl
theorem bd_lt (a u xs : List Int) (r m : D) (h : small a) (hl : a.length ≤ 1500) (hx : a.length ≤ xs.length) (hx2 : xs.length < 16000000) : bd__law_terms_1 [.d r, .d m, .d (tupI a), .d (tupI u), .ol (mI xs), .d (.int xs.length), .no] = some (.nx, [.d r, .d m, .d (tupI a), .d (tupI u), .ol (mI (xs ++ [dot a xs.reverse])), .d (.int xs.length), .no]) := by
  unfold bd__law_terms_1
  simp (decide := true) only [gtup, gcons, gN, g0, List.length_map, listG, mulOk_r, mulOk_l, divOk_s, rgOk_s, powOk_c, Option.bind_some, Int.reduceToNat, Int.reduceNeg, Int.reduceLE, Int.reduceLT, Nat.reduceLT, Nat.reduceLeDiff, Nat.reduceSub, Nat.reduceAdd, Int.reduceAdd, Int.reduceSub, Int.reduceMul, Int.reduceEq, Nat.reduceEqDiff, Int.reducePow, lt0, lt1, lt2, lt3, cmO, ixD, look, looki, eqD, eqB, neD, boolO, cmpI, ltD, leD, gtD, geD, addD, subD, mulD, modD, fdivD, powD, negD, isD, isNotD, isNoneD, intO, ownB, ownL, putL, olAt, dAt, iaddD, isubD, intG, seq_ap, bind_ap, ret_ap, opt_ap, look_ap, var_ap, bin2_ap, bin2o_ap, bin1_ap, chain_ap, bool_ap, andT_ap, orT_ap, notT_ap, andV_ap, orV_ap, if_ap, ite_ap, cons_ap, int_ap, cont_ap, callP_ap, guard_ap, set_ap, par_ap, par3_ap, aug_ap, app_ap, sto_ap, augI_ap, asg_ap, for_ap, frz_ap, atI_pos, atI_neg, ixN_pos, ixN_neg, List.getElem?_cons_zero, List.getElem?_cons_succ, List.set_cons_zero, List.set_cons_succ, Int.le_refl, ↓reduceIte, Option.map_some, Bool.not_true, Bool.not_false, Int.toNat_natCast, List.length_cons, List.length_nil, decide_true, decide_false, decide_eq_true_eq, Bool.false_eq_true, lc_lt a u xs r m h hl hx, ints_map, List.length_map, hx2, dot, mI, List.map_append, List.map_cons, List.map_nil]
theorem lp_lt (a u : List Int) (r : D) (m : Nat) (h : small a) (hl : a.length = u.length) (hu : u.length ≤ 1500) (hm : m ≤ 1500) (h0 : u.length ≤ m) : ∃ s, lp__law_terms_1 [.d r, .d (.int m), .d (tupI a), .d (tupI u), .ol (mI u), .no, .no] = some (.nx, [.d r, .d (.int m), .d (tupI a), .d (tupI u), .ol (mI (gr a u (m - u.length))), s, .no]) := by
  have hr1 : RgOk ((u.length : Nat) : Int) ↔ True := rgOk_s (by omega) (by omega)
  have hr2 : RgOk ((m : Nat) : Int) ↔ True := rgOk_s (by omega) (by omega)
  have hlen : (rangeD (u.length : Int) (m : Int)).length = m - u.length := by simp [rangeD]
  obtain ⟨ρ', e, s, h2⟩ := loop_nx (ft := gN 5) (body := bd__law_terms_1) (fun k ρ => ∃ s, ρ = [.d r, .d (.int m), .d (tupI a), .d (tupI u), .ol (mI (gr a u k)), s, .no]) (rangeD u.length m) [.d r, .d (.int m), .d (tupI a), .d (tupI u), .ol (mI u), .no, .no] ⟨_, rfl⟩ (by
    rintro k d ρ hd ⟨s, rfl⟩
    have hg := gr_length a u k
    simp only [rangeD, List.getElem?_map, Option.map_eq_some_iff] at hd
    obtain ⟨j, hj, rfl⟩ := hd
    by_cases hk : k < ((m : Int) - (u.length : Int)).toNat
    · rw [List.getElem?_range hk] at hj
      cases hj
      have e0 : ((u.length : Nat) : Int) + ((k : Nat) : Int) = (((gr a u k).length : Nat) : Int) := by omega
      rw [e0]
      exact ⟨_, rfl, _, bd_lt a u (gr a u k) r _ h (by omega) (by omega) (by omega), _, rfl⟩
    · rw [List.getElem?_eq_none (by simp <;> omega)] at hj; cases hj)
  rw [hlen] at h2
  subst h2
  refine ⟨s, ?_⟩
  unfold lp__law_terms_1
  simp (decide := true) only [gtup, gcons, gN, g0, List.length_map, listG, mulOk_r, mulOk_l, divOk_s, rgOk_s, powOk_c, Option.bind_some, Int.reduceToNat, Int.reduceNeg, Int.reduceLE, Int.reduceLT, Nat.reduceLT, Nat.reduceLeDiff, Nat.reduceSub, Nat.reduceAdd, Int.reduceAdd, Int.reduceSub, Int.reduceMul, Int.reduceEq, Nat.reduceEqDiff, Int.reducePow, lt0, lt1, lt2, lt3, cmO, ixD, look, looki, eqD, eqB, neD, boolO, cmpI, ltD, leD, gtD, geD, addD, subD, mulD, modD, fdivD, powD, negD, isD, isNotD, isNoneD, intO, ownB, ownL, putL, olAt, dAt, iaddD, isubD, intG, seq_ap, bind_ap, ret_ap, opt_ap, look_ap, var_ap, bin2_ap, bin2o_ap, bin1_ap, chain_ap, bool_ap, andT_ap, orT_ap, notT_ap, andV_ap, orV_ap, if_ap, ite_ap, cons_ap, int_ap, cont_ap, callP_ap, guard_ap, set_ap, par_ap, par3_ap, aug_ap, app_ap, sto_ap, augI_ap, asg_ap, for_ap, frz_ap, atI_pos, atI_neg, ixN_pos, ixN_neg, List.getElem?_cons_zero, List.getElem?_cons_succ, List.set_cons_zero, List.set_cons_succ, Int.le_refl, ↓reduceIte, Option.map_some, Bool.not_true, Bool.not_false, Int.toNat_natCast, List.length_cons, List.length_nil, decide_true, decide_false, decide_eq_true_eq, Bool.false_eq_true, rangeG, hr1, hr2, and_self, e]
theorem law_terms_eq {a u : List Int} (h : Rec a u) (m : Nat) (hm : m ≤ 1500) (hm3 : 3 ≤ m) : den__law_terms [.tuple [tupI a, tupI u], .int m] = some (.list (mI (gr a u (m - u.length)))) := by
  have h3 := h.l3
  have hlu := h.lu
  have hg := gr_length a u (m - u.length)
  obtain ⟨s, e⟩ := lp_lt a u (.tuple [tupI a, tupI u]) m h.small hlu.symm (by omega) hm (by omega)
  rw [run__law_terms, u__law_terms]
  simp (decide := true) only [gtup, gcons, gN, g0, List.length_map, listG, mulOk_r, mulOk_l, divOk_s, rgOk_s, powOk_c, Option.bind_some, Int.reduceToNat, Int.reduceNeg, Int.reduceLE, Int.reduceLT, Nat.reduceLT, Nat.reduceLeDiff, Nat.reduceSub, Nat.reduceAdd, Int.reduceAdd, Int.reduceSub, Int.reduceMul, Int.reduceEq, Nat.reduceEqDiff, Int.reducePow, lt0, lt1, lt2, lt3, cmO, ixD, look, looki, eqD, eqB, neD, boolO, cmpI, ltD, leD, gtD, geD, addD, subD, mulD, modD, fdivD, powD, negD, isD, isNotD, isNoneD, intO, ownB, ownL, putL, olAt, dAt, iaddD, isubD, intG, seq_ap, bind_ap, ret_ap, opt_ap, look_ap, var_ap, bin2_ap, bin2o_ap, bin1_ap, chain_ap, bool_ap, andT_ap, orT_ap, notT_ap, andV_ap, orV_ap, if_ap, ite_ap, cons_ap, int_ap, cont_ap, callP_ap, guard_ap, set_ap, par_ap, par3_ap, aug_ap, app_ap, sto_ap, augI_ap, asg_ap, for_ap, frz_ap, atI_pos, atI_neg, ixN_pos, ixN_neg, List.getElem?_cons_zero, List.getElem?_cons_succ, List.set_cons_zero, List.set_cons_succ, Int.le_refl, ↓reduceIte, Option.map_some, Bool.not_true, Bool.not_false, Int.toNat_natCast, List.length_cons, List.length_nil, decide_true, decide_false, decide_eq_true_eq, Bool.false_eq_true, e, sliceD, cut_to]
  rw [List.take_of_length_le (by simp [hg]; omega)]
end PDL
end
noncomputable section
namespace PDL
open PySem L2 PD
theorem ints_of {P : Int → Prop} : ∀ (ys : List D), (∀ y ∈ ys, ∃ i, y = .int i ∧ P i) → ∃ as, ys = mI as ∧ ∀ x ∈ as, P x
  | [], _ => ⟨[], rfl, fun _ h => by cases h⟩
  | y :: ys, h => by
    obtain ⟨i, rfl, hi⟩ := h y (.head _)
    obtain ⟨as, rfl, ha⟩ := ints_of ys fun y hy => h y (.tail _ hy)
    exact ⟨i :: as, rfl, fun x hx => by
      rcases List.mem_cons.1 hx with rfl | hx
      · exact hi
      · exact ha x hx⟩
theorem integer_ok {n : Nat} {p : List D} (h : PotOk n p) (hn : n < 1099511627776) {far : Int} (hm : 0 ≤ far) (hm2 : far < 1000000) : ∃ (r : Int) (p' : List D), den__law_integer p [.int far] = some (.int r, p') ∧ r.natAbs ≤ far ∧ PotOk (n + 1) p' := by
  obtain ⟨r, p', e, h0, h1, k⟩ := take_ok h hn (many := 2 * far + 1) (by omega) (by omega)
  refine ⟨r - far, p', ?_, by omega, k⟩
  rw [run__law_integer, u__law_integer]
  simp (decide := true) only [gtup, gcons, gN, g0, List.length_map, listG, mulOk_r, mulOk_l, divOk_s, rgOk_s, powOk_c, Option.bind_some, Int.reduceToNat, Int.reduceNeg, Int.reduceLE, Int.reduceLT, Nat.reduceLT, Nat.reduceLeDiff, Nat.reduceSub, Nat.reduceAdd, Int.reduceAdd, Int.reduceSub, Int.reduceMul, Int.reduceEq, Nat.reduceEqDiff, Int.reducePow, lt0, lt1, lt2, lt3, cmO, ixD, look, looki, eqD, eqB, neD, boolO, cmpI, ltD, leD, gtD, geD, addD, subD, mulD, modD, fdivD, powD, negD, isD, isNotD, isNoneD, intO, ownB, ownL, putL, olAt, dAt, iaddD, isubD, intG, seq_ap, bind_ap, ret_ap, opt_ap, look_ap, var_ap, bin2_ap, bin2o_ap, bin1_ap, chain_ap, bool_ap, andT_ap, orT_ap, notT_ap, andV_ap, orV_ap, if_ap, ite_ap, cons_ap, int_ap, cont_ap, callP_ap, guard_ap, set_ap, par_ap, par3_ap, aug_ap, app_ap, sto_ap, augI_ap, asg_ap, for_ap, frz_ap, atI_pos, atI_neg, ixN_pos, ixN_neg, List.getElem?_cons_zero, List.getElem?_cons_succ, List.set_cons_zero, List.set_cons_succ, Int.le_refl, ↓reduceIte, Option.map_some, Bool.not_true, Bool.not_false, Int.toNat_natCast, List.length_cons, List.length_nil, decide_true, decide_false, decide_eq_true_eq, Bool.false_eq_true, e]
theorem lc_rc {n : Nat} {p : List D} (h : PotOk n p) (hn : n < 1000000) {far : Int} (hm : 0 ≤ far) (hm2 : far < 1000000) (x : D) (r : Nat) (hr : r ≤ 3) (s4 s5 : Sl) : ∃ (as : List Int) (p' : List D), lc__law_recurrence_1 [.pot p, .d x, .d (.int far), .d (.int r), s4, s5, .no] = some (mI as, [.pot p', .d x, .d (.int far), .d (.int r), s4, s5, .no]) ∧ as.length = r ∧ (∀ x ∈ as, x.natAbs ≤ far) ∧ PotOk (n + r) p' := by
  have hr1 : RgOk ((r : Nat) : Int) ↔ True := rgOk_s (by omega) (by omega)
  have hl : (rangeD 0 (r : Int)).length = r := by simp [rangeD]
  obtain ⟨ys, ρ', e, ⟨p', rfl, hp⟩, l, hR⟩ := lc_rel (fi := rngM (consM (varM 3) nilM)) (vs := [6]) (ft := gN 6) (tt := retM true) (fe := el__law_recurrence_1) (ρ := [.pot p, .d x, .d (.int far), .d (.int r), s4, s5, .no]) (ρf := [.pot p, .d x, .d (.int far), .d (.int r), s4, s5, .no]) (ds := rangeD 0 r)
    (fun k ρ => ∃ p', ρ = [.pot p', .d x, .d (.int far), .d (.int r), s4, s5, .no] ∧ PotOk (n + k) p') (fun _ y => ∃ i : Int, y = .int i ∧ i.natAbs ≤ far) 0 (by simp (decide := true) only [gtup, gcons, gN, g0, List.length_map, listG, mulOk_r, mulOk_l, divOk_s, rgOk_s, powOk_c, Option.bind_some, Int.reduceToNat, Int.reduceNeg, Int.reduceLE, Int.reduceLT, Nat.reduceLT, Nat.reduceLeDiff, Nat.reduceSub, Nat.reduceAdd, Int.reduceAdd, Int.reduceSub, Int.reduceMul, Int.reduceEq, Nat.reduceEqDiff, Int.reducePow, lt0, lt1, lt2, lt3, cmO, ixD, look, looki, eqD, eqB, neD, boolO, cmpI, ltD, leD, gtD, geD, addD, subD, mulD, modD, fdivD, powD, negD, isD, isNotD, isNoneD, intO, ownB, ownL, putL, olAt, dAt, iaddD, isubD, intG, seq_ap, bind_ap, ret_ap, opt_ap, look_ap, var_ap, bin2_ap, bin2o_ap, bin1_ap, chain_ap, bool_ap, andT_ap, orT_ap, notT_ap, andV_ap, orV_ap, if_ap, ite_ap, cons_ap, int_ap, cont_ap, callP_ap, guard_ap, set_ap, par_ap, par3_ap, aug_ap, app_ap, sto_ap, augI_ap, asg_ap, for_ap, frz_ap, atI_pos, atI_neg, ixN_pos, ixN_neg, List.getElem?_cons_zero, List.getElem?_cons_succ, List.set_cons_zero, List.set_cons_succ, Int.le_refl, ↓reduceIte, Option.map_some, Bool.not_true, Bool.not_false, Int.toNat_natCast, List.length_cons, List.length_nil, decide_true, decide_false, decide_eq_true_eq, Bool.false_eq_true, rangeG, hr1]) (by omega) ⟨p, rfl, h⟩
    (fun d hd k ρ hk ⟨p', e, hp⟩ => by
      subst e
      rw [hl] at hk
      obtain ⟨i, p2, e2, h2, h3⟩ := integer_ok hp (by omega) hm hm2
      refine ⟨_, .int i, [.pot p2, .d x, .d (.int far), .d (.int r), s4, s5, .d d], rfl, rfl, ?_, ⟨p2, rfl, h3⟩, i, rfl, h2⟩
      · unfold el__law_recurrence_1
        simp (decide := true) only [gtup, gcons, gN, g0, List.length_map, listG, mulOk_r, mulOk_l, divOk_s, rgOk_s, powOk_c, Option.bind_some, Int.reduceToNat, Int.reduceNeg, Int.reduceLE, Int.reduceLT, Nat.reduceLT, Nat.reduceLeDiff, Nat.reduceSub, Nat.reduceAdd, Int.reduceAdd, Int.reduceSub, Int.reduceMul, Int.reduceEq, Nat.reduceEqDiff, Int.reducePow, lt0, lt1, lt2, lt3, cmO, ixD, look, looki, eqD, eqB, neD, boolO, cmpI, ltD, leD, gtD, geD, addD, subD, mulD, modD, fdivD, powD, negD, isD, isNotD, isNoneD, intO, ownB, ownL, putL, olAt, dAt, iaddD, isubD, intG, seq_ap, bind_ap, ret_ap, opt_ap, look_ap, var_ap, bin2_ap, bin2o_ap, bin1_ap, chain_ap, bool_ap, andT_ap, orT_ap, notT_ap, andV_ap, orV_ap, if_ap, ite_ap, cons_ap, int_ap, cont_ap, callP_ap, guard_ap, set_ap, par_ap, par3_ap, aug_ap, app_ap, sto_ap, augI_ap, asg_ap, for_ap, frz_ap, atI_pos, atI_neg, ixN_pos, ixN_neg, List.getElem?_cons_zero, List.getElem?_cons_succ, List.set_cons_zero, List.set_cons_succ, Int.le_refl, ↓reduceIte, Option.map_some, Bool.not_true, Bool.not_false, Int.toNat_natCast, List.length_cons, List.length_nil, decide_true, decide_false, decide_eq_true_eq, Bool.false_eq_true, e2])
  obtain ⟨as, rfl, ha⟩ := ints_of (P := fun i => (i.natAbs : Int) ≤ far) ys (fun y hy => by
    obtain ⟨i, hi, rfl⟩ := List.getElem_of_mem hy
    exact hR i _ _ (List.getElem?_eq_getElem (by omega)) (List.getElem?_eq_getElem hi))
  refine ⟨as, p', ?_, by simpa [hl] using l, ha, hp.mono (by omega)⟩
  unfold lc__law_recurrence_1
  rw [e]; rfl
theorem recurrence_ok {n : Nat} {p : List D} (h : PotOk n p) (hn : n < 999000) {far : Int} (hm : 0 ≤ far) (hm2 : far < 1000) : ∃ (a u : List Int) (p' : List D), den__law_recurrence p [.int 3, .int far] = some (.tuple [tupI a, tupI u], p') ∧ Rec a u ∧ (∀ x ∈ u, x.natAbs < 1000) ∧ PotOk (n + 8) p' := by
  obtain ⟨r0, p1, e1, r1, r2, k1⟩ := take_ok h (by omega) (many := 3) (by decide) (by decide)
  obtain ⟨r, hr⟩ : ∃ r : Nat, (r : Int) = 1 + r0 := ⟨(1 + r0).toNat, by omega⟩
  obtain ⟨a, p2, e2, la, ha, k2⟩ := lc_rc k1 (by omega) hm (by omega) (.int 3) r (by omega) .no .no
  obtain ⟨u0, p3, e3, lu, hu, k3⟩ := lc_rc k2 (by omega) hm (by omega) (.int 3) r (by omega) .no .no
  have hu' : ∀ x ∈ u0, x.natAbs < 1000 := fun x hx => by have := hu x hx; omega
  rw [hr] at e2 e3
  have hlast : ∃ x, a.getLast? = some x := by
    cases h : a.getLast? with
    | none => rw [List.getLast?_eq_none_iff] at h; rw [h] at la; simp at la; omega
    | some x => exact ⟨x, rfl⟩
  obtain ⟨x, hx⟩ := hlast
  have e4 : (mI a)[a.length - 1]? = some (.int x) := by
    rw [← List.length_map (f := PyData.int) (as := a), ← List.getLast?_eq_getElem?, List.getLast?_map, hx]; rfl
  have h1 : 1 ≤ a.length := by omega
  have hxm : x.natAbs ≤ far := ha x (List.mem_of_getLast? hx)
  have fin : ∀ (v : Int) (p4 : List D), v ≠ 0 → (v.natAbs < 1000) → PotOk (n + 8) p4 → ∃ (a2 u : List Int) (p' : List D), some (PyData.tuple [.tuple ((mI a).set (a.length - 1) (.int v)), .tuple (mI u0)], p4) = some (.tuple [tupI a2, tupI u], p') ∧ Rec a2 u ∧ (∀ x ∈ u, x.natAbs < 1000) ∧ PotOk (n + 8) p' := fun v p4 hv hv2 k4 => by
    refine ⟨a.set (a.length - 1) v, u0, p4, by simp [tupI, mI, List.map_set], ⟨by simp; omega, by simp; omega, by simp [la, lu], fun y hy => ?_, fun y hy => by have := hu' y hy; omega, ?_⟩, hu', k4⟩
    · rcases List.mem_or_eq_of_mem_set hy with h | h
      · have := ha y h; omega
      · rw [h]; exact hv2
    · rw [List.getLast?_eq_getElem?, List.length_set, List.getElem?_set_self (by omega)]
      intro h; cases h; exact hv rfl
  rw [run__law_recurrence, u__law_recurrence]
  by_cases hz : x = 0
  · obtain ⟨r3, p4, e5, r4, r5, k4⟩ := take_ok k3 (by omega) (many := 3) (by decide) (by decide)
    have h3 : r3 = 0 ∨ r3 = 1 ∨ r3 = 2 := by omega
    rcases h3 with rfl | rfl | rfl
    all_goals
      simp (decide := true) only [gtup, gcons, gN, g0, List.length_map, listG, mulOk_r, mulOk_l, divOk_s, rgOk_s, powOk_c, Option.bind_some, Int.reduceToNat, Int.reduceNeg, Int.reduceLE, Int.reduceLT, Nat.reduceLT, Nat.reduceLeDiff, Nat.reduceSub, Nat.reduceAdd, Int.reduceAdd, Int.reduceSub, Int.reduceMul, Int.reduceEq, Nat.reduceEqDiff, Int.reducePow, lt0, lt1, lt2, lt3, cmO, ixD, look, looki, eqD, eqB, neD, boolO, cmpI, ltD, leD, gtD, geD, addD, subD, mulD, modD, fdivD, powD, negD, isD, isNotD, isNoneD, intO, ownB, ownL, putL, olAt, dAt, iaddD, isubD, intG, seq_ap, bind_ap, ret_ap, opt_ap, look_ap, var_ap, bin2_ap, bin2o_ap, bin1_ap, chain_ap, bool_ap, andT_ap, orT_ap, notT_ap, andV_ap, orV_ap, if_ap, ite_ap, cons_ap, int_ap, cont_ap, callP_ap, guard_ap, set_ap, par_ap, par3_ap, aug_ap, app_ap, sto_ap, augI_ap, asg_ap, for_ap, frz_ap, atI_pos, atI_neg, ixN_pos, ixN_neg, List.getElem?_cons_zero, List.getElem?_cons_succ, List.set_cons_zero, List.set_cons_succ, Int.le_refl, ↓reduceIte, Option.map_some, Bool.not_true, Bool.not_false, Int.toNat_natCast, List.length_cons, List.length_nil, decide_true, decide_false, decide_eq_true_eq, Bool.false_eq_true, e1, e2, e3, e4, h1, hz, e5]
      refine fin _ p4 ?_ ?_ (k4.mono (by omega)) <;> decide
  · simp (decide := true) only [gtup, gcons, gN, g0, List.length_map, listG, mulOk_r, mulOk_l, divOk_s, rgOk_s, powOk_c, Option.bind_some, Int.reduceToNat, Int.reduceNeg, Int.reduceLE, Int.reduceLT, Nat.reduceLT, Nat.reduceLeDiff, Nat.reduceSub, Nat.reduceAdd, Int.reduceAdd, Int.reduceSub, Int.reduceMul, Int.reduceEq, Nat.reduceEqDiff, Int.reducePow, lt0, lt1, lt2, lt3, cmO, ixD, look, looki, eqD, eqB, neD, boolO, cmpI, ltD, leD, gtD, geD, addD, subD, mulD, modD, fdivD, powD, negD, isD, isNotD, isNoneD, intO, ownB, ownL, putL, olAt, dAt, iaddD, isubD, intG, seq_ap, bind_ap, ret_ap, opt_ap, look_ap, var_ap, bin2_ap, bin2o_ap, bin1_ap, chain_ap, bool_ap, andT_ap, orT_ap, notT_ap, andV_ap, orV_ap, if_ap, ite_ap, cons_ap, int_ap, cont_ap, callP_ap, guard_ap, set_ap, par_ap, par3_ap, aug_ap, app_ap, sto_ap, augI_ap, asg_ap, for_ap, frz_ap, atI_pos, atI_neg, ixN_pos, ixN_neg, List.getElem?_cons_zero, List.getElem?_cons_succ, List.set_cons_zero, List.set_cons_succ, Int.le_refl, ↓reduceIte, Option.map_some, Bool.not_true, Bool.not_false, Int.toNat_natCast, List.length_cons, List.length_nil, decide_true, decide_false, decide_eq_true_eq, Bool.false_eq_true, e1, e2, e3, e4, h1, hz]
    exact fin x p3 hz (by omega) (k3.mono (by omega))
end PDL
end
noncomputable section
namespace PDL
open PySem L2 PD
def onI (h : Nat → D) : D → D
  | .int i => h i.toNat
  | d => d
theorem rg_map (r : Nat) (h : Nat → D) : (rangeD 0 (r : Int)).map (onI h) = (List.range r).map h := by
  simp only [rangeD, List.map_map]
  rw [show ((r : Int) - 0).toNat = r by omega]
  apply List.map_congr_left
  intro i _
  simp [onI]
theorem rg_mem {r : Nat} {d : D} (hd : d ∈ rangeD 0 (r : Int)) : ∃ i : Nat, i < r ∧ d = .int i := by
  simp only [rangeD, List.mem_map, List.mem_range] at hd
  obtain ⟨i, hi, rfl⟩ := hd
  exact ⟨i, by omega, by rw [show (0 : Int) + (i : Int) = (i : Int) by omega]⟩
/-! ### same -/
theorem same_run (n : Nat) (x y : D) : den__law_same (n + 1) [x, y] = (match u__law_same (den__law_same n) [.d x, .d y, .no] with
  | some (.ret d, _) => some d
  | some (.nx, _) => some .none
  | some (.ro ds, _) => some (.list ds)
  | _ => none) := runD_eq _ _ _ _ rfl
theorem same_int (n : Nat) (i j : Int) : den__law_same (n + 1) [.int i, .int j] = some (.bool (decide (i = j))) := by
  rw [same_run, u__law_same]
  simp (decide := true) only [gtup, gcons, gN, g0, List.length_map, listG, mulOk_r, mulOk_l, divOk_s, rgOk_s, powOk_c, Option.bind_some, Int.reduceToNat, Int.reduceNeg, Int.reduceLE, Int.reduceLT, Nat.reduceLT, Nat.reduceLeDiff, Nat.reduceSub, Nat.reduceAdd, Int.reduceAdd, Int.reduceSub, Int.reduceMul, Int.reduceEq, Nat.reduceEqDiff, Int.reducePow, lt0, lt1, lt2, lt3, cmO, ixD, look, looki, eqD, eqB, neD, boolO, cmpI, ltD, leD, gtD, geD, addD, subD, mulD, modD, fdivD, powD, negD, isD, isNotD, isNoneD, intO, ownB, ownL, putL, olAt, dAt, iaddD, isubD, intG, seq_ap, bind_ap, ret_ap, opt_ap, look_ap, var_ap, bin2_ap, bin2o_ap, bin1_ap, chain_ap, bool_ap, andT_ap, orT_ap, notT_ap, andV_ap, orV_ap, if_ap, ite_ap, cons_ap, int_ap, cont_ap, callP_ap, guard_ap, set_ap, par_ap, par3_ap, aug_ap, app_ap, sto_ap, augI_ap, asg_ap, for_ap, frz_ap, atI_pos, atI_neg, ixN_pos, ixN_neg, List.getElem?_cons_zero, List.getElem?_cons_succ, List.set_cons_zero, List.set_cons_succ, Int.le_refl, ↓reduceIte, Option.map_some, Bool.not_true, Bool.not_false, Int.toNat_natCast, List.length_cons, List.length_nil, decide_true, decide_false, decide_eq_true_eq, Bool.false_eq_true, Ty.has, Bool.or_false]
theorem same_bool (n : Nat) (i j : Bool) : den__law_same (n + 1) [.bool i, .bool j] = some (.bool (decide (i = j))) := by
  rw [same_run, u__law_same]
  simp (decide := true) only [gtup, gcons, gN, g0, List.length_map, listG, mulOk_r, mulOk_l, divOk_s, rgOk_s, powOk_c, Option.bind_some, Int.reduceToNat, Int.reduceNeg, Int.reduceLE, Int.reduceLT, Nat.reduceLT, Nat.reduceLeDiff, Nat.reduceSub, Nat.reduceAdd, Int.reduceAdd, Int.reduceSub, Int.reduceMul, Int.reduceEq, Nat.reduceEqDiff, Int.reducePow, lt0, lt1, lt2, lt3, cmO, ixD, look, looki, eqD, eqB, neD, boolO, cmpI, ltD, leD, gtD, geD, addD, subD, mulD, modD, fdivD, powD, negD, isD, isNotD, isNoneD, intO, ownB, ownL, putL, olAt, dAt, iaddD, isubD, intG, seq_ap, bind_ap, ret_ap, opt_ap, look_ap, var_ap, bin2_ap, bin2o_ap, bin1_ap, chain_ap, bool_ap, andT_ap, orT_ap, notT_ap, andV_ap, orV_ap, if_ap, ite_ap, cons_ap, int_ap, cont_ap, callP_ap, guard_ap, set_ap, par_ap, par3_ap, aug_ap, app_ap, sto_ap, augI_ap, asg_ap, for_ap, frz_ap, atI_pos, atI_neg, ixN_pos, ixN_neg, List.getElem?_cons_zero, List.getElem?_cons_succ, List.set_cons_zero, List.set_cons_succ, Int.le_refl, ↓reduceIte, Option.map_some, Bool.not_true, Bool.not_false, Int.toNat_natCast, List.length_cons, List.length_nil, decide_true, decide_false, decide_eq_true_eq, Bool.false_eq_true, Ty.has, Bool.or_false]
theorem same_list (n : Nat) (xs ys : List D) (hl : xs.length = ys.length) (hs : ys.length < 16000000) (f : Nat → Bool) (hf : ∀ (k : Nat) x y, xs[k]? = some x → ys[k]? = some y → den__law_same n [x, y] = some (.bool (f k))) : den__law_same (n + 1) [.list xs, .list ys] = some (.bool ((List.range ys.length).all f)) := by
  have hr : RgOk ((ys.length : Nat) : Int) ↔ True := rgOk_s (by omega) (by omega)
  have e := lc_map (fi := rngM (consM (lenM (cmD (varM 1))) nilM)) (vs := [2]) (ft := gN 2) (tt := retM true) (fe := callM (den__law_same n) (consM (ixM (cmD (varM 0)) (varM 2)) (consM (ixM (cmD (varM 1)) (varM 2)) nilM))) (ρ := [.d (.list xs), .d (.list ys), .no]) (ρf := [.d (.list xs), .d (.list ys), .no]) (ds := rangeD 0 ys.length) [.d (.list xs), .d (.list ys), .no] (onI fun i => .bool (f i))
    (by simp (decide := true) only [gtup, gcons, gN, g0, List.length_map, listG, mulOk_r, mulOk_l, divOk_s, rgOk_s, powOk_c, Option.bind_some, Int.reduceToNat, Int.reduceNeg, Int.reduceLE, Int.reduceLT, Nat.reduceLT, Nat.reduceLeDiff, Nat.reduceSub, Nat.reduceAdd, Int.reduceAdd, Int.reduceSub, Int.reduceMul, Int.reduceEq, Nat.reduceEqDiff, Int.reducePow, lt0, lt1, lt2, lt3, cmO, ixD, look, looki, eqD, eqB, neD, boolO, cmpI, ltD, leD, gtD, geD, addD, subD, mulD, modD, fdivD, powD, negD, isD, isNotD, isNoneD, intO, ownB, ownL, putL, olAt, dAt, iaddD, isubD, intG, seq_ap, bind_ap, ret_ap, opt_ap, look_ap, var_ap, bin2_ap, bin2o_ap, bin1_ap, chain_ap, bool_ap, andT_ap, orT_ap, notT_ap, andV_ap, orV_ap, if_ap, ite_ap, cons_ap, int_ap, cont_ap, callP_ap, guard_ap, set_ap, par_ap, par3_ap, aug_ap, app_ap, sto_ap, augI_ap, asg_ap, for_ap, frz_ap, atI_pos, atI_neg, ixN_pos, ixN_neg, List.getElem?_cons_zero, List.getElem?_cons_succ, List.set_cons_zero, List.set_cons_succ, Int.le_refl, ↓reduceIte, Option.map_some, Bool.not_true, Bool.not_false, Int.toNat_natCast, List.length_cons, List.length_nil, decide_true, decide_false, decide_eq_true_eq, Bool.false_eq_true, rangeG, hr]) (by simp [rangeD]; omega) rfl (fun d hd => by
      obtain ⟨i, hi2, rfl⟩ := rg_mem hd
      have hi1 : i < xs.length := by omega
      refine ⟨[.d (.list xs), .d (.list ys), .d (.int i)], [.d (.list xs), .d (.list ys), .d (.int i)], rfl, rfl, ?_, rfl⟩
      have g1 := List.getElem?_eq_getElem hi1
      have g2 := List.getElem?_eq_getElem hi2
      have h := hf i _ _ g1 g2
      simp (decide := true) only [gtup, gcons, gN, g0, List.length_map, listG, mulOk_r, mulOk_l, divOk_s, rgOk_s, powOk_c, Option.bind_some, Int.reduceToNat, Int.reduceNeg, Int.reduceLE, Int.reduceLT, Nat.reduceLT, Nat.reduceLeDiff, Nat.reduceSub, Nat.reduceAdd, Int.reduceAdd, Int.reduceSub, Int.reduceMul, Int.reduceEq, Nat.reduceEqDiff, Int.reducePow, lt0, lt1, lt2, lt3, cmO, ixD, look, looki, eqD, eqB, neD, boolO, cmpI, ltD, leD, gtD, geD, addD, subD, mulD, modD, fdivD, powD, negD, isD, isNotD, isNoneD, intO, ownB, ownL, putL, olAt, dAt, iaddD, isubD, intG, seq_ap, bind_ap, ret_ap, opt_ap, look_ap, var_ap, bin2_ap, bin2o_ap, bin1_ap, chain_ap, bool_ap, andT_ap, orT_ap, notT_ap, andV_ap, orV_ap, if_ap, ite_ap, cons_ap, int_ap, cont_ap, callP_ap, guard_ap, set_ap, par_ap, par3_ap, aug_ap, app_ap, sto_ap, augI_ap, asg_ap, for_ap, frz_ap, atI_pos, atI_neg, ixN_pos, ixN_neg, List.getElem?_cons_zero, List.getElem?_cons_succ, List.set_cons_zero, List.set_cons_succ, Int.le_refl, ↓reduceIte, Option.map_some, Bool.not_true, Bool.not_false, Int.toNat_natCast, List.length_cons, List.length_nil, decide_true, decide_false, decide_eq_true_eq, Bool.false_eq_true, g1, g2, h, Int.natCast_nonneg, onI])
  rw [rg_map] at e
  have e3 : restS [.d (.list xs), .d (.list ys), .no] [.d (.list xs), .d (.list ys), .no] [2] = [.d (.list xs), .d (.list ys), .no] := rfl
  rw [e3] at e
  have hl' : (((xs.length : Nat) : Int) = ((ys.length : Nat) : Int)) = True := eq_true (by omega)
  rw [same_run, u__law_same]
  simp (decide := true) only [gtup, gcons, gN, g0, List.length_map, listG, mulOk_r, mulOk_l, divOk_s, rgOk_s, powOk_c, Option.bind_some, Int.reduceToNat, Int.reduceNeg, Int.reduceLE, Int.reduceLT, Nat.reduceLT, Nat.reduceLeDiff, Nat.reduceSub, Nat.reduceAdd, Int.reduceAdd, Int.reduceSub, Int.reduceMul, Int.reduceEq, Nat.reduceEqDiff, Int.reducePow, lt0, lt1, lt2, lt3, cmO, ixD, look, looki, eqD, eqB, neD, boolO, cmpI, ltD, leD, gtD, geD, addD, subD, mulD, modD, fdivD, powD, negD, isD, isNotD, isNoneD, intO, ownB, ownL, putL, olAt, dAt, iaddD, isubD, intG, seq_ap, bind_ap, ret_ap, opt_ap, look_ap, var_ap, bin2_ap, bin2o_ap, bin1_ap, chain_ap, bool_ap, andT_ap, orT_ap, notT_ap, andV_ap, orV_ap, if_ap, ite_ap, cons_ap, int_ap, cont_ap, callP_ap, guard_ap, set_ap, par_ap, par3_ap, aug_ap, app_ap, sto_ap, augI_ap, asg_ap, for_ap, frz_ap, atI_pos, atI_neg, ixN_pos, ixN_neg, List.getElem?_cons_zero, List.getElem?_cons_succ, List.set_cons_zero, List.set_cons_succ, Int.le_refl, ↓reduceIte, Option.map_some, Bool.not_true, Bool.not_false, Int.toNat_natCast, List.length_cons, List.length_nil, decide_true, decide_false, decide_eq_true_eq, Bool.false_eq_true, Ty.has, Bool.or_false, Bool.or_true, hl', e, show ((List.range ys.length).map fun i => PyData.bool (f i)) = ((List.range ys.length).map f).map .bool by simp, bools_map]
  simp [List.all_map, Function.comp_def]
/-! ### sums -/
def S (r : Nat) (f : Nat → Int) : Int := ((List.range r).map f).sum
theorem S_zero (f : Nat → Int) : S 0 f = 0 := rfl
theorem S_succ (r : Nat) (f : Nat → Int) : S (r + 1) f = S r f + f r := by
  simp [S, List.range_succ]
theorem S_congr {r : Nat} {f g : Nat → Int} (h : ∀ k, k < r → f k = g k) : S r f = S r g := by
  induction r with
  | zero => rfl
  | succ r ih => rw [S_succ, S_succ, ih fun k hk => h k (by omega), h r (by omega)]
theorem S_mul (r : Nat) (c : Int) (f : Nat → Int) : S r (fun k => f k * c) = S r f * c := by
  induction r with
  | zero => simp [S_zero]
  | succ r ih => rw [S_succ, S_succ, ih, Int.add_mul]
theorem S_mul_l (r : Nat) (c : Int) (f : Nat → Int) : S r (fun k => c * f k) = c * S r f := by
  induction r with
  | zero => simp [S_zero]
  | succ r ih => rw [S_succ, S_succ, ih, Int.mul_add]
theorem S_add (r : Nat) (f g : Nat → Int) : S r (fun k => f k + g k) = S r f + S r g := by
  induction r with
  | zero => rfl
  | succ r ih => rw [S_succ, S_succ, S_succ, ih]; omega
theorem S_swap (r s : Nat) (f : Nat → Nat → Int) : S r (fun i => S s fun j => f i j) = S s (fun j => S r fun i => f i j) := by
  induction r with
  | zero =>
    have : ∀ s, S s (fun _ => (0 : Int)) = 0 := fun s => by
      induction s with
      | zero => rfl
      | succ s ih => rw [S_succ, ih]; rfl
    simp only [S_zero]; exact (this s).symm
  | succ r ih => rw [S_succ, ih, ← S_add]; apply S_congr; intro k _; rw [S_succ]
theorem S_dvd {r : Nat} {d : Int} {f g : Nat → Int} (h : ∀ k, k < r → d ∣ f k - g k) : d ∣ S r f - S r g := by
  induction r with
  | zero => simp [S_zero]
  | succ r ih =>
    rw [S_succ, S_succ]
    have h1 := ih fun k hk => h k (by omega)
    have h2 := h r (by omega)
    have : S r f + f r - (S r g + g r) = (S r f - S r g) + (f r - g r) := by omega
    rw [this]
    exact Int.dvd_add h1 h2
/-! ### tables -/
def rowD (r : Nat) (f : Nat → Int) : D := .list ((List.range r).map fun j => .int (f j))
def matD (r : Nat) (f : Nat → Nat → Int) : D := .list ((List.range r).map fun i => rowD r (f i))
theorem row_at {r : Nat} {f : Nat → Int} {j : Nat} (h : j < r) : ((List.range r).map fun j => PyData.int (f j))[j]? = some (.int (f j)) := by simp [h]
theorem mat_at {r : Nat} {f : Nat → Nat → Int} {i : Nat} (h : i < r) : ((List.range r).map fun i => rowD r (f i))[i]? = some (rowD r (f i)) := by simp [h]
theorem range_int (r : Nat) (f : Nat → Int) : ((List.range r).map fun j => PyData.int (f j)) = mI ((List.range r).map f) := by simp
def sm64 (r : Nat) (f : Nat → Nat → Int) : Prop := ∀ i j, i < r → j < r → (f i j).natAbs < 18446744073709551616
theorem lc_t1 (r : Nat) (f g : Nat → Nat → Int) (b : D) (i j : Nat) (hi : i < r) (hj : j < r) (hr : r ≤ 3) (hf : sm64 r f) : lc__law_times_1 [.d (matD r f), .d (matD r g), .d b, .d (.list (rangeD 0 r)), .d (.int i), .d (.int j), .no] = some (mI ((List.range r).map fun k => f i k * g k j), [.d (matD r f), .d (matD r g), .d b, .d (.list (rangeD 0 r)), .d (.int i), .d (.int j), .no]) := by
  have e := lc_map (fi := itM (cmD (varM 3))) (vs := [6]) (ft := gN 6) (tt := retM true) (fe := el__law_times_1) (ρ := [.d (matD r f), .d (matD r g), .d b, .d (.list (rangeD 0 r)), .d (.int i), .d (.int j), .no]) (ρf := [.d (matD r f), .d (matD r g), .d b, .d (.list (rangeD 0 r)), .d (.int i), .d (.int j), .no]) (ds := rangeD 0 r) [.d (matD r f), .d (matD r g), .d b, .d (.list (rangeD 0 r)), .d (.int i), .d (.int j), .no] (onI fun k => .int (f i k * g k j))
    (by simp (decide := true) only [gtup, gcons, gN, g0, List.length_map, listG, mulOk_r, mulOk_l, divOk_s, rgOk_s, powOk_c, Option.bind_some, Int.reduceToNat, Int.reduceNeg, Int.reduceLE, Int.reduceLT, Nat.reduceLT, Nat.reduceLeDiff, Nat.reduceSub, Nat.reduceAdd, Int.reduceAdd, Int.reduceSub, Int.reduceMul, Int.reduceEq, Nat.reduceEqDiff, Int.reducePow, lt0, lt1, lt2, lt3, cmO, ixD, look, looki, eqD, eqB, neD, boolO, cmpI, ltD, leD, gtD, geD, addD, subD, mulD, modD, fdivD, powD, negD, isD, isNotD, isNoneD, intO, ownB, ownL, putL, olAt, dAt, iaddD, isubD, intG, seq_ap, bind_ap, ret_ap, opt_ap, look_ap, var_ap, bin2_ap, bin2o_ap, bin1_ap, chain_ap, bool_ap, andT_ap, orT_ap, notT_ap, andV_ap, orV_ap, if_ap, ite_ap, cons_ap, int_ap, cont_ap, callP_ap, guard_ap, set_ap, par_ap, par3_ap, aug_ap, app_ap, sto_ap, augI_ap, asg_ap, for_ap, frz_ap, atI_pos, atI_neg, ixN_pos, ixN_neg, List.getElem?_cons_zero, List.getElem?_cons_succ, List.set_cons_zero, List.set_cons_succ, Int.le_refl, ↓reduceIte, Option.map_some, Bool.not_true, Bool.not_false, Int.toNat_natCast, List.length_cons, List.length_nil, decide_true, decide_false, decide_eq_true_eq, Bool.false_eq_true]) (by simp [rangeD]; omega) rfl (fun d hd => by
      obtain ⟨k, hk, rfl⟩ := rg_mem hd
      refine ⟨[.d (matD r f), .d (matD r g), .d b, .d (.list (rangeD 0 r)), .d (.int i), .d (.int j), .d (.int k)], [.d (matD r f), .d (matD r g), .d b, .d (.list (rangeD 0 r)), .d (.int i), .d (.int j), .d (.int k)], rfl, rfl, ?_, rfl⟩
      unfold el__law_times_1
      simp (decide := true) only [gtup, gcons, gN, g0, List.length_map, listG, mulOk_r, mulOk_l, divOk_s, rgOk_s, powOk_c, Option.bind_some, Int.reduceToNat, Int.reduceNeg, Int.reduceLE, Int.reduceLT, Nat.reduceLT, Nat.reduceLeDiff, Nat.reduceSub, Nat.reduceAdd, Int.reduceAdd, Int.reduceSub, Int.reduceMul, Int.reduceEq, Nat.reduceEqDiff, Int.reducePow, lt0, lt1, lt2, lt3, cmO, ixD, look, looki, eqD, eqB, neD, boolO, cmpI, ltD, leD, gtD, geD, addD, subD, mulD, modD, fdivD, powD, negD, isD, isNotD, isNoneD, intO, ownB, ownL, putL, olAt, dAt, iaddD, isubD, intG, seq_ap, bind_ap, ret_ap, opt_ap, look_ap, var_ap, bin2_ap, bin2o_ap, bin1_ap, chain_ap, bool_ap, andT_ap, orT_ap, notT_ap, andV_ap, orV_ap, if_ap, ite_ap, cons_ap, int_ap, cont_ap, callP_ap, guard_ap, set_ap, par_ap, par3_ap, aug_ap, app_ap, sto_ap, augI_ap, asg_ap, for_ap, frz_ap, atI_pos, atI_neg, ixN_pos, ixN_neg, List.getElem?_cons_zero, List.getElem?_cons_succ, List.set_cons_zero, List.set_cons_succ, Int.le_refl, ↓reduceIte, Option.map_some, Bool.not_true, Bool.not_false, Int.toNat_natCast, List.length_cons, List.length_nil, decide_true, decide_false, decide_eq_true_eq, Bool.false_eq_true, Int.natCast_nonneg, matD, rowD, List.getElem?_map, List.getElem?_range hi, List.getElem?_range hj, List.getElem?_range hk, Option.map_some, mulOk_l (hf i k hi hk), onI])
  unfold lc__law_times_1
  rw [e, rg_map, range_int]
  rfl
theorem lc_t2 (r : Nat) (f g : Nat → Nat → Int) (b : Int) (hb : 0 < b) (i : Nat) (hi : i < r) (hr : r ≤ 3) (hf : sm64 r f) : lc__law_times_2 [.d (matD r f), .d (matD r g), .d (.int b), .d (.list (rangeD 0 r)), .d (.int i), .no, .no] = some ((List.range r).map fun j => .int (S r (fun k => f i k * g k j) % b), [.d (matD r f), .d (matD r g), .d (.int b), .d (.list (rangeD 0 r)), .d (.int i), .no, .no]) := by
  have e := lc_map (fi := itM (cmD (varM 3))) (vs := [5]) (ft := gN 5) (tt := retM true) (fe := el__law_times_2) (ρ := [.d (matD r f), .d (matD r g), .d (.int b), .d (.list (rangeD 0 r)), .d (.int i), .no, .no]) (ρf := [.d (matD r f), .d (matD r g), .d (.int b), .d (.list (rangeD 0 r)), .d (.int i), .no, .no]) (ds := rangeD 0 r) [.d (matD r f), .d (matD r g), .d (.int b), .d (.list (rangeD 0 r)), .d (.int i), .no, .no] (onI fun j => .int (S r (fun k => f i k * g k j) % b))
    (by simp (decide := true) only [gtup, gcons, gN, g0, List.length_map, listG, mulOk_r, mulOk_l, divOk_s, rgOk_s, powOk_c, Option.bind_some, Int.reduceToNat, Int.reduceNeg, Int.reduceLE, Int.reduceLT, Nat.reduceLT, Nat.reduceLeDiff, Nat.reduceSub, Nat.reduceAdd, Int.reduceAdd, Int.reduceSub, Int.reduceMul, Int.reduceEq, Nat.reduceEqDiff, Int.reducePow, lt0, lt1, lt2, lt3, cmO, ixD, look, looki, eqD, eqB, neD, boolO, cmpI, ltD, leD, gtD, geD, addD, subD, mulD, modD, fdivD, powD, negD, isD, isNotD, isNoneD, intO, ownB, ownL, putL, olAt, dAt, iaddD, isubD, intG, seq_ap, bind_ap, ret_ap, opt_ap, look_ap, var_ap, bin2_ap, bin2o_ap, bin1_ap, chain_ap, bool_ap, andT_ap, orT_ap, notT_ap, andV_ap, orV_ap, if_ap, ite_ap, cons_ap, int_ap, cont_ap, callP_ap, guard_ap, set_ap, par_ap, par3_ap, aug_ap, app_ap, sto_ap, augI_ap, asg_ap, for_ap, frz_ap, atI_pos, atI_neg, ixN_pos, ixN_neg, List.getElem?_cons_zero, List.getElem?_cons_succ, List.set_cons_zero, List.set_cons_succ, Int.le_refl, ↓reduceIte, Option.map_some, Bool.not_true, Bool.not_false, Int.toNat_natCast, List.length_cons, List.length_nil, decide_true, decide_false, decide_eq_true_eq, Bool.false_eq_true]) (by simp [rangeD]; omega) rfl (fun d hd => by
      obtain ⟨j, hj, rfl⟩ := rg_mem hd
      refine ⟨[.d (matD r f), .d (matD r g), .d (.int b), .d (.list (rangeD 0 r)), .d (.int i), .d (.int j), .no], [.d (matD r f), .d (matD r g), .d (.int b), .d (.list (rangeD 0 r)), .d (.int i), .d (.int j), .no], rfl, rfl, ?_, rfl⟩
      unfold el__law_times_2
      simp (decide := true) only [gtup, gcons, gN, g0, List.length_map, listG, mulOk_r, mulOk_l, divOk_s, rgOk_s, powOk_c, Option.bind_some, Int.reduceToNat, Int.reduceNeg, Int.reduceLE, Int.reduceLT, Nat.reduceLT, Nat.reduceLeDiff, Nat.reduceSub, Nat.reduceAdd, Int.reduceAdd, Int.reduceSub, Int.reduceMul, Int.reduceEq, Nat.reduceEqDiff, Int.reducePow, lt0, lt1, lt2, lt3, cmO, ixD, look, looki, eqD, eqB, neD, boolO, cmpI, ltD, leD, gtD, geD, addD, subD, mulD, modD, fdivD, powD, negD, isD, isNotD, isNoneD, intO, ownB, ownL, putL, olAt, dAt, iaddD, isubD, intG, seq_ap, bind_ap, ret_ap, opt_ap, look_ap, var_ap, bin2_ap, bin2o_ap, bin1_ap, chain_ap, bool_ap, andT_ap, orT_ap, notT_ap, andV_ap, orV_ap, if_ap, ite_ap, cons_ap, int_ap, cont_ap, callP_ap, guard_ap, set_ap, par_ap, par3_ap, aug_ap, app_ap, sto_ap, augI_ap, asg_ap, for_ap, frz_ap, atI_pos, atI_neg, ixN_pos, ixN_neg, List.getElem?_cons_zero, List.getElem?_cons_succ, List.set_cons_zero, List.set_cons_succ, Int.le_refl, ↓reduceIte, Option.map_some, Bool.not_true, Bool.not_false, Int.toNat_natCast, List.length_cons, List.length_nil, decide_true, decide_false, decide_eq_true_eq, Bool.false_eq_true, lc_t1 r f g (.int b) i j hi hj hr hf, ints_map, hb, onI, S])
  unfold lc__law_times_2
  rw [e, rg_map]
  rfl
theorem lc_t3 (r : Nat) (f g : Nat → Nat → Int) (b : Int) (hb : 0 < b) (hr : r ≤ 3) (hf : sm64 r f) : lc__law_times_3 [.d (matD r f), .d (matD r g), .d (.int b), .d (.list (rangeD 0 r)), .no, .no, .no] = some ((List.range r).map fun i => rowD r fun j => (S r (fun k => f i k * g k j) % b), [.d (matD r f), .d (matD r g), .d (.int b), .d (.list (rangeD 0 r)), .no, .no, .no]) := by
  have e := lc_map (fi := itM (cmD (varM 3))) (vs := [4]) (ft := gN 4) (tt := retM true) (fe := el__law_times_3) (ρ := [.d (matD r f), .d (matD r g), .d (.int b), .d (.list (rangeD 0 r)), .no, .no, .no]) (ρf := [.d (matD r f), .d (matD r g), .d (.int b), .d (.list (rangeD 0 r)), .no, .no, .no]) (ds := rangeD 0 r) [.d (matD r f), .d (matD r g), .d (.int b), .d (.list (rangeD 0 r)), .no, .no, .no] (onI fun i => rowD r fun j => (S r (fun k => f i k * g k j) % b))
    (by simp (decide := true) only [gtup, gcons, gN, g0, List.length_map, listG, mulOk_r, mulOk_l, divOk_s, rgOk_s, powOk_c, Option.bind_some, Int.reduceToNat, Int.reduceNeg, Int.reduceLE, Int.reduceLT, Nat.reduceLT, Nat.reduceLeDiff, Nat.reduceSub, Nat.reduceAdd, Int.reduceAdd, Int.reduceSub, Int.reduceMul, Int.reduceEq, Nat.reduceEqDiff, Int.reducePow, lt0, lt1, lt2, lt3, cmO, ixD, look, looki, eqD, eqB, neD, boolO, cmpI, ltD, leD, gtD, geD, addD, subD, mulD, modD, fdivD, powD, negD, isD, isNotD, isNoneD, intO, ownB, ownL, putL, olAt, dAt, iaddD, isubD, intG, seq_ap, bind_ap, ret_ap, opt_ap, look_ap, var_ap, bin2_ap, bin2o_ap, bin1_ap, chain_ap, bool_ap, andT_ap, orT_ap, notT_ap, andV_ap, orV_ap, if_ap, ite_ap, cons_ap, int_ap, cont_ap, callP_ap, guard_ap, set_ap, par_ap, par3_ap, aug_ap, app_ap, sto_ap, augI_ap, asg_ap, for_ap, frz_ap, atI_pos, atI_neg, ixN_pos, ixN_neg, List.getElem?_cons_zero, List.getElem?_cons_succ, List.set_cons_zero, List.set_cons_succ, Int.le_refl, ↓reduceIte, Option.map_some, Bool.not_true, Bool.not_false, Int.toNat_natCast, List.length_cons, List.length_nil, decide_true, decide_false, decide_eq_true_eq, Bool.false_eq_true]) (by simp [rangeD]; omega) rfl (fun d hd => by
      obtain ⟨i, hi, rfl⟩ := rg_mem hd
      refine ⟨[.d (matD r f), .d (matD r g), .d (.int b), .d (.list (rangeD 0 r)), .d (.int i), .no, .no], [.d (matD r f), .d (matD r g), .d (.int b), .d (.list (rangeD 0 r)), .d (.int i), .no, .no], rfl, rfl, ?_, rfl⟩
      unfold el__law_times_3
      simp (decide := true) only [gtup, gcons, gN, g0, List.length_map, listG, mulOk_r, mulOk_l, divOk_s, rgOk_s, powOk_c, Option.bind_some, Int.reduceToNat, Int.reduceNeg, Int.reduceLE, Int.reduceLT, Nat.reduceLT, Nat.reduceLeDiff, Nat.reduceSub, Nat.reduceAdd, Int.reduceAdd, Int.reduceSub, Int.reduceMul, Int.reduceEq, Nat.reduceEqDiff, Int.reducePow, lt0, lt1, lt2, lt3, cmO, ixD, look, looki, eqD, eqB, neD, boolO, cmpI, ltD, leD, gtD, geD, addD, subD, mulD, modD, fdivD, powD, negD, isD, isNotD, isNoneD, intO, ownB, ownL, putL, olAt, dAt, iaddD, isubD, intG, seq_ap, bind_ap, ret_ap, opt_ap, look_ap, var_ap, bin2_ap, bin2o_ap, bin1_ap, chain_ap, bool_ap, andT_ap, orT_ap, notT_ap, andV_ap, orV_ap, if_ap, ite_ap, cons_ap, int_ap, cont_ap, callP_ap, guard_ap, set_ap, par_ap, par3_ap, aug_ap, app_ap, sto_ap, augI_ap, asg_ap, for_ap, frz_ap, atI_pos, atI_neg, ixN_pos, ixN_neg, List.getElem?_cons_zero, List.getElem?_cons_succ, List.set_cons_zero, List.set_cons_succ, Int.le_refl, ↓reduceIte, Option.map_some, Bool.not_true, Bool.not_false, Int.toNat_natCast, List.length_cons, List.length_nil, decide_true, decide_false, decide_eq_true_eq, Bool.false_eq_true, lc_t2 r f g b hb i hi hr hf, onI, rowD])
  unfold lc__law_times_3
  rw [e, rg_map]
  rfl
def mulT (r : Nat) (b : Int) (f g : Nat → Nat → Int) : Nat → Nat → Int := fun i j => S r (fun k => f i k * g k j) % b
theorem times_eq (r : Nat) (f g : Nat → Nat → Int) (b : Int) (hb : 0 < b) (hr : r ≤ 3) (hf : sm64 r f) : den__law_times [matD r f, matD r g, .int b] = some (matD r (mulT r b f g)) := by
  have el : ((List.range r).map fun i => rowD r (f i)).length = r := by simp
  rw [run__law_times, u__law_times]
  have e := lc_t3 r f g b hb hr hf
  have hc : (0 : Int) ≤ r ∧ (r : Int) ≤ 16000000 ∧ (0 : Int) ≤ 0 ∧ (0 : Int) ≤ 16000000 := by omega
  have e1 : (lrO (lenM (cmD (varM 0)))) [.d (matD r f), .d (matD r g), .d (.int b), .no, .no, .no, .no] = some (rangeD 0 r, [.d (matD r f), .d (matD r g), .d (.int b), .no, .no, .no, .no]) := by
    unfold lrO
    simp only [gtup, gcons, gN, g0, List.length_map, listG, mulOk_r, mulOk_l, divOk_s, rgOk_s, powOk_c, Option.bind_some, Int.reduceToNat, Int.reduceNeg, Int.reduceLE, Int.reduceLT, Nat.reduceLT, Nat.reduceLeDiff, Nat.reduceSub, Nat.reduceAdd, Int.reduceAdd, Int.reduceSub, Int.reduceMul, Int.reduceEq, Nat.reduceEqDiff, Int.reducePow, lt0, lt1, lt2, lt3, cmO, ixD, look, looki, eqD, eqB, neD, boolO, cmpI, ltD, leD, gtD, geD, addD, subD, mulD, modD, fdivD, powD, negD, isD, isNotD, isNoneD, intO, ownB, ownL, putL, olAt, dAt, iaddD, isubD, intG, seq_ap, bind_ap, ret_ap, opt_ap, look_ap, var_ap, bin2_ap, bin2o_ap, bin1_ap, chain_ap, bool_ap, andT_ap, orT_ap, notT_ap, andV_ap, orV_ap, if_ap, ite_ap, cons_ap, int_ap, cont_ap, callP_ap, guard_ap, set_ap, par_ap, par3_ap, aug_ap, app_ap, sto_ap, augI_ap, asg_ap, for_ap, frz_ap, atI_pos, atI_neg, ixN_pos, ixN_neg, List.getElem?_cons_zero, List.getElem?_cons_succ, List.set_cons_zero, List.set_cons_succ, Int.le_refl, ↓reduceIte, Option.map_some, Bool.not_true, Bool.not_false, Int.toNat_natCast, List.length_cons, List.length_nil, decide_true, decide_false, decide_eq_true_eq, Bool.false_eq_true, matD, el, lrG, hc, and_self, Int.zero_le_ofNat]
  simp (decide := true) only [gtup, gcons, gN, g0, List.length_map, listG, mulOk_r, mulOk_l, divOk_s, rgOk_s, powOk_c, Option.bind_some, Int.reduceToNat, Int.reduceNeg, Int.reduceLE, Int.reduceLT, Nat.reduceLT, Nat.reduceLeDiff, Nat.reduceSub, Nat.reduceAdd, Int.reduceAdd, Int.reduceSub, Int.reduceMul, Int.reduceEq, Nat.reduceEqDiff, Int.reducePow, lt0, lt1, lt2, lt3, cmO, ixD, look, looki, eqD, eqB, neD, boolO, cmpI, ltD, leD, gtD, geD, addD, subD, mulD, modD, fdivD, powD, negD, isD, isNotD, isNoneD, intO, ownB, ownL, putL, olAt, dAt, iaddD, isubD, intG, seq_ap, bind_ap, ret_ap, opt_ap, look_ap, var_ap, bin2_ap, bin2o_ap, bin1_ap, chain_ap, bool_ap, andT_ap, orT_ap, notT_ap, andV_ap, orV_ap, if_ap, ite_ap, cons_ap, int_ap, cont_ap, callP_ap, guard_ap, set_ap, par_ap, par3_ap, aug_ap, app_ap, sto_ap, augI_ap, asg_ap, for_ap, frz_ap, atI_pos, atI_neg, ixN_pos, ixN_neg, List.getElem?_cons_zero, List.getElem?_cons_succ, List.set_cons_zero, List.set_cons_succ, Int.le_refl, ↓reduceIte, Option.map_some, Bool.not_true, Bool.not_false, Int.toNat_natCast, List.length_cons, List.length_nil, decide_true, decide_false, decide_eq_true_eq, Bool.false_eq_true, e1, e]
  rfl
theorem mulT_sm {r : Nat} {b : Int} (hb : 0 < b) (hb2 : b < 18446744073709551616) (f g : Nat → Nat → Int) : sm64 r (mulT r b f g) := fun i j _ _ => by
  have h1 := Int.emod_nonneg (S r (fun k => f i k * g k j)) (show b ≠ 0 by omega)
  have h2 := Int.emod_lt_of_pos (S r (fun k => f i k * g k j)) hb
  show (S r (fun k => f i k * g k j) % b).natAbs < _
  omega
/-! ### tables act on the terms -/
def Act (r : Nat) (t : Nat → Int) (b : Int) (P : Nat → Nat → Int) (e : Nat) : Prop := ∀ m i, i < r → b ∣ S r (fun j => P i j * t (m + (r - 1 - j))) - t (m + e + (r - 1 - i))
theorem act_mul {r : Nat} {t : Nat → Int} {b : Int} {P Q : Nat → Nat → Int} {e f : Nat} (hP : Act r t b P e) (hQ : Act r t b Q f) : Act r t b (mulT r b P Q) (f + e) := fun m i hi => by
  have h1 : b ∣ S r (fun j => mulT r b P Q i j * t (m + (r - 1 - j))) - S r (fun j => S r (fun k => P i k * Q k j) * t (m + (r - 1 - j))) := S_dvd fun j hj => by
    have : mulT r b P Q i j * t (m + (r - 1 - j)) - S r (fun k => P i k * Q k j) * t (m + (r - 1 - j)) = (S r (fun k => P i k * Q k j) % b - S r (fun k => P i k * Q k j)) * t (m + (r - 1 - j)) := by
      rw [Int.sub_mul]; rfl
    rw [this]
    refine Int.dvd_mul_of_dvd_left ?_
    refine ⟨-(S r (fun k => P i k * Q k j) / b), ?_⟩
    rw [Int.mul_neg]
    have := Int.emod_add_mul_ediv (S r (fun k => P i k * Q k j)) b
    omega
  have h2 : S r (fun j => S r (fun k => P i k * Q k j) * t (m + (r - 1 - j))) = S r (fun k => P i k * S r (fun j => Q k j * t (m + (r - 1 - j)))) := by
    rw [S_congr (g := fun j => S r (fun k => P i k * Q k j * t (m + (r - 1 - j)))) fun j _ => (S_mul r (t (m + (r - 1 - j))) (fun k => P i k * Q k j)).symm, S_swap]
    apply S_congr
    intro k _
    rw [← S_mul_l]
    apply S_congr
    intro j _
    rw [Int.mul_assoc]
  have h3 : b ∣ S r (fun k => P i k * S r (fun j => Q k j * t (m + (r - 1 - j)))) - S r (fun k => P i k * t (m + f + (r - 1 - k))) := S_dvd fun k hk => by
    rw [← Int.mul_sub]
    exact Int.dvd_mul_of_dvd_right (hQ m k hk)
  have h4 := hP (m + f) i hi
  rw [h2] at h1
  have h5 := Int.dvd_add (Int.dvd_add h1 h3) h4
  rw [show m + (f + e) + (r - 1 - i) = m + f + e + (r - 1 - i) by omega]
  refine cast (congrArg (b ∣ ·) ?_) h5
  omega
def unitT : Nat → Nat → Int := fun i j => if i = j then 1 else 0
def stepT (a : List Int) : Nat → Nat → Int := fun i j => if i = 0 then (a[j]?).getD 0 else if (j : Int) = (i : Int) - 1 then 1 else 0
theorem S_one {r : Nat} {f : Nat → Int} {i : Nat} (hi : i < r) (h : ∀ j, j < r → j ≠ i → f j = 0) : S r f = f i := by
  induction r with
  | zero => omega
  | succ r ih =>
    rw [S_succ]
    by_cases e : i = r
    · subst e
      rw [S_congr (g := fun _ => 0) fun k hk => h k (by omega) (by omega)]
      have : ∀ s, S s (fun _ => (0 : Int)) = 0 := fun s => by
        induction s with
        | zero => rfl
        | succ s ih => rw [S_succ, ih]; rfl
      rw [this]; omega
    · rw [ih (by omega) fun j hj hn => h j (by omega) hn, h r (by omega) (fun e2 => e e2.symm)]; omega
theorem act_unit (r : Nat) (t : Nat → Int) (b : Int) : Act r t b unitT 0 := fun m i hi => by
  rw [S_one (i := i) hi fun j hj hn => by rw [unitT, if_neg (fun h => hn h.symm), Int.zero_mul]]
  simp [unitT]
theorem act_step {a : List Int} {r : Nat} {t : Nat → Int} (hr : a.length = r) (ht : ∀ m, t (m + r) = S r (fun j => (a[j]?).getD 0 * t (m + (r - 1 - j)))) (b : Int) : Act r t b (stepT a) 1 := fun m i hi => by
  by_cases h0 : i = 0
  · subst h0
    have : S r (fun j => stepT a 0 j * t (m + (r - 1 - j))) = t (m + 1 + (r - 1 - 0)) := by
      rw [show m + 1 + (r - 1 - 0) = m + r by omega, ht]
      rfl
    rw [this]; simp
  · rw [S_one (i := i - 1) (by omega) fun j hj hn => by
      have : ¬ ((j : Int) = (i : Int) - 1) := by omega
      simp [stepT, h0, this]]
    have h1 : ((i - 1 : Nat) : Int) = (i : Int) - 1 := by omega
    simp only [stepT, h0, if_false, h1, if_true, Int.one_mul]
    rw [show m + 1 + (r - 1 - i) = m + (r - 1 - (i - 1)) by omega]
    simp
theorem act_sq {r : Nat} {t : Nat → Int} {b : Int} {P : Nat → Nat → Int} {e : Nat} (hP : Act r t b P e) : Act r t b (mulT r b P P) (2 * e) := by
  rw [Nat.two_mul]; exact act_mul hP hP
/-! ### the terms keep the rule -/
theorem dot_S (a : List Int) : ∀ (xs : List Int), a.length ≤ xs.length → dot a xs = S a.length (fun j => (a[j]?).getD 0 * (xs[j]?).getD 0) := by
  intro xs h
  unfold dot S
  congr 1
  apply List.ext_getElem?
  intro i
  by_cases hi : i < a.length
  · have : i < xs.length := by omega
    rw [List.getElem?_zipWith]
    simp [hi, this]
  · rw [List.getElem?_eq_none (by simp; omega), List.getElem?_eq_none (by simp; omega)]
theorem T_rule {a u : List Int} (hl : u.length = a.length) (h1 : 1 ≤ a.length) (m : Nat) : T a u (m + a.length) = S a.length (fun j => (a[j]?).getD 0 * T a u (m + (a.length - 1 - j))) := by
  have e := gr_T (a := a) (u := u) (k := m + 1) (i := m + a.length) (by omega) (by omega)
  have hg := gr_length a u m
  have e2 : (gr a u (m + 1))[m + a.length]? = some (dot a (gr a u m).reverse) := by
    show (gr a u m ++ [_])[m + a.length]? = _
    rw [List.getElem?_append_right (by omega), hg, hl, show m + a.length - (a.length + m) = 0 by omega]
    rfl
  rw [e2] at e
  have e3 := Option.some.inj e
  rw [← e3, dot_S a _ (by simp; omega)]
  apply S_congr
  intro j hj
  congr 1
  rw [List.getElem?_reverse (by omega), hg, gr_T (by omega) (by omega), show u.length + m - 1 - j = m + (a.length - 1 - j) by omega]
  rfl
theorem T_start {a u : List Int} {i : Nat} (h : i < u.length) : u[i]? = some (T a u i) := by
  have := gr_T (a := a) (u := u) (k := 0) (i := i) (by omega) (by omega)
  exact this
end PDL
end
noncomputable section
namespace PDL
open PySem L2 PD
theorem lc_f1 (o n b a u s6 s7 s8 : Sl) (r i : Nat) (hi : i < r) (hr : r ≤ 3) : lc__law_far_1 [o, n, b, a, u, .d (.int r), s6, s7, s8, .d (.int i), .no] = some ((List.range r).map fun j => .int (unitT i j), [o, n, b, a, u, .d (.int r), s6, s7, s8, .d (.int i), .no]) := by
  have hr1 : RgOk ((r : Nat) : Int) ↔ True := rgOk_s (by omega) (by omega)
  have e := lc_map (fi := rngM (consM (varM 5) nilM)) (vs := [10]) (ft := gN 10) (tt := retM true) (fe := el__law_far_1) (ρ := [o, n, b, a, u, .d (.int r), s6, s7, s8, .d (.int i), .no]) (ρf := [o, n, b, a, u, .d (.int r), s6, s7, s8, .d (.int i), .no]) (ds := rangeD 0 r) [o, n, b, a, u, .d (.int r), s6, s7, s8, .d (.int i), .no] (onI fun j => .int (unitT i j))
    (by simp (decide := true) only [gtup, gcons, gN, g0, List.length_map, listG, mulOk_r, mulOk_l, divOk_s, rgOk_s, powOk_c, Option.bind_some, Int.reduceToNat, Int.reduceNeg, Int.reduceLE, Int.reduceLT, Nat.reduceLT, Nat.reduceLeDiff, Nat.reduceSub, Nat.reduceAdd, Int.reduceAdd, Int.reduceSub, Int.reduceMul, Int.reduceEq, Nat.reduceEqDiff, Int.reducePow, lt0, lt1, lt2, lt3, cmO, ixD, look, looki, eqD, eqB, neD, boolO, cmpI, ltD, leD, gtD, geD, addD, subD, mulD, modD, fdivD, powD, negD, isD, isNotD, isNoneD, intO, ownB, ownL, putL, olAt, dAt, iaddD, isubD, intG, seq_ap, bind_ap, ret_ap, opt_ap, look_ap, var_ap, bin2_ap, bin2o_ap, bin1_ap, chain_ap, bool_ap, andT_ap, orT_ap, notT_ap, andV_ap, orV_ap, if_ap, ite_ap, cons_ap, int_ap, cont_ap, callP_ap, guard_ap, set_ap, par_ap, par3_ap, aug_ap, app_ap, sto_ap, augI_ap, asg_ap, for_ap, frz_ap, atI_pos, atI_neg, ixN_pos, ixN_neg, List.getElem?_cons_zero, List.getElem?_cons_succ, List.set_cons_zero, List.set_cons_succ, Int.le_refl, ↓reduceIte, Option.map_some, Bool.not_true, Bool.not_false, Int.toNat_natCast, List.length_cons, List.length_nil, decide_true, decide_false, decide_eq_true_eq, Bool.false_eq_true, rangeG, hr1]) (by simp [rangeD]; omega) rfl (fun d hd => by
      obtain ⟨j, hj, rfl⟩ := rg_mem hd
      refine ⟨[o, n, b, a, u, .d (.int r), s6, s7, s8, .d (.int i), .d (.int j)], [o, n, b, a, u, .d (.int r), s6, s7, s8, .d (.int i), .d (.int j)], rfl, rfl, ?_, rfl⟩
      unfold el__law_far_1
      have : ((i : Int) = (j : Int)) = (i = j) := propext ⟨fun h => by omega, fun h => by omega⟩
      simp (decide := true) only [gtup, gcons, gN, g0, List.length_map, listG, mulOk_r, mulOk_l, divOk_s, rgOk_s, powOk_c, Option.bind_some, Int.reduceToNat, Int.reduceNeg, Int.reduceLE, Int.reduceLT, Nat.reduceLT, Nat.reduceLeDiff, Nat.reduceSub, Nat.reduceAdd, Int.reduceAdd, Int.reduceSub, Int.reduceMul, Int.reduceEq, Nat.reduceEqDiff, Int.reducePow, lt0, lt1, lt2, lt3, cmO, ixD, look, looki, eqD, eqB, neD, boolO, cmpI, ltD, leD, gtD, geD, addD, subD, mulD, modD, fdivD, powD, negD, isD, isNotD, isNoneD, intO, ownB, ownL, putL, olAt, dAt, iaddD, isubD, intG, seq_ap, bind_ap, ret_ap, opt_ap, look_ap, var_ap, bin2_ap, bin2o_ap, bin1_ap, chain_ap, bool_ap, andT_ap, orT_ap, notT_ap, andV_ap, orV_ap, if_ap, ite_ap, cons_ap, int_ap, cont_ap, callP_ap, guard_ap, set_ap, par_ap, par3_ap, aug_ap, app_ap, sto_ap, augI_ap, asg_ap, for_ap, frz_ap, atI_pos, atI_neg, ixN_pos, ixN_neg, List.getElem?_cons_zero, List.getElem?_cons_succ, List.set_cons_zero, List.set_cons_succ, Int.le_refl, ↓reduceIte, Option.map_some, Bool.not_true, Bool.not_false, Int.toNat_natCast, List.length_cons, List.length_nil, decide_true, decide_false, decide_eq_true_eq, Bool.false_eq_true, onI, unitT, this])
  unfold lc__law_far_1
  rw [e, rg_map]
  rfl
theorem lc_f2 (o n b a u s6 s7 s8 : Sl) (r : Nat) (hr : r ≤ 3) : lc__law_far_2 [o, n, b, a, u, .d (.int r), s6, s7, s8, .no, .no] = some ((List.range r).map fun i => rowD r (unitT i), [o, n, b, a, u, .d (.int r), s6, s7, s8, .no, .no]) := by
  have hr1 : RgOk ((r : Nat) : Int) ↔ True := rgOk_s (by omega) (by omega)
  have e := lc_map (fi := rngM (consM (varM 5) nilM)) (vs := [9]) (ft := gN 9) (tt := retM true) (fe := el__law_far_2) (ρ := [o, n, b, a, u, .d (.int r), s6, s7, s8, .no, .no]) (ρf := [o, n, b, a, u, .d (.int r), s6, s7, s8, .no, .no]) (ds := rangeD 0 r) [o, n, b, a, u, .d (.int r), s6, s7, s8, .no, .no] (onI fun i => rowD r (unitT i))
    (by simp (decide := true) only [gtup, gcons, gN, g0, List.length_map, listG, mulOk_r, mulOk_l, divOk_s, rgOk_s, powOk_c, Option.bind_some, Int.reduceToNat, Int.reduceNeg, Int.reduceLE, Int.reduceLT, Nat.reduceLT, Nat.reduceLeDiff, Nat.reduceSub, Nat.reduceAdd, Int.reduceAdd, Int.reduceSub, Int.reduceMul, Int.reduceEq, Nat.reduceEqDiff, Int.reducePow, lt0, lt1, lt2, lt3, cmO, ixD, look, looki, eqD, eqB, neD, boolO, cmpI, ltD, leD, gtD, geD, addD, subD, mulD, modD, fdivD, powD, negD, isD, isNotD, isNoneD, intO, ownB, ownL, putL, olAt, dAt, iaddD, isubD, intG, seq_ap, bind_ap, ret_ap, opt_ap, look_ap, var_ap, bin2_ap, bin2o_ap, bin1_ap, chain_ap, bool_ap, andT_ap, orT_ap, notT_ap, andV_ap, orV_ap, if_ap, ite_ap, cons_ap, int_ap, cont_ap, callP_ap, guard_ap, set_ap, par_ap, par3_ap, aug_ap, app_ap, sto_ap, augI_ap, asg_ap, for_ap, frz_ap, atI_pos, atI_neg, ixN_pos, ixN_neg, List.getElem?_cons_zero, List.getElem?_cons_succ, List.set_cons_zero, List.set_cons_succ, Int.le_refl, ↓reduceIte, Option.map_some, Bool.not_true, Bool.not_false, Int.toNat_natCast, List.length_cons, List.length_nil, decide_true, decide_false, decide_eq_true_eq, Bool.false_eq_true, rangeG, hr1]) (by simp [rangeD]; omega) rfl (fun d hd => by
      obtain ⟨j, hj, rfl⟩ := rg_mem hd
      refine ⟨[o, n, b, a, u, .d (.int r), s6, s7, s8, .d (.int j), .no], [o, n, b, a, u, .d (.int r), s6, s7, s8, .d (.int j), .no], rfl, rfl, ?_, rfl⟩
      unfold el__law_far_2
      simp (decide := true) only [gtup, gcons, gN, g0, List.length_map, listG, mulOk_r, mulOk_l, divOk_s, rgOk_s, powOk_c, Option.bind_some, Int.reduceToNat, Int.reduceNeg, Int.reduceLE, Int.reduceLT, Nat.reduceLT, Nat.reduceLeDiff, Nat.reduceSub, Nat.reduceAdd, Int.reduceAdd, Int.reduceSub, Int.reduceMul, Int.reduceEq, Nat.reduceEqDiff, Int.reducePow, lt0, lt1, lt2, lt3, cmO, ixD, look, looki, eqD, eqB, neD, boolO, cmpI, ltD, leD, gtD, geD, addD, subD, mulD, modD, fdivD, powD, negD, isD, isNotD, isNoneD, intO, ownB, ownL, putL, olAt, dAt, iaddD, isubD, intG, seq_ap, bind_ap, ret_ap, opt_ap, look_ap, var_ap, bin2_ap, bin2o_ap, bin1_ap, chain_ap, bool_ap, andT_ap, orT_ap, notT_ap, andV_ap, orV_ap, if_ap, ite_ap, cons_ap, int_ap, cont_ap, callP_ap, guard_ap, set_ap, par_ap, par3_ap, aug_ap, app_ap, sto_ap, augI_ap, asg_ap, for_ap, frz_ap, atI_pos, atI_neg, ixN_pos, ixN_neg, List.getElem?_cons_zero, List.getElem?_cons_succ, List.set_cons_zero, List.set_cons_succ, Int.le_refl, ↓reduceIte, Option.map_some, Bool.not_true, Bool.not_false, Int.toNat_natCast, List.length_cons, List.length_nil, decide_true, decide_false, decide_eq_true_eq, Bool.false_eq_true, onI, lc_f1 o n b a u s6 s7 s8 r j hj hr, rowD])
  unfold lc__law_far_2
  rw [e, rg_map]
  rfl
theorem lc_f3 (o n b u s6 s7 s8 : Sl) (a : List Int) (r i : Nat) (ha : a.length = r) (hi : i < r) (hr : r ≤ 3) : lc__law_far_3 [o, n, b, .d (tupI a), u, .d (.int r), s6, s7, s8, .d (.int i), .no] = some ((List.range r).map fun j => .int (stepT a i j), [o, n, b, .d (tupI a), u, .d (.int r), s6, s7, s8, .d (.int i), .no]) := by
  have hr1 : RgOk ((r : Nat) : Int) ↔ True := rgOk_s (by omega) (by omega)
  have e := lc_map (fi := rngM (consM (varM 5) nilM)) (vs := [10]) (ft := gN 10) (tt := retM true) (fe := el__law_far_3) (ρ := [o, n, b, .d (tupI a), u, .d (.int r), s6, s7, s8, .d (.int i), .no]) (ρf := [o, n, b, .d (tupI a), u, .d (.int r), s6, s7, s8, .d (.int i), .no]) (ds := rangeD 0 r) [o, n, b, .d (tupI a), u, .d (.int r), s6, s7, s8, .d (.int i), .no] (onI fun j => .int (stepT a i j))
    (by simp (decide := true) only [gtup, gcons, gN, g0, List.length_map, listG, mulOk_r, mulOk_l, divOk_s, rgOk_s, powOk_c, Option.bind_some, Int.reduceToNat, Int.reduceNeg, Int.reduceLE, Int.reduceLT, Nat.reduceLT, Nat.reduceLeDiff, Nat.reduceSub, Nat.reduceAdd, Int.reduceAdd, Int.reduceSub, Int.reduceMul, Int.reduceEq, Nat.reduceEqDiff, Int.reducePow, lt0, lt1, lt2, lt3, cmO, ixD, look, looki, eqD, eqB, neD, boolO, cmpI, ltD, leD, gtD, geD, addD, subD, mulD, modD, fdivD, powD, negD, isD, isNotD, isNoneD, intO, ownB, ownL, putL, olAt, dAt, iaddD, isubD, intG, seq_ap, bind_ap, ret_ap, opt_ap, look_ap, var_ap, bin2_ap, bin2o_ap, bin1_ap, chain_ap, bool_ap, andT_ap, orT_ap, notT_ap, andV_ap, orV_ap, if_ap, ite_ap, cons_ap, int_ap, cont_ap, callP_ap, guard_ap, set_ap, par_ap, par3_ap, aug_ap, app_ap, sto_ap, augI_ap, asg_ap, for_ap, frz_ap, atI_pos, atI_neg, ixN_pos, ixN_neg, List.getElem?_cons_zero, List.getElem?_cons_succ, List.set_cons_zero, List.set_cons_succ, Int.le_refl, ↓reduceIte, Option.map_some, Bool.not_true, Bool.not_false, Int.toNat_natCast, List.length_cons, List.length_nil, decide_true, decide_false, decide_eq_true_eq, Bool.false_eq_true, rangeG, hr1]) (by simp [rangeD]; omega) rfl (fun d hd => by
      obtain ⟨j, hj, rfl⟩ := rg_mem hd
      refine ⟨[o, n, b, .d (tupI a), u, .d (.int r), s6, s7, s8, .d (.int i), .d (.int j)], [o, n, b, .d (tupI a), u, .d (.int r), s6, s7, s8, .d (.int i), .d (.int j)], rfl, rfl, ?_, rfl⟩
      unfold el__law_far_3
      have h0 : ((i : Int) = 0) = (i = 0) := propext ⟨fun h => by omega, fun h => by omega⟩
      have hj2 : j < a.length := by omega
      have g1 : (mI a)[j]? = some (.int a[j]) := by simp [hj2]
      by_cases hi0 : i = 0
      · simp (decide := true) only [gtup, gcons, gN, g0, List.length_map, listG, mulOk_r, mulOk_l, divOk_s, rgOk_s, powOk_c, Option.bind_some, Int.reduceToNat, Int.reduceNeg, Int.reduceLE, Int.reduceLT, Nat.reduceLT, Nat.reduceLeDiff, Nat.reduceSub, Nat.reduceAdd, Int.reduceAdd, Int.reduceSub, Int.reduceMul, Int.reduceEq, Nat.reduceEqDiff, Int.reducePow, lt0, lt1, lt2, lt3, cmO, ixD, look, looki, eqD, eqB, neD, boolO, cmpI, ltD, leD, gtD, geD, addD, subD, mulD, modD, fdivD, powD, negD, isD, isNotD, isNoneD, intO, ownB, ownL, putL, olAt, dAt, iaddD, isubD, intG, seq_ap, bind_ap, ret_ap, opt_ap, look_ap, var_ap, bin2_ap, bin2o_ap, bin1_ap, chain_ap, bool_ap, andT_ap, orT_ap, notT_ap, andV_ap, orV_ap, if_ap, ite_ap, cons_ap, int_ap, cont_ap, callP_ap, guard_ap, set_ap, par_ap, par3_ap, aug_ap, app_ap, sto_ap, augI_ap, asg_ap, for_ap, frz_ap, atI_pos, atI_neg, ixN_pos, ixN_neg, List.getElem?_cons_zero, List.getElem?_cons_succ, List.set_cons_zero, List.set_cons_succ, Int.le_refl, ↓reduceIte, Option.map_some, Bool.not_true, Bool.not_false, Int.toNat_natCast, List.length_cons, List.length_nil, decide_true, decide_false, decide_eq_true_eq, Bool.false_eq_true, onI, stepT, h0, hi0, g1, Int.natCast_nonneg]
        simp [hj2]
      · simp (decide := true) only [gtup, gcons, gN, g0, List.length_map, listG, mulOk_r, mulOk_l, divOk_s, rgOk_s, powOk_c, Option.bind_some, Int.reduceToNat, Int.reduceNeg, Int.reduceLE, Int.reduceLT, Nat.reduceLT, Nat.reduceLeDiff, Nat.reduceSub, Nat.reduceAdd, Int.reduceAdd, Int.reduceSub, Int.reduceMul, Int.reduceEq, Nat.reduceEqDiff, Int.reducePow, lt0, lt1, lt2, lt3, cmO, ixD, look, looki, eqD, eqB, neD, boolO, cmpI, ltD, leD, gtD, geD, addD, subD, mulD, modD, fdivD, powD, negD, isD, isNotD, isNoneD, intO, ownB, ownL, putL, olAt, dAt, iaddD, isubD, intG, seq_ap, bind_ap, ret_ap, opt_ap, look_ap, var_ap, bin2_ap, bin2o_ap, bin1_ap, chain_ap, bool_ap, andT_ap, orT_ap, notT_ap, andV_ap, orV_ap, if_ap, ite_ap, cons_ap, int_ap, cont_ap, callP_ap, guard_ap, set_ap, par_ap, par3_ap, aug_ap, app_ap, sto_ap, augI_ap, asg_ap, for_ap, frz_ap, atI_pos, atI_neg, ixN_pos, ixN_neg, List.getElem?_cons_zero, List.getElem?_cons_succ, List.set_cons_zero, List.set_cons_succ, Int.le_refl, ↓reduceIte, Option.map_some, Bool.not_true, Bool.not_false, Int.toNat_natCast, List.length_cons, List.length_nil, decide_true, decide_false, decide_eq_true_eq, Bool.false_eq_true, onI, stepT, h0, hi0])
  unfold lc__law_far_3
  rw [e, rg_map]
  rfl
theorem lc_f4 (o n b u s6 s7 s8 : Sl) (a : List Int) (r : Nat) (ha : a.length = r) (hr : r ≤ 3) : lc__law_far_4 [o, n, b, .d (tupI a), u, .d (.int r), s6, s7, s8, .no, .no] = some ((List.range r).map fun i => rowD r (stepT a i), [o, n, b, .d (tupI a), u, .d (.int r), s6, s7, s8, .no, .no]) := by
  have hr1 : RgOk ((r : Nat) : Int) ↔ True := rgOk_s (by omega) (by omega)
  have e := lc_map (fi := rngM (consM (varM 5) nilM)) (vs := [9]) (ft := gN 9) (tt := retM true) (fe := el__law_far_4) (ρ := [o, n, b, .d (tupI a), u, .d (.int r), s6, s7, s8, .no, .no]) (ρf := [o, n, b, .d (tupI a), u, .d (.int r), s6, s7, s8, .no, .no]) (ds := rangeD 0 r) [o, n, b, .d (tupI a), u, .d (.int r), s6, s7, s8, .no, .no] (onI fun i => rowD r (stepT a i))
    (by simp (decide := true) only [gtup, gcons, gN, g0, List.length_map, listG, mulOk_r, mulOk_l, divOk_s, rgOk_s, powOk_c, Option.bind_some, Int.reduceToNat, Int.reduceNeg, Int.reduceLE, Int.reduceLT, Nat.reduceLT, Nat.reduceLeDiff, Nat.reduceSub, Nat.reduceAdd, Int.reduceAdd, Int.reduceSub, Int.reduceMul, Int.reduceEq, Nat.reduceEqDiff, Int.reducePow, lt0, lt1, lt2, lt3, cmO, ixD, look, looki, eqD, eqB, neD, boolO, cmpI, ltD, leD, gtD, geD, addD, subD, mulD, modD, fdivD, powD, negD, isD, isNotD, isNoneD, intO, ownB, ownL, putL, olAt, dAt, iaddD, isubD, intG, seq_ap, bind_ap, ret_ap, opt_ap, look_ap, var_ap, bin2_ap, bin2o_ap, bin1_ap, chain_ap, bool_ap, andT_ap, orT_ap, notT_ap, andV_ap, orV_ap, if_ap, ite_ap, cons_ap, int_ap, cont_ap, callP_ap, guard_ap, set_ap, par_ap, par3_ap, aug_ap, app_ap, sto_ap, augI_ap, asg_ap, for_ap, frz_ap, atI_pos, atI_neg, ixN_pos, ixN_neg, List.getElem?_cons_zero, List.getElem?_cons_succ, List.set_cons_zero, List.set_cons_succ, Int.le_refl, ↓reduceIte, Option.map_some, Bool.not_true, Bool.not_false, Int.toNat_natCast, List.length_cons, List.length_nil, decide_true, decide_false, decide_eq_true_eq, Bool.false_eq_true, rangeG, hr1]) (by simp [rangeD]; omega) rfl (fun d hd => by
      obtain ⟨j, hj, rfl⟩ := rg_mem hd
      refine ⟨[o, n, b, .d (tupI a), u, .d (.int r), s6, s7, s8, .d (.int j), .no], [o, n, b, .d (tupI a), u, .d (.int r), s6, s7, s8, .d (.int j), .no], rfl, rfl, ?_, rfl⟩
      unfold el__law_far_4
      simp (decide := true) only [gtup, gcons, gN, g0, List.length_map, listG, mulOk_r, mulOk_l, divOk_s, rgOk_s, powOk_c, Option.bind_some, Int.reduceToNat, Int.reduceNeg, Int.reduceLE, Int.reduceLT, Nat.reduceLT, Nat.reduceLeDiff, Nat.reduceSub, Nat.reduceAdd, Int.reduceAdd, Int.reduceSub, Int.reduceMul, Int.reduceEq, Nat.reduceEqDiff, Int.reducePow, lt0, lt1, lt2, lt3, cmO, ixD, look, looki, eqD, eqB, neD, boolO, cmpI, ltD, leD, gtD, geD, addD, subD, mulD, modD, fdivD, powD, negD, isD, isNotD, isNoneD, intO, ownB, ownL, putL, olAt, dAt, iaddD, isubD, intG, seq_ap, bind_ap, ret_ap, opt_ap, look_ap, var_ap, bin2_ap, bin2o_ap, bin1_ap, chain_ap, bool_ap, andT_ap, orT_ap, notT_ap, andV_ap, orV_ap, if_ap, ite_ap, cons_ap, int_ap, cont_ap, callP_ap, guard_ap, set_ap, par_ap, par3_ap, aug_ap, app_ap, sto_ap, augI_ap, asg_ap, for_ap, frz_ap, atI_pos, atI_neg, ixN_pos, ixN_neg, List.getElem?_cons_zero, List.getElem?_cons_succ, List.set_cons_zero, List.set_cons_succ, Int.le_refl, ↓reduceIte, Option.map_some, Bool.not_true, Bool.not_false, Int.toNat_natCast, List.length_cons, List.length_nil, decide_true, decide_false, decide_eq_true_eq, Bool.false_eq_true, onI, lc_f3 o n b u s6 s7 s8 a r j ha hj hr, rowD])
  unfold lc__law_far_4
  rw [e, rg_map]
  rfl
theorem lc_f5 (o n b a s7 s8 : Sl) (u : List Int) (P : Nat → Nat → Int) (r : Nat) (hu : u.length = r) (hr0 : 1 ≤ r) (hr : r ≤ 3) (hP : sm64 r P) : lc__law_far_5 [o, n, b, a, .d (tupI u), .d (.int r), .d (matD r P), s7, s8, .no, .no] = some (mI ((List.range r).map fun j => P (r - 1) j * (u[r - 1 - j]?).getD 0), [o, n, b, a, .d (tupI u), .d (.int r), .d (matD r P), s7, s8, .no, .no]) := by
  have hr1 : RgOk ((r : Nat) : Int) ↔ True := rgOk_s (by omega) (by omega)
  have e := lc_map (fi := rngM (consM (varM 5) nilM)) (vs := [10]) (ft := gN 10) (tt := retM true) (fe := el__law_far_5) (ρ := [o, n, b, a, .d (tupI u), .d (.int r), .d (matD r P), s7, s8, .no, .no]) (ρf := [o, n, b, a, .d (tupI u), .d (.int r), .d (matD r P), s7, s8, .no, .no]) (ds := rangeD 0 r) [o, n, b, a, .d (tupI u), .d (.int r), .d (matD r P), s7, s8, .no, .no] (onI fun j => .int (P (r - 1) j * (u[r - 1 - j]?).getD 0))
    (by simp (decide := true) only [gtup, gcons, gN, g0, List.length_map, listG, mulOk_r, mulOk_l, divOk_s, rgOk_s, powOk_c, Option.bind_some, Int.reduceToNat, Int.reduceNeg, Int.reduceLE, Int.reduceLT, Nat.reduceLT, Nat.reduceLeDiff, Nat.reduceSub, Nat.reduceAdd, Int.reduceAdd, Int.reduceSub, Int.reduceMul, Int.reduceEq, Nat.reduceEqDiff, Int.reducePow, lt0, lt1, lt2, lt3, cmO, ixD, look, looki, eqD, eqB, neD, boolO, cmpI, ltD, leD, gtD, geD, addD, subD, mulD, modD, fdivD, powD, negD, isD, isNotD, isNoneD, intO, ownB, ownL, putL, olAt, dAt, iaddD, isubD, intG, seq_ap, bind_ap, ret_ap, opt_ap, look_ap, var_ap, bin2_ap, bin2o_ap, bin1_ap, chain_ap, bool_ap, andT_ap, orT_ap, notT_ap, andV_ap, orV_ap, if_ap, ite_ap, cons_ap, int_ap, cont_ap, callP_ap, guard_ap, set_ap, par_ap, par3_ap, aug_ap, app_ap, sto_ap, augI_ap, asg_ap, for_ap, frz_ap, atI_pos, atI_neg, ixN_pos, ixN_neg, List.getElem?_cons_zero, List.getElem?_cons_succ, List.set_cons_zero, List.set_cons_succ, Int.le_refl, ↓reduceIte, Option.map_some, Bool.not_true, Bool.not_false, Int.toNat_natCast, List.length_cons, List.length_nil, decide_true, decide_false, decide_eq_true_eq, Bool.false_eq_true, rangeG, hr1]) (by simp [rangeD]; omega) rfl (fun d hd => by
      obtain ⟨j, hj, rfl⟩ := rg_mem hd
      refine ⟨[o, n, b, a, .d (tupI u), .d (.int r), .d (matD r P), s7, s8, .no, .d (.int j)], [o, n, b, a, .d (tupI u), .d (.int r), .d (matD r P), s7, s8, .no, .d (.int j)], rfl, rfl, ?_, rfl⟩
      unfold el__law_far_5
      have h0 : ((r : Nat) : Int) - 1 = ((r - 1 : Nat) : Int) := by omega
      have h1 : ((r - 1 : Nat) : Int) - (j : Int) = ((r - 1 - j : Nat) : Int) := by omega
      have hj2 : r - 1 - j < u.length := by omega
      have hr2 : r - 1 < r := by omega
      have g1 : (mI u)[r - 1 - j]? = some (.int u[r - 1 - j]) := by simp [hj2]
      simp (decide := true) only [gtup, gcons, gN, g0, List.length_map, listG, mulOk_r, mulOk_l, divOk_s, rgOk_s, powOk_c, Option.bind_some, Int.reduceToNat, Int.reduceNeg, Int.reduceLE, Int.reduceLT, Nat.reduceLT, Nat.reduceLeDiff, Nat.reduceSub, Nat.reduceAdd, Int.reduceAdd, Int.reduceSub, Int.reduceMul, Int.reduceEq, Nat.reduceEqDiff, Int.reducePow, lt0, lt1, lt2, lt3, cmO, ixD, look, looki, eqD, eqB, neD, boolO, cmpI, ltD, leD, gtD, geD, addD, subD, mulD, modD, fdivD, powD, negD, isD, isNotD, isNoneD, intO, ownB, ownL, putL, olAt, dAt, iaddD, isubD, intG, seq_ap, bind_ap, ret_ap, opt_ap, look_ap, var_ap, bin2_ap, bin2o_ap, bin1_ap, chain_ap, bool_ap, andT_ap, orT_ap, notT_ap, andV_ap, orV_ap, if_ap, ite_ap, cons_ap, int_ap, cont_ap, callP_ap, guard_ap, set_ap, par_ap, par3_ap, aug_ap, app_ap, sto_ap, augI_ap, asg_ap, for_ap, frz_ap, atI_pos, atI_neg, ixN_pos, ixN_neg, List.getElem?_cons_zero, List.getElem?_cons_succ, List.set_cons_zero, List.set_cons_succ, Int.le_refl, ↓reduceIte, Option.map_some, Bool.not_true, Bool.not_false, Int.toNat_natCast, List.length_cons, List.length_nil, decide_true, decide_false, decide_eq_true_eq, Bool.false_eq_true, onI, h0, h1, g1, Int.natCast_nonneg, matD, rowD, List.getElem?_map, List.getElem?_range hr2, List.getElem?_range hj, Option.map_some, mulOk_l (hP (r - 1) j hr2 hj)]
      simp [hj2])
  unfold lc__law_far_5
  rw [e, rg_map, range_int]
  rfl
theorem lp_far {a u : List Int} (h : Rec a u) (o s8 : Sl) (b : Int) (hb : 0 < b) (hb2 : b < 18446744073709551616) (N : Nat) (hN : N < 4096) : ∃ (n' s7 s8' : Sl) (P : Nat → Nat → Int), lp__law_far_1 [o, .d (.int N), .d (.int b), .d (tupI a), .d (tupI u), .d (.int a.length), .d (matD a.length unitT), .d (matD a.length (stepT a)), s8, .no, .no] = some (.nx, [o, n', .d (.int b), .d (tupI a), .d (tupI u), .d (.int a.length), .d (matD a.length P), s7, s8', .no, .no]) ∧ sm64 a.length P ∧ Act a.length (T a u) b P N := by
  have hl3 := h.l3
  have hr1 : RgOk 12 ↔ True := rgOk_s (by omega) (by omega)
  have hbd : ∀ (n : Nat) (P Q : Nat → Nat → Int) (s8 : Sl) (e q : Nat), sm64 a.length P → sm64 a.length Q → Act a.length (T a u) b P e → Act a.length (T a u) b Q q → 0 < n →
      ∃ P' Q', bd__law_far_1 [o, .d (.int n), .d (.int b), .d (tupI a), .d (tupI u), .d (.int a.length), .d (matD a.length P), .d (matD a.length Q), s8, .no, .no] = some (.nx, [o, .d (.int (n / 2 : Nat)), .d (.int b), .d (tupI a), .d (tupI u), .d (.int a.length), .d (matD a.length P'), .d (matD a.length Q'), s8, .no, .no]) ∧ sm64 a.length P' ∧ sm64 a.length Q' ∧ Act a.length (T a u) b P' (e + q * (n % 2)) ∧ Act a.length (T a u) b Q' (2 * q) := by
    intro n P Q s8 e q hP hQ aP aQ hn
    have e1 := times_eq a.length P Q b hb hl3 hP
    have e2 := times_eq a.length Q Q b hb hl3 hQ
    have hn0 : ((n : Int) = 0) = False := eq_false (by omega)
    have hdiv : ((n : Nat) : Int) / 2 = ((n / 2 : Nat) : Int) := by omega
    have hmod : ((n : Nat) : Int) % 2 = ((n % 2 : Nat) : Int) := by omega
    rcases Nat.mod_two_eq_zero_or_one n with hm | hm
    · refine ⟨P, mulT a.length b Q Q, ?_, hP, mulT_sm hb hb2 Q Q, by rw [hm]; simpa using aP, act_sq aQ⟩
      unfold bd__law_far_1
      have hm2 : (((n % 2 : Nat) : Int) = 1) = False := eq_false (by omega)
      simp (decide := true) only [gtup, gcons, gN, g0, List.length_map, listG, mulOk_r, mulOk_l, divOk_s, rgOk_s, powOk_c, Option.bind_some, Int.reduceToNat, Int.reduceNeg, Int.reduceLE, Int.reduceLT, Nat.reduceLT, Nat.reduceLeDiff, Nat.reduceSub, Nat.reduceAdd, Int.reduceAdd, Int.reduceSub, Int.reduceMul, Int.reduceEq, Nat.reduceEqDiff, Int.reducePow, lt0, lt1, lt2, lt3, cmO, ixD, look, looki, eqD, eqB, neD, boolO, cmpI, ltD, leD, gtD, geD, addD, subD, mulD, modD, fdivD, powD, negD, isD, isNotD, isNoneD, intO, ownB, ownL, putL, olAt, dAt, iaddD, isubD, intG, seq_ap, bind_ap, ret_ap, opt_ap, look_ap, var_ap, bin2_ap, bin2o_ap, bin1_ap, chain_ap, bool_ap, andT_ap, orT_ap, notT_ap, andV_ap, orV_ap, if_ap, ite_ap, cons_ap, int_ap, cont_ap, callP_ap, guard_ap, set_ap, par_ap, par3_ap, aug_ap, app_ap, sto_ap, augI_ap, asg_ap, for_ap, frz_ap, atI_pos, atI_neg, ixN_pos, ixN_neg, List.getElem?_cons_zero, List.getElem?_cons_succ, List.set_cons_zero, List.set_cons_succ, Int.le_refl, ↓reduceIte, Option.map_some, Bool.not_true, Bool.not_false, Int.toNat_natCast, List.length_cons, List.length_nil, decide_true, decide_false, decide_eq_true_eq, Bool.false_eq_true, hn0, hdiv, hmod, hm2, e1, e2]
    · refine ⟨mulT a.length b P Q, mulT a.length b Q Q, ?_, mulT_sm hb hb2 P Q, mulT_sm hb hb2 Q Q, ?_, act_sq aQ⟩
      · unfold bd__law_far_1
        have hm2 : (((n % 2 : Nat) : Int) = 1) = True := eq_true (by omega)
        simp (decide := true) only [gtup, gcons, gN, g0, List.length_map, listG, mulOk_r, mulOk_l, divOk_s, rgOk_s, powOk_c, Option.bind_some, Int.reduceToNat, Int.reduceNeg, Int.reduceLE, Int.reduceLT, Nat.reduceLT, Nat.reduceLeDiff, Nat.reduceSub, Nat.reduceAdd, Int.reduceAdd, Int.reduceSub, Int.reduceMul, Int.reduceEq, Nat.reduceEqDiff, Int.reducePow, lt0, lt1, lt2, lt3, cmO, ixD, look, looki, eqD, eqB, neD, boolO, cmpI, ltD, leD, gtD, geD, addD, subD, mulD, modD, fdivD, powD, negD, isD, isNotD, isNoneD, intO, ownB, ownL, putL, olAt, dAt, iaddD, isubD, intG, seq_ap, bind_ap, ret_ap, opt_ap, look_ap, var_ap, bin2_ap, bin2o_ap, bin1_ap, chain_ap, bool_ap, andT_ap, orT_ap, notT_ap, andV_ap, orV_ap, if_ap, ite_ap, cons_ap, int_ap, cont_ap, callP_ap, guard_ap, set_ap, par_ap, par3_ap, aug_ap, app_ap, sto_ap, augI_ap, asg_ap, for_ap, frz_ap, atI_pos, atI_neg, ixN_pos, ixN_neg, List.getElem?_cons_zero, List.getElem?_cons_succ, List.set_cons_zero, List.set_cons_succ, Int.le_refl, ↓reduceIte, Option.map_some, Bool.not_true, Bool.not_false, Int.toNat_natCast, List.length_cons, List.length_nil, decide_true, decide_false, decide_eq_true_eq, Bool.false_eq_true, hn0, hdiv, hmod, hm2, e1, e2]
      · rw [hm, Nat.mul_one, Nat.add_comm]; exact act_mul aP aQ
  obtain ⟨o', ρ', e, k⟩ := loop_gen (ft := gN 8) (body := bd__law_far_1)
    (fun k ρ => ∃ (n : Nat) (P Q : Nat → Nat → Int) (s8 : Sl) (e : Nat), ρ = [o, .d (.int n), .d (.int b), .d (tupI a), .d (tupI u), .d (.int a.length), .d (matD a.length P), .d (matD a.length Q), s8, .no, .no] ∧ sm64 a.length P ∧ sm64 a.length Q ∧ Act a.length (T a u) b P e ∧ Act a.length (T a u) b Q (2 ^ k) ∧ e + 2 ^ k * n = N ∧ n * 2 ^ k < 4096)
    (fun ρ => ∃ (n' s7 s8 : Sl) (P : Nat → Nat → Int), ρ = [o, n', .d (.int b), .d (tupI a), .d (tupI u), .d (.int a.length), .d (matD a.length P), s7, s8, .no, .no] ∧ sm64 a.length P ∧ Act a.length (T a u) b P N) (fun _ _ => False) (rangeD 0 12) 0
    [o, .d (.int N), .d (.int b), .d (tupI a), .d (tupI u), .d (.int a.length), .d (matD a.length unitT), .d (matD a.length (stepT a)), s8, .no, .no]
    ⟨N, unitT, stepT a, s8, 0, rfl, fun i j _ _ => by unfold unitT; split <;> decide, fun i j _ hj => by
      unfold stepT
      split
      · rw [List.getElem?_eq_getElem hj]; exact h.small _ (List.getElem_mem hj)
      · split <;> decide, act_unit _ _ _, act_step rfl (T_rule h.lu h.l1) b, by simp, by simpa using hN⟩
    (by
      rintro k d ρ hd ⟨n, P, Q, s8, e, rfl, hP, hQ, aP, aQ, hs, hb3⟩
      refine ⟨[o, .d (.int n), .d (.int b), .d (tupI a), .d (tupI u), .d (.int a.length), .d (matD a.length P), .d (matD a.length Q), .d d, .no, .no], rfl, ?_⟩
      by_cases hn : n = 0
      · subst hn
        refine ⟨.bk, [o, .d (.int (0 : Nat)), .d (.int b), .d (tupI a), .d (tupI u), .d (.int a.length), .d (matD a.length P), .d (matD a.length Q), .d d, .no, .no], ?_, _, _, _, P, rfl, hP, ?_⟩
        · unfold bd__law_far_1
          simp (decide := true) only [gtup, gcons, gN, g0, List.length_map, listG, mulOk_r, mulOk_l, divOk_s, rgOk_s, powOk_c, Option.bind_some, Int.reduceToNat, Int.reduceNeg, Int.reduceLE, Int.reduceLT, Nat.reduceLT, Nat.reduceLeDiff, Nat.reduceSub, Nat.reduceAdd, Int.reduceAdd, Int.reduceSub, Int.reduceMul, Int.reduceEq, Nat.reduceEqDiff, Int.reducePow, lt0, lt1, lt2, lt3, cmO, ixD, look, looki, eqD, eqB, neD, boolO, cmpI, ltD, leD, gtD, geD, addD, subD, mulD, modD, fdivD, powD, negD, isD, isNotD, isNoneD, intO, ownB, ownL, putL, olAt, dAt, iaddD, isubD, intG, seq_ap, bind_ap, ret_ap, opt_ap, look_ap, var_ap, bin2_ap, bin2o_ap, bin1_ap, chain_ap, bool_ap, andT_ap, orT_ap, notT_ap, andV_ap, orV_ap, if_ap, ite_ap, cons_ap, int_ap, cont_ap, callP_ap, guard_ap, set_ap, par_ap, par3_ap, aug_ap, app_ap, sto_ap, augI_ap, asg_ap, for_ap, frz_ap, atI_pos, atI_neg, ixN_pos, ixN_neg, List.getElem?_cons_zero, List.getElem?_cons_succ, List.set_cons_zero, List.set_cons_succ, Int.le_refl, ↓reduceIte, Option.map_some, Bool.not_true, Bool.not_false, Int.toNat_natCast, List.length_cons, List.length_nil, decide_true, decide_false, decide_eq_true_eq, Bool.false_eq_true, Int.natCast_zero]
        · rw [Nat.mul_zero, Nat.add_zero] at hs; rw [← hs]; exact aP
      · obtain ⟨P', Q', e2, hP', hQ', aP', aQ'⟩ := hbd n P Q (.d d) e (2 ^ (0 + k)) hP hQ aP aQ (by omega)
        refine ⟨.nx, _, e2, n / 2, P', Q', _, _, rfl, hP', hQ', aP', by rw [Nat.pow_succ, Nat.mul_comm]; exact aQ', ?_, ?_⟩
        · have := Nat.div_add_mod n 2
          rw [← hs, Nat.pow_succ, Nat.add_assoc]
          congr 1
          rw [Nat.mul_assoc, ← Nat.mul_add]
          congr 1
          omega
        · rw [Nat.pow_succ]
          have : n / 2 * 2 ≤ n := Nat.div_mul_le_self n 2
          calc n / 2 * (2 ^ (0 + k) * 2) = (n / 2 * 2) * 2 ^ (0 + k) := by rw [Nat.mul_assoc, Nat.mul_comm 2]
            _ ≤ n * 2 ^ (0 + k) := Nat.mul_le_mul_right _ this
            _ < 4096 := hb3)
  have e' : lp__law_far_1 [o, .d (.int N), .d (.int b), .d (tupI a), .d (tupI u), .d (.int a.length), .d (matD a.length unitT), .d (matD a.length (stepT a)), s8, .no, .no] = some (o', ρ') := by
    unfold lp__law_far_1
    simp (decide := true) only [gtup, gcons, gN, g0, List.length_map, listG, mulOk_r, mulOk_l, divOk_s, rgOk_s, powOk_c, Option.bind_some, Int.reduceToNat, Int.reduceNeg, Int.reduceLE, Int.reduceLT, Nat.reduceLT, Nat.reduceLeDiff, Nat.reduceSub, Nat.reduceAdd, Int.reduceAdd, Int.reduceSub, Int.reduceMul, Int.reduceEq, Nat.reduceEqDiff, Int.reducePow, lt0, lt1, lt2, lt3, cmO, ixD, look, looki, eqD, eqB, neD, boolO, cmpI, ltD, leD, gtD, geD, addD, subD, mulD, modD, fdivD, powD, negD, isD, isNotD, isNoneD, intO, ownB, ownL, putL, olAt, dAt, iaddD, isubD, intG, seq_ap, bind_ap, ret_ap, opt_ap, look_ap, var_ap, bin2_ap, bin2o_ap, bin1_ap, chain_ap, bool_ap, andT_ap, orT_ap, notT_ap, andV_ap, orV_ap, if_ap, ite_ap, cons_ap, int_ap, cont_ap, callP_ap, guard_ap, set_ap, par_ap, par3_ap, aug_ap, app_ap, sto_ap, augI_ap, asg_ap, for_ap, frz_ap, atI_pos, atI_neg, ixN_pos, ixN_neg, List.getElem?_cons_zero, List.getElem?_cons_succ, List.set_cons_zero, List.set_cons_succ, Int.le_refl, ↓reduceIte, Option.map_some, Bool.not_true, Bool.not_false, Int.toNat_natCast, List.length_cons, List.length_nil, decide_true, decide_false, decide_eq_true_eq, Bool.false_eq_true, rangeG, hr1, e]
  cases o' with
  | nx =>
    rcases k with ⟨n, P, Q, s8, e3, rfl, hP, hQ, aP, aQ, hs, hb3⟩ | ⟨n', s7, s8, P, rfl, hP, aP⟩
    · have hl : (rangeD 0 12).length = 12 := rfl
      rw [hl] at hs hb3
      have hn : n = 0 := by omega
      subst hn
      rw [Nat.mul_zero, Nat.add_zero] at hs
      exact ⟨_, _, _, P, e', hP, hs ▸ aP⟩
    · exact ⟨_, _, _, P, e', hP, aP⟩
  | _ => exact k.elim
theorem far_eq {a u : List Int} (h : Rec a u) (N : Nat) (hN : N < 4096) (b : Int) (hb : 0 < b) (hb2 : b < 18446744073709551616) : ∃ x : Int, den__law_far [.tuple [tupI a, tupI u], .int N, .int b] = some (.int x) ∧ (T a u N - x) % b = 0 := by
  have hl1 := h.l1
  have hl3 := h.l3
  have hlu := h.lu
  obtain ⟨n', s7, s8, P, e1, hP, aP⟩ := lp_far h (.d (.tuple [tupI a, tupI u])) .no b hb hb2 N hN
  have e2 := lc_f2 (.d (.tuple [tupI a, tupI u])) (.d (.int N)) (.d (.int b)) (.d (tupI a)) (.d (tupI u)) .no .no .no a.length hl3
  have e3 := lc_f4 (.d (.tuple [tupI a, tupI u])) (.d (.int N)) (.d (.int b)) (.d (tupI u)) (.d (matD a.length unitT)) .no .no a a.length rfl hl3
  have e4 := lc_f5 (.d (.tuple [tupI a, tupI u])) n' (.d (.int b)) (.d (tupI a)) s7 s8 u P a.length hlu hl1 hl3 hP
  have hx := aP 0 (a.length - 1) (by omega)
  refine ⟨S a.length (fun j => P (a.length - 1) j * (u[a.length - 1 - j]?).getD 0) % b, ?_, ?_⟩
  · rw [run__law_far, u__law_far]
    have m1 (f : Nat → Nat → Int) : PyData.list ((List.range a.length).map fun i => rowD a.length (f i)) = matD a.length f := rfl
    simp (decide := true) only [gtup, gcons, gN, g0, List.length_map, listG, mulOk_r, mulOk_l, divOk_s, rgOk_s, powOk_c, Option.bind_some, Int.reduceToNat, Int.reduceNeg, Int.reduceLE, Int.reduceLT, Nat.reduceLT, Nat.reduceLeDiff, Nat.reduceSub, Nat.reduceAdd, Int.reduceAdd, Int.reduceSub, Int.reduceMul, Int.reduceEq, Nat.reduceEqDiff, Int.reducePow, lt0, lt1, lt2, lt3, cmO, ixD, look, looki, eqD, eqB, neD, boolO, cmpI, ltD, leD, gtD, geD, addD, subD, mulD, modD, fdivD, powD, negD, isD, isNotD, isNoneD, intO, ownB, ownL, putL, olAt, dAt, iaddD, isubD, intG, seq_ap, bind_ap, ret_ap, opt_ap, look_ap, var_ap, bin2_ap, bin2o_ap, bin1_ap, chain_ap, bool_ap, andT_ap, orT_ap, notT_ap, andV_ap, orV_ap, if_ap, ite_ap, cons_ap, int_ap, cont_ap, callP_ap, guard_ap, set_ap, par_ap, par3_ap, aug_ap, app_ap, sto_ap, augI_ap, asg_ap, for_ap, frz_ap, atI_pos, atI_neg, ixN_pos, ixN_neg, List.getElem?_cons_zero, List.getElem?_cons_succ, List.set_cons_zero, List.set_cons_succ, Int.le_refl, ↓reduceIte, Option.map_some, Bool.not_true, Bool.not_false, Int.toNat_natCast, List.length_cons, List.length_nil, decide_true, decide_false, decide_eq_true_eq, Bool.false_eq_true, e1, e2, e3, e4, ints_map, hb, S, m1]
  · have e5 : S a.length (fun j => P (a.length - 1) j * (u[a.length - 1 - j]?).getD 0) = S a.length (fun j => P (a.length - 1) j * T a u (0 + (a.length - 1 - j))) := by
      apply S_congr
      intro j hj
      rw [T_start (by omega), Nat.zero_add]; rfl
    rw [e5]
    rw [show 0 + N + (a.length - 1 - (a.length - 1)) = N by omega] at hx
    generalize S a.length (fun j => P (a.length - 1) j * T a u (0 + (a.length - 1 - j))) = X at hx ⊢
    apply Int.emod_eq_zero_of_dvd
    have h2 := Int.emod_add_mul_ediv X b
    have : T a u N - X % b = b * (X / b) - (X - T a u N) := by omega
    rw [this]
    exact Int.dvd_sub (Int.dvd_mul_right b _) hx
end PDL
end
noncomputable section
namespace PDL
open PySem L2 PD
theorem T_lin {a u o w : List Int} (hu : u.length = a.length) (ho : o.length = a.length) (hw : w.length = a.length) (h1 : 1 ≤ a.length) (h : ∀ i, i < a.length → (w[i]?).getD 0 = (u[i]?).getD 0 + 3 * (o[i]?).getD 0) : ∀ n, T a w n = T a u n + 3 * T a o n := by
  intro n
  induction n using Nat.strongRecOn with
  | _ n ih =>
    by_cases hn : n < a.length
    · have := h n hn
      rw [T_start (by omega), T_start (by omega), T_start (by omega)] at this
      exact this
    · obtain ⟨m, rfl⟩ : ∃ m, n = m + a.length := ⟨n - a.length, by omega⟩
      rw [T_rule hw h1, T_rule hu h1, T_rule ho h1, ← S_mul_l, ← S_add]
      apply S_congr
      intro j hj
      rw [ih _ (by omega), Int.mul_add]
      congr 1
      rw [← Int.mul_assoc, Int.mul_comm _ 3, Int.mul_assoc]
theorem pot_ok {ns : List Int} (h : ns.length ≤ 63) : ∃ p, den__law_pot (ns.map .int) = some p ∧ PotOk 5 p := by
  refine ⟨_, ?_, ⟨0, 15485863, 5, 4, ns, rfl, by decide, by decide, by decide, by decide, by decide⟩⟩
  rw [run__law_pot, u__law_pot]
  have hl : 0 + 1 + 1 + 1 + 1 + ns.length ≤ 16000000 := by omega
  simp (decide := true) only [gtup, gcons, gN, g0, List.length_map, listG, mulOk_r, mulOk_l, divOk_s, rgOk_s, powOk_c, Option.bind_some, Int.reduceToNat, Int.reduceNeg, Int.reduceLE, Int.reduceLT, Nat.reduceLT, Nat.reduceLeDiff, Nat.reduceSub, Nat.reduceAdd, Int.reduceAdd, Int.reduceSub, Int.reduceMul, Int.reduceEq, Nat.reduceEqDiff, Int.reducePow, lt0, lt1, lt2, lt3, cmO, ixD, look, looki, eqD, eqB, neD, boolO, cmpI, ltD, leD, gtD, geD, addD, subD, mulD, modD, fdivD, powD, negD, isD, isNotD, isNoneD, intO, ownB, ownL, putL, olAt, dAt, iaddD, isubD, intG, seq_ap, bind_ap, ret_ap, opt_ap, look_ap, var_ap, bin2_ap, bin2o_ap, bin1_ap, chain_ap, bool_ap, andT_ap, orT_ap, notT_ap, andV_ap, orV_ap, if_ap, ite_ap, cons_ap, int_ap, cont_ap, callP_ap, guard_ap, set_ap, par_ap, par3_ap, aug_ap, app_ap, sto_ap, augI_ap, asg_ap, for_ap, frz_ap, atI_pos, atI_neg, ixN_pos, ixN_neg, List.getElem?_cons_zero, List.getElem?_cons_succ, List.set_cons_zero, List.set_cons_succ, Int.le_refl, ↓reduceIte, Option.map_some, Bool.not_true, Bool.not_false, Int.toNat_natCast, List.length_cons, List.length_nil, decide_true, decide_false, decide_eq_true_eq, Bool.false_eq_true, catO, List.length_map, hl]
  rfl
theorem same4 (i : Int) : den__law_same 6 [.list [.int i, .int i, .bool true, .bool true], .list [.int i, .int i, .bool true, .bool true]] = some (.bool true) := by
  rw [same_list 5 _ _ rfl (by simp) (fun _ => true)]
  · rfl
  · intro k x y hx hy
    have e := hx.symm.trans hy
    cases e
    match k, hx with
    | 0, hx => cases hx; rw [same_int]; simp
    | 1, hx => cases hx; rw [same_int]; simp
    | 2, hx => cases hx; rw [same_bool]; simp
    | 3, hx => cases hx; rw [same_bool]; simp
    | k + 4, hx => cases hx
theorem pick2 (x y : D) : pick [1, 0] [] [x, y] = [y, x] := rfl
theorem pick1 (x : D) : pick [0] [] [x] = [x] := rfl
theorem cut1 (ds : List D) : cutD ds (some 1) none = ds.drop 1 := by
  unfold cutD
  have : HT.sIx ds.length 0 (some 1) = min 1 ds.length := HT.sIx_nat _ _ 1
  rw [HT.sIx_none, this]
  by_cases h : 1 ≤ ds.length
  · rw [Nat.min_eq_left h, List.take_of_length_le (by simp)]
  · have : ds = [] := List.eq_nil_of_length_eq_zero (by omega)
    subst this; rfl
theorem cutm (ds : List D) : cutD ds none (some (-1)) = ds.take (ds.length - 1) := by
  unfold cutD
  have : HT.sIx ds.length ds.length (some (-1)) = ((-1 : Int) + ds.length).toNat := rfl
  rw [HT.sIx_none, this, List.drop_zero, show ((-1 : Int) + ds.length).toNat - 0 = ds.length - 1 by omega]
/-! ### values near recurrences -/
theorem near_no {a u : List Int} (h : Rec a u) (k : Nat) (d : D) (hd : ([.tuple [tupI a, .tuple ((mI u).drop 1)], .tuple [.tuple ((mI a).take (a.length - 1) ++ [.int 0]), tupI u], .tuple [tupI a], .tuple [tupI a, tupI u, tupI u], .list [tupI a, tupI u], .tuple [.list (mI a), tupI u], .tuple [.tuple [], .tuple []], .none, .tuple [tupI a, .tuple ((mI u).take (u.length - 1) ++ [.none])], .tuple [.tuple ((mI a).take (a.length - 1) ++ [.bool true]), tupI u], .str (Str.ofString "a"), .tuple [.tuple (mI a ++ [.int 1]), tupI u], .int 0] : List D)[k]? = some d) : den_is_recurrence [d] = some (.bool false) := by
  have h1 := h.l1
  have h3 := h.l3
  have hlu := h.lu
  apply is_recurrence_eq
  match k, hd with
  | 0, hd => cases hd; rw [← List.map_drop, isrec_pair a (u.drop 1) (by omega) (by simp; omega)]; simp; omega
  | 1, hd => cases hd; rw [← List.map_take, show (mI (a.take (a.length - 1)) ++ [PyData.int 0]) = mI (a.take (a.length - 1) ++ [0]) by simp, isrec_pair _ u (by simp; omega) (by omega)]; simp
  | 2, hd => cases hd; exact isrec_len _ (by simp)
  | 3, hd => cases hd; exact isrec_len _ (by simp)
  | 4, hd => cases hd; exact isrec_no _ (fun _ e => by cases e)
  | 5, hd => cases hd; exact isrec_not _ _ (fun zs hz => by simp at hz; subst hz; simp; omega) (by simp [areB])
  | 6, hd => cases hd; exact isrec_pair [] [] (by simp) (by simp)
  | 7, hd => cases hd; exact isrec_no _ (fun _ e => by cases e)
  | 8, hd => cases hd; exact isrec_not _ _ (fun zs hz => by simp at hz; rcases hz with rfl | rfl <;> simp <;> omega) (by simp [areB, isIntB])
  | 9, hd => cases hd; exact isrec_not _ _ (fun zs hz => by simp at hz; rcases hz with rfl | rfl <;> simp <;> omega) (by simp [areB, isIntB])
  | 10, hd => cases hd; exact isrec_no _ (fun _ e => by cases e)
  | 11, hd => cases hd; rw [show (mI a ++ [PyData.int 1]) = mI (a ++ [1]) by simp, isrec_pair _ u (by simp; omega) (by omega)]; simp; omega
  | 12, hd => cases hd; exact isrec_no _ (fun _ e => by cases e)
  | k + 13, hd => cases hd
end PDL
end
noncomputable section
namespace PDL
open PySem L2 PD
/-- the state of a turn -/
abbrev st (s pot : List D) (x : Nat → Sl) : List Sl := [.rd s, .ol pot, x 2, x 3, x 4, x 5, x 6, x 7, x 8, x 9, x 10, x 11, x 12, x 13, .no, .no]
theorem lc_l1 {n : Nat} {p : List D} (h : PotOk n p) (hn : n < 900000) (s : Sl) (x : Nat → Sl) (a : List Int) (u : Sl) (ha : a.length ≤ 3) : ∃ (o : List Int) (p' : List D), lc_law_1 [s, .ol p, x 2, x 3, x 4, x 5, .d (tupI a), u, x 8, x 9, x 10, x 11, x 12, x 13, .no, .no] = some (mI o, [s, .ol p', x 2, x 3, x 4, x 5, .d (tupI a), u, x 8, x 9, x 10, x 11, x 12, x 13, .no, .no]) ∧ o.length = a.length ∧ (∀ x ∈ o, (x.natAbs : Int) ≤ 99) ∧ PotOk (n + 3) p' := by
  obtain ⟨ys, ρ', e, ⟨p', rfl, hp⟩, l, hR⟩ := lc_rel (fi := itM (cmD (varM 6))) (vs := [14]) (ft := gN 14) (tt := retM true) (fe := el_law_1) (ρ := [s, .ol p, x 2, x 3, x 4, x 5, .d (tupI a), u, x 8, x 9, x 10, x 11, x 12, x 13, .no, .no]) (ρf := [s, .ol p, x 2, x 3, x 4, x 5, .d (tupI a), u, x 8, x 9, x 10, x 11, x 12, x 13, .no, .no]) (ds := mI a)
    (fun k ρ => ∃ p', ρ = [s, .ol p', x 2, x 3, x 4, x 5, .d (tupI a), u, x 8, x 9, x 10, x 11, x 12, x 13, .no, .no] ∧ PotOk (n + k) p') (fun _ y => ∃ i : Int, y = .int i ∧ (i.natAbs : Int) ≤ 99) 0 (by simp (decide := true) only [gtup, gcons, gN, g0, List.length_map, listG, mulOk_r, mulOk_l, divOk_s, rgOk_s, powOk_c, Option.bind_some, Int.reduceToNat, Int.reduceNeg, Int.reduceLE, Int.reduceLT, Nat.reduceLT, Nat.reduceLeDiff, Nat.reduceSub, Nat.reduceAdd, Int.reduceAdd, Int.reduceSub, Int.reduceMul, Int.reduceEq, Nat.reduceEqDiff, Int.reducePow, lt0, lt1, lt2, lt3, cmO, ixD, look, looki, eqD, eqB, neD, boolO, cmpI, ltD, leD, gtD, geD, addD, subD, mulD, modD, fdivD, powD, negD, isD, isNotD, isNoneD, intO, ownB, ownL, putL, olAt, dAt, iaddD, isubD, intG, seq_ap, bind_ap, ret_ap, opt_ap, look_ap, var_ap, bin2_ap, bin2o_ap, bin1_ap, chain_ap, bool_ap, andT_ap, orT_ap, notT_ap, andV_ap, orV_ap, if_ap, ite_ap, cons_ap, int_ap, cont_ap, callP_ap, guard_ap, set_ap, par_ap, par3_ap, aug_ap, app_ap, sto_ap, augI_ap, asg_ap, for_ap, frz_ap, atI_pos, atI_neg, ixN_pos, ixN_neg, List.getElem?_cons_zero, List.getElem?_cons_succ, List.set_cons_zero, List.set_cons_succ, Int.le_refl, ↓reduceIte, Option.map_some, Bool.not_true, Bool.not_false, Int.toNat_natCast, List.length_cons, List.length_nil, decide_true, decide_false, decide_eq_true_eq, Bool.false_eq_true]) (by simp; omega) ⟨p, rfl, h⟩
    (fun d hd k ρ hk ⟨p', e, hp⟩ => by
      subst e
      rw [List.length_map] at hk
      obtain ⟨i, p2, e2, h2, h3⟩ := integer_ok hp (by omega) (far := 99) (by decide) (by decide)
      refine ⟨_, .int i, [s, .ol p2, x 2, x 3, x 4, x 5, .d (tupI a), u, x 8, x 9, x 10, x 11, x 12, x 13, .d d, .no], rfl, rfl, ?_, ⟨p2, rfl, h3⟩, i, rfl, h2⟩
      unfold el_law_1
      simp (decide := true) only [gtup, gcons, gN, g0, List.length_map, listG, mulOk_r, mulOk_l, divOk_s, rgOk_s, powOk_c, Option.bind_some, Int.reduceToNat, Int.reduceNeg, Int.reduceLE, Int.reduceLT, Nat.reduceLT, Nat.reduceLeDiff, Nat.reduceSub, Nat.reduceAdd, Int.reduceAdd, Int.reduceSub, Int.reduceMul, Int.reduceEq, Nat.reduceEqDiff, Int.reducePow, lt0, lt1, lt2, lt3, cmO, ixD, look, looki, eqD, eqB, neD, boolO, cmpI, ltD, leD, gtD, geD, addD, subD, mulD, modD, fdivD, powD, negD, isD, isNotD, isNoneD, intO, ownB, ownL, putL, olAt, dAt, iaddD, isubD, intG, seq_ap, bind_ap, ret_ap, opt_ap, look_ap, var_ap, bin2_ap, bin2o_ap, bin1_ap, chain_ap, bool_ap, andT_ap, orT_ap, notT_ap, andV_ap, orV_ap, if_ap, ite_ap, cons_ap, int_ap, cont_ap, callP_ap, guard_ap, set_ap, par_ap, par3_ap, aug_ap, app_ap, sto_ap, augI_ap, asg_ap, for_ap, frz_ap, atI_pos, atI_neg, ixN_pos, ixN_neg, List.getElem?_cons_zero, List.getElem?_cons_succ, List.set_cons_zero, List.set_cons_succ, Int.le_refl, ↓reduceIte, Option.map_some, Bool.not_true, Bool.not_false, Int.toNat_natCast, List.length_cons, List.length_nil, decide_true, decide_false, decide_eq_true_eq, Bool.false_eq_true, e2])
  obtain ⟨as, rfl, ha2⟩ := ints_of (P := fun i => (i.natAbs : Int) ≤ 99) ys (fun y hy => by
    obtain ⟨i, hi, rfl⟩ := List.getElem_of_mem hy
    exact hR i _ _ (List.getElem?_eq_getElem (by omega)) (List.getElem?_eq_getElem hi))
  refine ⟨as, p', ?_, by simpa using l, ha2, hp.mono (by simp; omega)⟩
  unfold lc_law_1
  rw [e]; rfl
def both (u o : List Int) (r : Nat) : List Int := (List.range r).map fun i => (u[i]?).getD 0 + 3 * (o[i]?).getD 0
theorem lc_l2 (s p : Sl) (x : Nat → Sl) (a u o : List Int) (hu : u.length = a.length) (ho : o.length = a.length) (ha : a.length ≤ 3) : lc_law_2 [s, p, x 2, x 3, x 4, x 5, .d (tupI a), .d (tupI u), .d (.tuple [tupI a, tupI o]), x 9, x 10, x 11, x 12, x 13, .no, .no] = some (mI (both u o a.length), [s, p, x 2, x 3, x 4, x 5, .d (tupI a), .d (tupI u), .d (.tuple [tupI a, tupI o]), x 9, x 10, x 11, x 12, x 13, .no, .no]) := by
  have hr1 : RgOk ((a.length : Nat) : Int) ↔ True := rgOk_s (by omega) (by omega)
  have e := lc_map (fi := rngM (consM (lenM (cmD (varM 6))) nilM)) (vs := [15]) (ft := gN 15) (tt := retM true) (fe := el_law_2) (ρ := [s, p, x 2, x 3, x 4, x 5, .d (tupI a), .d (tupI u), .d (.tuple [tupI a, tupI o]), x 9, x 10, x 11, x 12, x 13, .no, .no]) (ρf := [s, p, x 2, x 3, x 4, x 5, .d (tupI a), .d (tupI u), .d (.tuple [tupI a, tupI o]), x 9, x 10, x 11, x 12, x 13, .no, .no]) (ds := rangeD 0 a.length) [s, p, x 2, x 3, x 4, x 5, .d (tupI a), .d (tupI u), .d (.tuple [tupI a, tupI o]), x 9, x 10, x 11, x 12, x 13, .no, .no] (onI fun i => .int ((u[i]?).getD 0 + 3 * (o[i]?).getD 0))
    (by simp (decide := true) only [gtup, gcons, gN, g0, List.length_map, listG, mulOk_r, mulOk_l, divOk_s, rgOk_s, powOk_c, Option.bind_some, Int.reduceToNat, Int.reduceNeg, Int.reduceLE, Int.reduceLT, Nat.reduceLT, Nat.reduceLeDiff, Nat.reduceSub, Nat.reduceAdd, Int.reduceAdd, Int.reduceSub, Int.reduceMul, Int.reduceEq, Nat.reduceEqDiff, Int.reducePow, lt0, lt1, lt2, lt3, cmO, ixD, look, looki, eqD, eqB, neD, boolO, cmpI, ltD, leD, gtD, geD, addD, subD, mulD, modD, fdivD, powD, negD, isD, isNotD, isNoneD, intO, ownB, ownL, putL, olAt, dAt, iaddD, isubD, intG, seq_ap, bind_ap, ret_ap, opt_ap, look_ap, var_ap, bin2_ap, bin2o_ap, bin1_ap, chain_ap, bool_ap, andT_ap, orT_ap, notT_ap, andV_ap, orV_ap, if_ap, ite_ap, cons_ap, int_ap, cont_ap, callP_ap, guard_ap, set_ap, par_ap, par3_ap, aug_ap, app_ap, sto_ap, augI_ap, asg_ap, for_ap, frz_ap, atI_pos, atI_neg, ixN_pos, ixN_neg, List.getElem?_cons_zero, List.getElem?_cons_succ, List.set_cons_zero, List.set_cons_succ, Int.le_refl, ↓reduceIte, Option.map_some, Bool.not_true, Bool.not_false, Int.toNat_natCast, List.length_cons, List.length_nil, decide_true, decide_false, decide_eq_true_eq, Bool.false_eq_true, rangeG, hr1]) (by simp [rangeD]; omega) rfl (fun d hd => by
      obtain ⟨j, hj, rfl⟩ := rg_mem hd
      refine ⟨[s, p, x 2, x 3, x 4, x 5, .d (tupI a), .d (tupI u), .d (.tuple [tupI a, tupI o]), x 9, x 10, x 11, x 12, x 13, .no, .d (.int j)], [s, p, x 2, x 3, x 4, x 5, .d (tupI a), .d (tupI u), .d (.tuple [tupI a, tupI o]), x 9, x 10, x 11, x 12, x 13, .no, .d (.int j)], rfl, rfl, ?_, rfl⟩
      have hu2 : j < u.length := by omega
      have ho2 : j < o.length := by omega
      have g1 : (mI u)[j]? = some (.int u[j]) := by simp [hu2]
      have g2 : (mI o)[j]? = some (.int o[j]) := by simp [ho2]
      unfold el_law_2
      simp (decide := true) only [gtup, gcons, gN, g0, List.length_map, listG, mulOk_r, mulOk_l, divOk_s, rgOk_s, powOk_c, Option.bind_some, Int.reduceToNat, Int.reduceNeg, Int.reduceLE, Int.reduceLT, Nat.reduceLT, Nat.reduceLeDiff, Nat.reduceSub, Nat.reduceAdd, Int.reduceAdd, Int.reduceSub, Int.reduceMul, Int.reduceEq, Nat.reduceEqDiff, Int.reducePow, lt0, lt1, lt2, lt3, cmO, ixD, look, looki, eqD, eqB, neD, boolO, cmpI, ltD, leD, gtD, geD, addD, subD, mulD, modD, fdivD, powD, negD, isD, isNotD, isNoneD, intO, ownB, ownL, putL, olAt, dAt, iaddD, isubD, intG, seq_ap, bind_ap, ret_ap, opt_ap, look_ap, var_ap, bin2_ap, bin2o_ap, bin1_ap, chain_ap, bool_ap, andT_ap, orT_ap, notT_ap, andV_ap, orV_ap, if_ap, ite_ap, cons_ap, int_ap, cont_ap, callP_ap, guard_ap, set_ap, par_ap, par3_ap, aug_ap, app_ap, sto_ap, augI_ap, asg_ap, for_ap, frz_ap, atI_pos, atI_neg, ixN_pos, ixN_neg, List.getElem?_cons_zero, List.getElem?_cons_succ, List.set_cons_zero, List.set_cons_succ, Int.le_refl, ↓reduceIte, Option.map_some, Bool.not_true, Bool.not_false, Int.toNat_natCast, List.length_cons, List.length_nil, decide_true, decide_false, decide_eq_true_eq, Bool.false_eq_true, onI, g1, g2, Int.natCast_nonneg]
      simp [hu2, ho2])
  unfold lc_law_2
  rw [e, rg_map, range_int]
  rfl
theorem both_rec {a u o : List Int} (h : Rec a u) (hu : ∀ x ∈ u, x.natAbs < 1000) (ho : o.length = a.length) (ho2 : ∀ x ∈ o, (x.natAbs : Int) ≤ 99) : Rec a (both u o a.length) ∧ Rec a o ∧ ∀ n, T a (both u o a.length) n = T a u n + 3 * T a o n := by
  have hl := h.lu
  refine ⟨⟨h.l1, h.l3, by simp [both], h.sa, fun x hx => ?_, h.z⟩, ⟨h.l1, h.l3, ho, h.sa, fun x hx => by have := ho2 x hx; omega, h.z⟩, T_lin hl ho (by simp [both]) h.l1 fun i hi => by simp [both, hi]⟩
  simp only [both, List.mem_map, List.mem_range] at hx
  obtain ⟨i, hi, rfl⟩ := hx
  rw [List.getElem?_eq_getElem (by omega), List.getElem?_eq_getElem (by omega)]
  have h1 := hu u[i] (List.getElem_mem (by omega))
  have h2 := ho2 o[i] (List.getElem_mem (by omega))
  simp only [Option.getD_some]
  omega
theorem lp_l1 {a u : List Int} (h : Rec a u) (N : Nat) (hN : N < 4096) (s : Sl) (x : Nat → Sl) : ∃ x12, lp_law_1 [s, x 1, x 2, .d (.tuple [tupI a, tupI u]), x 4, x 5, x 6, x 7, x 8, x 9, .d (.int N), .d (.int (T a u N)), x 12, x 13, .no, .no] = some (.nx, [s, x 1, x 2, .d (.tuple [tupI a, tupI u]), x 4, x 5, x 6, x 7, x 8, x 9, .d (.int N), .d (.int (T a u N)), x12, x 13, .no, .no]) := by
  have hb : ∀ (b : Int) (x12 : Sl), 0 < b → b < 18446744073709551616 → bd_law_1 [s, x 1, x 2, .d (.tuple [tupI a, tupI u]), x 4, x 5, x 6, x 7, x 8, x 9, .d (.int N), .d (.int (T a u N)), .d (.int b), x 13, .no, .no] = some (.nx, [s, x 1, x 2, .d (.tuple [tupI a, tupI u]), x 4, x 5, x 6, x 7, x 8, x 9, .d (.int N), .d (.int (T a u N)), .d (.int b), x 13, .no, .no]) := fun b x12 h0 h2 => by
    obtain ⟨y, e, hy⟩ := far_eq h N hN b h0 h2
    unfold bd_law_1
    simp (decide := true) only [gtup, gcons, gN, g0, List.length_map, listG, mulOk_r, mulOk_l, divOk_s, rgOk_s, powOk_c, Option.bind_some, Int.reduceToNat, Int.reduceNeg, Int.reduceLE, Int.reduceLT, Nat.reduceLT, Nat.reduceLeDiff, Nat.reduceSub, Nat.reduceAdd, Int.reduceAdd, Int.reduceSub, Int.reduceMul, Int.reduceEq, Nat.reduceEqDiff, Int.reducePow, lt0, lt1, lt2, lt3, cmO, ixD, look, looki, eqD, eqB, neD, boolO, cmpI, ltD, leD, gtD, geD, addD, subD, mulD, modD, fdivD, powD, negD, isD, isNotD, isNoneD, intO, ownB, ownL, putL, olAt, dAt, iaddD, isubD, intG, seq_ap, bind_ap, ret_ap, opt_ap, look_ap, var_ap, bin2_ap, bin2o_ap, bin1_ap, chain_ap, bool_ap, andT_ap, orT_ap, notT_ap, andV_ap, orV_ap, if_ap, ite_ap, cons_ap, int_ap, cont_ap, callP_ap, guard_ap, set_ap, par_ap, par3_ap, aug_ap, app_ap, sto_ap, augI_ap, asg_ap, for_ap, frz_ap, atI_pos, atI_neg, ixN_pos, ixN_neg, List.getElem?_cons_zero, List.getElem?_cons_succ, List.set_cons_zero, List.set_cons_succ, Int.le_refl, ↓reduceIte, Option.map_some, Bool.not_true, Bool.not_false, Int.toNat_natCast, List.length_cons, List.length_nil, decide_true, decide_false, decide_eq_true_eq, Bool.false_eq_true, e, h0, hy]
  have h1 := hb 1000000007 (x 12) (by decide) (by decide)
  have h2 := hb 998244353 (x 12) (by decide) (by decide)
  have h3 := hb 2305843009213693951 (x 12) (by decide) (by decide)
  refine ⟨.d (.int 2305843009213693951), ?_⟩
  unfold lp_law_1
  simp (decide := true) only [gtup, gcons, gN, g0, List.length_map, listG, mulOk_r, mulOk_l, divOk_s, rgOk_s, powOk_c, Option.bind_some, Int.reduceToNat, Int.reduceNeg, Int.reduceLE, Int.reduceLT, Nat.reduceLT, Nat.reduceLeDiff, Nat.reduceSub, Nat.reduceAdd, Int.reduceAdd, Int.reduceSub, Int.reduceMul, Int.reduceEq, Nat.reduceEqDiff, Int.reducePow, lt0, lt1, lt2, lt3, cmO, ixD, look, looki, eqD, eqB, neD, boolO, cmpI, ltD, leD, gtD, geD, addD, subD, mulD, modD, fdivD, powD, negD, isD, isNotD, isNoneD, intO, ownB, ownL, putL, olAt, dAt, iaddD, isubD, intG, seq_ap, bind_ap, ret_ap, opt_ap, look_ap, var_ap, bin2_ap, bin2o_ap, bin1_ap, chain_ap, bool_ap, andT_ap, orT_ap, notT_ap, andV_ap, orV_ap, if_ap, ite_ap, cons_ap, int_ap, cont_ap, callP_ap, guard_ap, set_ap, par_ap, par3_ap, aug_ap, app_ap, sto_ap, augI_ap, asg_ap, for_ap, frz_ap, atI_pos, atI_neg, ixN_pos, ixN_neg, List.getElem?_cons_zero, List.getElem?_cons_succ, List.set_cons_zero, List.set_cons_succ, Int.le_refl, ↓reduceIte, Option.map_some, Bool.not_true, Bool.not_false, Int.toNat_natCast, List.length_cons, List.length_nil, decide_true, decide_false, decide_eq_true_eq, Bool.false_eq_true, loopD, h1, h2, h3]
end PDL
end
noncomputable section
namespace PDL
open PySem L2 PD
theorem same_f (n : Nat) : den__law_same (n + 1) [.bool false, .bool false] = some (.bool true) := by rw [same_bool]; rfl
theorem body_ok {n : Nat} {p : List D} (hp : PotOk n p) (hn : n < 800000) (s : List D) (x : Nat → Sl) : ∃ p' x', bd_law_2 (st s p x) = some (.nx, st s p' x') ∧ PotOk (n + 100) p' := by
  obtain ⟨f, p1, t1, f0, f1, k1⟩ := take_ok hp (by omega) (many := 2) (by decide) (by decide)
  obtain ⟨far, hfar, hf0, hf1⟩ : ∃ far : Int, atI [PyData.int 9, .int 999] f = some (.int far) ∧ 0 ≤ far ∧ far < 1000 := by
    have : f = 0 ∨ f = 1 := by omega
    rcases this with rfl | rfl
    · exact ⟨9, rfl, by decide, by decide⟩
    · exact ⟨999, rfl, by decide, by decide⟩
  obtain ⟨a, u, p2, t2, hr, hu, k2⟩ := recurrence_ok k1 (by omega) hf0 hf1
  have hl1 := hr.l1
  have hl3 := hr.l3
  have hlu := hr.lu
  have t3 : den__law_terms [.tuple [tupI a, tupI u], .int 80] = _ := law_terms_eq hr 80 (by decide) (by decide)
  obtain ⟨nn, p3, t4, n0, n1, k3⟩ := take_ok k2 (by omega) (many := 80) (by decide) (by decide)
  obtain ⟨m, rfl⟩ : ∃ m : Nat, nn = (m : Int) := ⟨nn.toNat, by omega⟩
  have t5 := term_eq hr m (by omega)
  have g1 : (mI (gr a u (80 - u.length)))[m]? = some (.int (T a u m)) := by rw [List.getElem?_map, gr_T (by omega) (by omega)]; rfl
  have t6 : den_is_recurrence [.tuple [tupI a, tupI u]] = some (.bool true) := is_recurrence_eq hr.isrec
  obtain ⟨o, p4, t7, ho, ho2, k4⟩ := lc_l1 k3 (by omega) (.rd s) (fun i => match i with | 3 => .d (.tuple [tupI a, tupI u]) | 4 => .d (.list (mI (gr a u (80 - u.length)))) | 5 => .d (.int m) | i => x i) a (.d (tupI u)) hl3
  replace t7 : lc_law_1 [.rd s, .ol p3, x 2, .d (.tuple [tupI a, tupI u]), .d (.list (mI (gr a u (80 - u.length)))), .d (.int m), .d (tupI a), .d (tupI u), x 8, x 9, x 10, x 11, x 12, x 13, .no, .no] = some (mI o, [.rd s, .ol p4, x 2, .d (.tuple [tupI a, tupI u]), .d (.list (mI (gr a u (80 - u.length)))), .d (.int m), .d (tupI a), .d (tupI u), x 8, x 9, x 10, x 11, x 12, x 13, .no, .no]) := t7
  obtain ⟨hb, hor, hT⟩ := both_rec hr hu ho ho2
  have t8 := lc_l2 (.rd s) (.ol p4) (fun i => match i with | 3 => .d (.tuple [tupI a, tupI u]) | 4 => .d (.list (mI (gr a u (80 - u.length)))) | 5 => .d (.int m) | i => x i) a u o hlu ho hl3
  replace t8 : lc_law_2 [.rd s, .ol p4, x 2, .d (.tuple [tupI a, tupI u]), .d (.list (mI (gr a u (80 - u.length)))), .d (.int m), .d (tupI a), .d (tupI u), .d (.tuple [tupI a, tupI o]), x 9, x 10, x 11, x 12, x 13, .no, .no] = some (mI (both u o a.length), [.rd s, .ol p4, x 2, .d (.tuple [tupI a, tupI u]), .d (.list (mI (gr a u (80 - u.length)))), .d (.int m), .d (tupI a), .d (tupI u), .d (.tuple [tupI a, tupI o]), x 9, x 10, x 11, x 12, x 13, .no, .no]) := t8
  have t9 := term_eq hb m (by omega)
  have t10 : den__law_terms [.tuple [tupI a, tupI o], .int 80] = _ := law_terms_eq hor 80 (by decide) (by decide)
  have g2 : (mI (gr a o (80 - o.length)))[m]? = some (.int (T a o m)) := by rw [List.getElem?_map, gr_T (by omega) (by omega)]; rfl
  rw [hT m] at t9
  have t11 : den__law_same 6 [.int (T a u m + 3 * T a o m), .int (T a u m + 3 * T a o m)] = some (.bool true) := by rw [same_int]; simp
  obtain ⟨ff, p5, t12, m0, m1, k5⟩ := take_ok k4 (by omega) (many := 1001) (by decide) (by decide)
  obtain ⟨N, rfl⟩ : ∃ N : Nat, ff = (N : Int) := ⟨ff.toNat, by omega⟩
  have t13 := term_eq hr N (by omega)
  obtain ⟨x12, t14⟩ := lp_l1 hr N (by omega) (.rd s) (fun i => match i with | 1 => .ol p5 | 4 => .d (.list (mI (gr a u (80 - u.length)))) | 5 => .d (.int m) | 6 => .d (tupI a) | 7 => .d (tupI u) | 8 => .d (.tuple [tupI a, tupI o]) | 9 => .d (.tuple [tupI a, tupI (both u o a.length)]) | i => x i)
  replace t14 : lp_law_1 [.rd s, .ol p5, x 2, .d (.tuple [tupI a, tupI u]), .d (.list (mI (gr a u (80 - u.length)))), .d (.int m), .d (tupI a), .d (tupI u), .d (.tuple [tupI a, tupI o]), .d (.tuple [tupI a, tupI (both u o a.length)]), .d (.int N), .d (.int (T a u N)), x 12, x 13, .no, .no] = some (.nx, [.rd s, .ol p5, x 2, .d (.tuple [tupI a, tupI u]), .d (.list (mI (gr a u (80 - u.length)))), .d (.int m), .d (tupI a), .d (tupI u), .d (.tuple [tupI a, tupI o]), .d (.tuple [tupI a, tupI (both u o a.length)]), .d (.int N), .d (.int (T a u N)), x12, x 13, .no, .no]) := t14
  obtain ⟨q, p6, t15, q0, q1, k6⟩ := take_ok k5 (by omega) (many := 13) (by decide) (by decide)
  obtain ⟨k, rfl⟩ : ∃ k : Nat, q = (k : Int) := ⟨q.toNat, by omega⟩
  have hk : k < 13 := by omega
  obtain ⟨nd, hnd⟩ : ∃ nd, ([.tuple [tupI a, .tuple ((mI u).drop 1)], .tuple [.tuple ((mI a).take (a.length - 1) ++ [.int 0]), tupI u], .tuple [tupI a], .tuple [tupI a, tupI u, tupI u], .list [tupI a, tupI u], .tuple [.list (mI a), tupI u], .tuple [.tuple [], .tuple []], .none, .tuple [tupI a, .tuple ((mI u).take (u.length - 1) ++ [.none])], .tuple [.tuple ((mI a).take (a.length - 1) ++ [.bool true]), tupI u], .str (Str.ofString "a"), .tuple [.tuple (mI a ++ [.int 1]), tupI u], .int 0] : List D)[k]? = some nd := ⟨_, List.getElem?_eq_getElem (by simpa using hk)⟩
  have hnd0 := hnd
  have t16 := near_no hr k nd hnd
  have z1 : (((mI a).take (a.length - 1)).length + (0 + 1) ≤ 16000000) = True := eq_true (by simp; omega)
  have z2 : (((mI u).take (u.length - 1)).length + (0 + 1) ≤ 16000000) = True := eq_true (by simp; omega)
  have z3 : (a.length + (0 + 1) ≤ 16000000) = True := eq_true (by omega)
  have hfar0 : [PyData.int 9, .int 999][f.toNat]? = some (.int far) := by rw [← atI_pos _ f0]; exact hfar
  unfold bd_law_2 st
  simp (decide := true) only [gtup, gcons, gN, g0, List.length_map, listG, mulOk_r, mulOk_l, divOk_s, rgOk_s, powOk_c, Option.bind_some, Int.reduceToNat, Int.reduceNeg, Int.reduceLE, Int.reduceLT, Nat.reduceLT, Nat.reduceLeDiff, Nat.reduceSub, Nat.reduceAdd, Int.reduceAdd, Int.reduceSub, Int.reduceMul, Int.reduceEq, Nat.reduceEqDiff, Int.reducePow, lt0, lt1, lt2, lt3, cmO, ixD, look, looki, eqD, eqB, neD, boolO, cmpI, ltD, leD, gtD, geD, addD, subD, mulD, modD, fdivD, powD, negD, isD, isNotD, isNoneD, intO, ownB, ownL, putL, olAt, dAt, iaddD, isubD, intG, seq_ap, bind_ap, ret_ap, opt_ap, look_ap, var_ap, bin2_ap, bin2o_ap, bin1_ap, chain_ap, bool_ap, andT_ap, orT_ap, notT_ap, andV_ap, orV_ap, if_ap, ite_ap, cons_ap, int_ap, cont_ap, callP_ap, guard_ap, set_ap, par_ap, par3_ap, aug_ap, app_ap, sto_ap, augI_ap, asg_ap, for_ap, frz_ap, atI_pos, atI_neg, ixN_pos, ixN_neg, List.getElem?_cons_zero, List.getElem?_cons_succ, List.set_cons_zero, List.set_cons_succ, Int.le_refl, ↓reduceIte, Option.map_some, Bool.not_true, Bool.not_false, Int.toNat_natCast, List.length_cons, List.length_nil, decide_true, decide_false, decide_eq_true_eq, Bool.false_eq_true, t1, hfar0, f0, hnd0, t2, t3, t4, t5, pick2, pick1, t6, g1, same4, t7, t8, t9, t10, g2, t11, t12, Ty.has, t13, t14, t15, cut1, cutm, sliceD, z1, z2, z3, t16, same_f, Int.natCast_nonneg]
  have key : ∀ c2 c3 c4 c5 c6 c7 c8 c9 c10 c11 c12 c13 : Sl, ∃ (p' : List D) (x' : Nat → Sl), some (Out.nx, [Sl.rd s, .ol p6, c2, c3, c4, c5, c6, c7, c8, c9, c10, c11, c12, c13, .no, .no]) = some (Out.nx, [Sl.rd s, .ol p', x' 2, x' 3, x' 4, x' 5, x' 6, x' 7, x' 8, x' 9, x' 10, x' 11, x' 12, x' 13, .no, .no]) ∧ PotOk (n + 100) p' := fun c2 c3 c4 c5 c6 c7 c8 c9 c10 c11 c12 c13 => ⟨p6, fun i => match i with | 2 => c2 | 3 => c3 | 4 => c4 | 5 => c5 | 6 => c6 | 7 => c7 | 8 => c8 | 9 => c9 | 10 => c10 | 11 => c11 | 12 => c12 | 13 => c13 | _ => .no, rfl, k6.mono (by omega)⟩
  exact key _ _ _ _ _ _ _ _ _ _ _ _
theorem law_ok : ∀ ns : List Int, ns.length ≤ 63 → ∃ ρ', u_law (slots N_law [.rd (ns.map .int)]) = some (.ret (.bool true), ρ') := by
  intro ns hns
  obtain ⟨p, e1, hp⟩ := pot_ok hns
  obtain ⟨ρ', e2, p', x', rfl, _⟩ := loop_nx (ft := gN 2) (body := bd_law_2) (fun k ρ => ∃ p' x', ρ = st (ns.map .int) p' x' ∧ PotOk (5 + 100 * k) p') (rangeD 0 3) (st (ns.map .int) p fun _ => .no) ⟨p, _, rfl, hp⟩ (by
    rintro k d ρ hd ⟨p', x', rfl, hp'⟩
    have hk : k < 3 := by
      by_cases hk : k < 3
      · exact hk
      · rw [List.getElem?_eq_none (by show 3 ≤ k; omega)] at hd; cases hd
    obtain ⟨p2, x2, e, h2⟩ := body_ok hp' (by omega) (ns.map .int) (fun i => if i = 2 then .d d else x' i)
    exact ⟨_, rfl, _, e, p2, x2, rfl, h2.mono (by omega)⟩)
  have hr : RgOk 3 ↔ True := rgOk_s (by omega) (by omega)
  have e3 : lp_law_2 (st (ns.map .int) p fun _ => .no) = some (.nx, st (ns.map .int) p' x') := by
    unfold lp_law_2
    simp (decide := true) only [gtup, gcons, gN, g0, List.length_map, listG, mulOk_r, mulOk_l, divOk_s, rgOk_s, powOk_c, Option.bind_some, Int.reduceToNat, Int.reduceNeg, Int.reduceLE, Int.reduceLT, Nat.reduceLT, Nat.reduceLeDiff, Nat.reduceSub, Nat.reduceAdd, Int.reduceAdd, Int.reduceSub, Int.reduceMul, Int.reduceEq, Nat.reduceEqDiff, Int.reducePow, lt0, lt1, lt2, lt3, cmO, ixD, look, looki, eqD, eqB, neD, boolO, cmpI, ltD, leD, gtD, geD, addD, subD, mulD, modD, fdivD, powD, negD, isD, isNotD, isNoneD, intO, ownB, ownL, putL, olAt, dAt, iaddD, isubD, intG, seq_ap, bind_ap, ret_ap, opt_ap, look_ap, var_ap, bin2_ap, bin2o_ap, bin1_ap, chain_ap, bool_ap, andT_ap, orT_ap, notT_ap, andV_ap, orV_ap, if_ap, ite_ap, cons_ap, int_ap, cont_ap, callP_ap, guard_ap, set_ap, par_ap, par3_ap, aug_ap, app_ap, sto_ap, augI_ap, asg_ap, for_ap, frz_ap, atI_pos, atI_neg, ixN_pos, ixN_neg, List.getElem?_cons_zero, List.getElem?_cons_succ, List.set_cons_zero, List.set_cons_succ, Int.le_refl, ↓reduceIte, Option.map_some, Bool.not_true, Bool.not_false, Int.toNat_natCast, List.length_cons, List.length_nil, decide_true, decide_false, decide_eq_true_eq, Bool.false_eq_true, rangeG, hr, e2]
  have e4 : slots N_law [.rd (ns.map .int)] = [.rd (ns.map .int), .no, .no, .no, .no, .no, .no, .no, .no, .no, .no, .no, .no, .no, .no, .no] := rfl
  rw [e4]
  unfold u_law
  simp only [st] at e3
  simp (decide := true) only [gtup, gcons, gN, g0, List.length_map, listG, mulOk_r, mulOk_l, divOk_s, rgOk_s, powOk_c, Option.bind_some, Int.reduceToNat, Int.reduceNeg, Int.reduceLE, Int.reduceLT, Nat.reduceLT, Nat.reduceLeDiff, Nat.reduceSub, Nat.reduceAdd, Int.reduceAdd, Int.reduceSub, Int.reduceMul, Int.reduceEq, Nat.reduceEqDiff, Int.reducePow, lt0, lt1, lt2, lt3, cmO, ixD, look, looki, eqD, eqB, neD, boolO, cmpI, ltD, leD, gtD, geD, addD, subD, mulD, modD, fdivD, powD, negD, isD, isNotD, isNoneD, intO, ownB, ownL, putL, olAt, dAt, iaddD, isubD, intG, seq_ap, bind_ap, ret_ap, opt_ap, look_ap, var_ap, bin2_ap, bin2o_ap, bin1_ap, chain_ap, bool_ap, andT_ap, orT_ap, notT_ap, andV_ap, orV_ap, if_ap, ite_ap, cons_ap, int_ap, cont_ap, callP_ap, guard_ap, set_ap, par_ap, par3_ap, aug_ap, app_ap, sto_ap, augI_ap, asg_ap, for_ap, frz_ap, atI_pos, atI_neg, ixN_pos, ixN_neg, List.getElem?_cons_zero, List.getElem?_cons_succ, List.set_cons_zero, List.set_cons_succ, Int.le_refl, ↓reduceIte, Option.map_some, Bool.not_true, Bool.not_false, Int.toNat_natCast, List.length_cons, List.length_nil, decide_true, decide_false, decide_eq_true_eq, Bool.false_eq_true, callRM, e1, e3]
  exact ⟨_, rfl⟩
end PDL
end
namespace PDL
open PySem PySem.Spec PyProof.Rows L2 PD
def topS (i : Nat) : Stmt := PySem.Challenge.pw_wholedepths_k71_recurrences_and_their_te.main.body.getD i (.Pass ⟨0, 0, 0, 0⟩)
abbrev s__law_pot : Stmt := topS 15
theorem sc__law_pot : FnScope N__law_pot ["script"] (defScope s__law_pot) := ⟨rfl, rfl, rfl, by decide +kernel, rfl, by decide +kernel, by decide +kernel⟩
abbrev s__law_take : Stmt := topS 16
theorem sc__law_take : FnScope N__law_take ["pot", "many"] (defScope s__law_take) := ⟨rfl, rfl, rfl, by decide +kernel, rfl, by decide +kernel, by decide +kernel⟩
abbrev s__law_integer : Stmt := topS 18
theorem sc__law_integer : FnScope N__law_integer ["pot", "far"] (defScope s__law_integer) := ⟨rfl, rfl, rfl, by decide +kernel, rfl, by decide +kernel, by decide +kernel⟩
abbrev s__law_recurrence : Stmt := topS 19
theorem sc__law_recurrence : FnScope N__law_recurrence ["pot", "most", "far"] (defScope s__law_recurrence) := ⟨rfl, rfl, rfl, by decide +kernel, rfl, by decide +kernel, by decide +kernel⟩
abbrev s__law_terms : Stmt := topS 20
theorem sc__law_terms : FnScope N__law_terms ["recurrence", "many"] (defScope s__law_terms) := ⟨rfl, rfl, rfl, by decide +kernel, rfl, by decide +kernel, by decide +kernel⟩
abbrev s_is_integer : Stmt := topS 5
theorem sc_is_integer : FnScope N_is_integer ["value"] (defScope s_is_integer) := ⟨rfl, rfl, rfl, by decide +kernel, rfl, by decide +kernel, by decide +kernel⟩
abbrev s_are_integers : Stmt := topS 6
theorem sc_are_integers : FnScope N_are_integers ["value"] (defScope s_are_integers) := ⟨rfl, rfl, rfl, by decide +kernel, rfl, by decide +kernel, by decide +kernel⟩
abbrev s_is_recurrence_of : Stmt := topS 9
theorem sc_is_recurrence_of : FnScope N_is_recurrence_of ["value"] (defScope s_is_recurrence_of) := ⟨rfl, rfl, rfl, by decide +kernel, rfl, by decide +kernel, by decide +kernel⟩
abbrev s_check_recurrence : Stmt := topS 10
theorem sc_check_recurrence : FnScope N_check_recurrence ["recurrence"] (defScope s_check_recurrence) := ⟨rfl, rfl, rfl, by decide +kernel, rfl, by decide +kernel, by decide +kernel⟩
abbrev s_check_from : Stmt := topS 7
theorem sc_check_from : FnScope N_check_from ["value", "least"] (defScope s_check_from) := ⟨rfl, rfl, rfl, by decide +kernel, rfl, by decide +kernel, by decide +kernel⟩
abbrev s_terms_to : Stmt := topS 11
theorem sc_terms_to : FnScope N_terms_to ["recurrence", "many"] (defScope s_terms_to) := ⟨rfl, rfl, rfl, by decide +kernel, rfl, by decide +kernel, by decide +kernel⟩
abbrev s_term : Stmt := topS 13
theorem sc_term : FnScope N_term ["recurrence", "n"] (defScope s_term) := ⟨rfl, rfl, rfl, by decide +kernel, rfl, by decide +kernel, by decide +kernel⟩
abbrev s_is_recurrence : Stmt := topS 12
theorem sc_is_recurrence : FnScope N_is_recurrence ["value"] (defScope s_is_recurrence) := ⟨rfl, rfl, rfl, by decide +kernel, rfl, by decide +kernel, by decide +kernel⟩
abbrev s__law_same : Stmt := topS 17
theorem sc__law_same : FnScope N__law_same ["got", "due"] (defScope s__law_same) := ⟨rfl, rfl, rfl, by decide +kernel, rfl, by decide +kernel, by decide +kernel⟩
abbrev s__law_times : Stmt := topS 22
theorem sc__law_times : FnScope N__law_times ["one", "other", "by"] (defScope s__law_times) := ⟨rfl, rfl, rfl, by decide +kernel, rfl, by decide +kernel, by decide +kernel⟩
abbrev s__law_far : Stmt := topS 21
theorem sc__law_far : FnScope N__law_far ["own", "n", "by"] (defScope s__law_far) := ⟨rfl, rfl, rfl, by decide +kernel, rfl, by decide +kernel, by decide +kernel⟩
abbrev s_law : Stmt := topS 23
theorem sc_law : FnScope N_law ["script"] (defScope s_law) := ⟨rfl, rfl, rfl, by decide +kernel, rfl, by decide +kernel, by decide +kernel⟩
structure Txt (K : PySem.W.Frag) (mg : Str → Option Value) where
  a__law_pot : Addr
  fd__law_pot : FuncData
  F__law_pot : FunD K "_law_pot" "_law_pot" (defArgs s__law_pot) (defBody s__law_pot) (defScope s__law_pot) [] [] a__law_pot fd__law_pot
  g__law_pot : mg "_law_pot" = some (.ref a__law_pot)
  a__law_take : Addr
  fd__law_take : FuncData
  F__law_take : FunD K "_law_take" "_law_take" (defArgs s__law_take) (defBody s__law_take) (defScope s__law_take) [] [] a__law_take fd__law_take
  g__law_take : mg "_law_take" = some (.ref a__law_take)
  a__law_integer : Addr
  fd__law_integer : FuncData
  F__law_integer : FunD K "_law_integer" "_law_integer" (defArgs s__law_integer) (defBody s__law_integer) (defScope s__law_integer) [] [] a__law_integer fd__law_integer
  g__law_integer : mg "_law_integer" = some (.ref a__law_integer)
  a__law_recurrence : Addr
  fd__law_recurrence : FuncData
  F__law_recurrence : FunD K "_law_recurrence" "_law_recurrence" (defArgs s__law_recurrence) (defBody s__law_recurrence) (defScope s__law_recurrence) [] [] a__law_recurrence fd__law_recurrence
  g__law_recurrence : mg "_law_recurrence" = some (.ref a__law_recurrence)
  a__law_terms : Addr
  fd__law_terms : FuncData
  F__law_terms : FunD K "_law_terms" "_law_terms" (defArgs s__law_terms) (defBody s__law_terms) (defScope s__law_terms) [] [] a__law_terms fd__law_terms
  g__law_terms : mg "_law_terms" = some (.ref a__law_terms)
  a_is_integer : Addr
  fd_is_integer : FuncData
  F_is_integer : FunD K "is_integer" "is_integer" (defArgs s_is_integer) (defBody s_is_integer) (defScope s_is_integer) [] [] a_is_integer fd_is_integer
  g_is_integer : mg "is_integer" = some (.ref a_is_integer)
  a_are_integers : Addr
  fd_are_integers : FuncData
  F_are_integers : FunD K "are_integers" "are_integers" (defArgs s_are_integers) (defBody s_are_integers) (defScope s_are_integers) [] [] a_are_integers fd_are_integers
  g_are_integers : mg "are_integers" = some (.ref a_are_integers)
  a_is_recurrence_of : Addr
  fd_is_recurrence_of : FuncData
  F_is_recurrence_of : FunD K "is_recurrence_of" "is_recurrence_of" (defArgs s_is_recurrence_of) (defBody s_is_recurrence_of) (defScope s_is_recurrence_of) [] [] a_is_recurrence_of fd_is_recurrence_of
  g_is_recurrence_of : mg "is_recurrence_of" = some (.ref a_is_recurrence_of)
  a_check_recurrence : Addr
  fd_check_recurrence : FuncData
  F_check_recurrence : FunD K "check_recurrence" "check_recurrence" (defArgs s_check_recurrence) (defBody s_check_recurrence) (defScope s_check_recurrence) [] [] a_check_recurrence fd_check_recurrence
  g_check_recurrence : mg "check_recurrence" = some (.ref a_check_recurrence)
  a_check_from : Addr
  fd_check_from : FuncData
  F_check_from : FunD K "check_from" "check_from" (defArgs s_check_from) (defBody s_check_from) (defScope s_check_from) [] [] a_check_from fd_check_from
  g_check_from : mg "check_from" = some (.ref a_check_from)
  a_terms_to : Addr
  fd_terms_to : FuncData
  F_terms_to : FunD K "terms_to" "terms_to" (defArgs s_terms_to) (defBody s_terms_to) (defScope s_terms_to) [] [] a_terms_to fd_terms_to
  g_terms_to : mg "terms_to" = some (.ref a_terms_to)
  a_term : Addr
  fd_term : FuncData
  F_term : FunD K "term" "term" (defArgs s_term) (defBody s_term) (defScope s_term) [] [] a_term fd_term
  g_term : mg "term" = some (.ref a_term)
  a_is_recurrence : Addr
  fd_is_recurrence : FuncData
  F_is_recurrence : FunD K "is_recurrence" "is_recurrence" (defArgs s_is_recurrence) (defBody s_is_recurrence) (defScope s_is_recurrence) [] [] a_is_recurrence fd_is_recurrence
  g_is_recurrence : mg "is_recurrence" = some (.ref a_is_recurrence)
  a__law_same : Addr
  fd__law_same : FuncData
  F__law_same : FunD K "_law_same" "_law_same" (defArgs s__law_same) (defBody s__law_same) (defScope s__law_same) [] [] a__law_same fd__law_same
  g__law_same : mg "_law_same" = some (.ref a__law_same)
  a__law_times : Addr
  fd__law_times : FuncData
  F__law_times : FunD K "_law_times" "_law_times" (defArgs s__law_times) (defBody s__law_times) (defScope s__law_times) [] [] a__law_times fd__law_times
  g__law_times : mg "_law_times" = some (.ref a__law_times)
  a__law_far : Addr
  fd__law_far : FuncData
  F__law_far : FunD K "_law_far" "_law_far" (defArgs s__law_far) (defBody s__law_far) (defScope s__law_far) [] [] a__law_far fd__law_far
  g__law_far : mg "_law_far" = some (.ref a__law_far)
  a_law : Addr
  fd_law : FuncData
  F_law : FunD K "law" "law" (defArgs s_law) (defBody s_law) (defScope s_law) [] [] a_law fd_law
  g_law : mg "law" = some (.ref a_law)
  bl : Blt mg
section
variable {P : Program} {w : World} {K : PySem.W.Frag} {mg : Str → Option Value} {base : Heap}
theorem Txt.b__law_pot (T : Txt K mg) : Binds K T.fd__law_pot ["script"] [] := T.F__law_pot.bindsN (fun _ _ _ _ _ _ us hl => match us, hl with | [_], _ => rfl)
theorem Txt.b__law_take (T : Txt K mg) : Binds K T.fd__law_take ["pot", "many"] [] := T.F__law_take.bindsN (fun _ _ _ _ _ _ us hl => match us, hl with | [_, _], _ => rfl)
theorem Txt.b__law_integer (T : Txt K mg) : Binds K T.fd__law_integer ["pot", "far"] [] := T.F__law_integer.bindsN (fun _ _ _ _ _ _ us hl => match us, hl with | [_, _], _ => rfl)
theorem Txt.b__law_recurrence (T : Txt K mg) : Binds K T.fd__law_recurrence ["pot", "most", "far"] [] := T.F__law_recurrence.bindsN (fun _ _ _ _ _ _ us hl => match us, hl with | [_, _, _], _ => rfl)
theorem Txt.b__law_terms (T : Txt K mg) : Binds K T.fd__law_terms ["recurrence", "many"] [] := T.F__law_terms.bindsN (fun _ _ _ _ _ _ us hl => match us, hl with | [_, _], _ => rfl)
theorem Txt.b_is_integer (T : Txt K mg) : Binds K T.fd_is_integer ["value"] [] := T.F_is_integer.bindsN (fun _ _ _ _ _ _ us hl => match us, hl with | [_], _ => rfl)
theorem Txt.b_are_integers (T : Txt K mg) : Binds K T.fd_are_integers ["value"] [] := T.F_are_integers.bindsN (fun _ _ _ _ _ _ us hl => match us, hl with | [_], _ => rfl)
theorem Txt.b_is_recurrence_of (T : Txt K mg) : Binds K T.fd_is_recurrence_of ["value"] [] := T.F_is_recurrence_of.bindsN (fun _ _ _ _ _ _ us hl => match us, hl with | [_], _ => rfl)
theorem Txt.b_check_recurrence (T : Txt K mg) : Binds K T.fd_check_recurrence ["recurrence"] [] := T.F_check_recurrence.bindsN (fun _ _ _ _ _ _ us hl => match us, hl with | [_], _ => rfl)
theorem Txt.b_check_from (T : Txt K mg) : Binds K T.fd_check_from ["value", "least"] [] := T.F_check_from.bindsN (fun _ _ _ _ _ _ us hl => match us, hl with | [_, _], _ => rfl)
theorem Txt.b_terms_to (T : Txt K mg) : Binds K T.fd_terms_to ["recurrence", "many"] [] := T.F_terms_to.bindsN (fun _ _ _ _ _ _ us hl => match us, hl with | [_, _], _ => rfl)
theorem Txt.b_term (T : Txt K mg) : Binds K T.fd_term ["recurrence", "n"] [] := T.F_term.bindsN (fun _ _ _ _ _ _ us hl => match us, hl with | [_, _], _ => rfl)
theorem Txt.b_is_recurrence (T : Txt K mg) : Binds K T.fd_is_recurrence ["value"] [] := T.F_is_recurrence.bindsN (fun _ _ _ _ _ _ us hl => match us, hl with | [_], _ => rfl)
theorem Txt.b__law_same (T : Txt K mg) : Binds K T.fd__law_same ["got", "due"] [] := T.F__law_same.bindsN (fun _ _ _ _ _ _ us hl => match us, hl with | [_, _], _ => rfl)
theorem Txt.b__law_times (T : Txt K mg) : Binds K T.fd__law_times ["one", "other", "by"] [] := T.F__law_times.bindsN (fun _ _ _ _ _ _ us hl => match us, hl with | [_, _, _], _ => rfl)
theorem Txt.b__law_far (T : Txt K mg) : Binds K T.fd__law_far ["own", "n", "by"] [] := T.F__law_far.bindsN (fun _ _ _ _ _ _ us hl => match us, hl with | [_, _, _], _ => rfl)
theorem ok__law_pot (T : Txt K mg) : FnOk P w K mg base CX0 1 T.a__law_pot T.fd__law_pot ["script"] (spR K den__law_pot) :=
  ok_R (u := u__law_pot) T.F__law_pot sc__law_pot (by decide) (fun cdv A outer s H E hr =>
    (ssm_one (sm_reto (eo_cat (em_eo (eo_lst (am_cons em_int (am_cons em_int (am_cons em_int (am_cons em_int am_nil)))))) (em_eo (eo_list (cm_own 0 (pv 0)) T.bl.list))))))
theorem ok__law_take (T : Txt K mg) : FnOk P w K mg base CX0 1 T.a__law_take T.fd__law_take ["pot", "many"] (spM K 1 den__law_take) :=
  ok_M (u := u__law_take) T.F__law_take sc__law_take (by decide) (fun cdv A outer s H E hr =>
    (ssm_cons (sm_if (tm_wm (wm_and (tm_cmp (o_eq hr.units) (em_ix (cm_own 0 (pv 0)) em_int) em_int (nomark _)) (wm_and1 (tm_cmp o_lt (em_ix (cm_own 0 (pv 0)) em_int) (em_len (cm_own 0 (pv 0)) T.bl.len) (nomark _))))) (ssm_cons (sm_set 2 (fun t h => ps_set sc__law_take.nd rfl (.inl rfl) h) (ev_d (em_ix (cm_own 0 (pv 0)) (em_ix (cm_own 0 (pv 0)) em_int)))) (ssm_cons (sm_augI 0 o_iadd (fun t ti r h hi ho => ps_augS (pv 0) hi get_list h ho set_list) em_int em_int) (ssm_one (sm_if (tm_cmp o_ge (em_var 2 (pv 2)) (em_op o_pow em_int em_int) (nomark _)) (ssm_one (sm_store 0 (fun t ti h hi => ps_asg h (pg_sub (pv 0) hi set_list)) (em_op o_sub (em_var 2 (pv 2)) (em_op o_pow em_int em_int)) em_int)) (ssm_one (sm_store 0 (fun t ti h hi => ps_asg h (pg_sub (pv 0) hi set_list)) (em_op o_mod (em_callTy c_int (am_cons (em_op o_add (em_op o_add (em_op o_mul (em_ix (cm_own 0 (pv 0)) em_int) em_int) (em_op o_mul (em_var 2 (pv 2)) em_int)) (em_op o_mul em_int (em_ix (cm_own 0 (pv 0)) em_int))) am_nil) T.bl.int PyProof.Rows.boot_int) em_int) em_int)))))) ssm_nil) (ssm_cons (sm_if (tm_cmp o_gt (em_ix (cm_own 0 (pv 0)) em_int) em_int (nomark _)) (ssm_cons (sm_set 3 (fun t h => ps_set sc__law_take.nd rfl (.inl rfl) h) (ev_d (em_op o_mod (em_callTy c_int (am_cons (em_ix (cm_own 0 (pv 0)) em_int) am_nil) T.bl.int PyProof.Rows.boot_int) (em_var 1 (pv 1))))) (ssm_cons (sm_store 0 (fun t ti h hi => ps_asg h (pg_sub (pv 0) hi set_list)) (em_op o_fdiv (em_ix (cm_own 0 (pv 0)) em_int) (em_var 1 (pv 1))) em_int) (ssm_one (sm_ret (em_var 3 (pv 3)))))) ssm_nil) (ssm_cons (sm_augI 0 o_iadd (fun t ti r h hi ho => ps_augS (pv 0) hi get_list h ho set_list) em_int em_int) (ssm_cons (sm_set 4 (fun t h => ps_set sc__law_take.nd rfl (.inl rfl) h) (ev_d (em_op o_mod (em_callTy c_int (am_cons (em_op o_add (em_op o_mul (em_op o_pow (em_op o_add (em_ix (cm_own 0 (pv 0)) em_int) (em_op o_mul em_int (em_ix (cm_own 0 (pv 0)) em_int))) em_int) em_int) (em_op o_mul em_int (em_ix (cm_own 0 (pv 0)) em_int))) am_nil) T.bl.int PyProof.Rows.boot_int) em_int))) (ssm_cons (sm_set 4 (fun t h => ps_set sc__law_take.nd rfl (.inl rfl) h) (ev_d (em_op o_mod (em_callTy c_int (am_cons (em_op o_add (em_op o_pow (em_op o_add (em_var 4 (pv 4)) em_int) em_int) (em_ix (cm_own 0 (pv 0)) em_int)) am_nil) T.bl.int PyProof.Rows.boot_int) em_int))) (ssm_one (sm_ret (em_op o_mod (em_callTy c_int (am_cons (em_op o_fdiv (em_var 4 (pv 4)) em_int) am_nil) T.bl.int PyProof.Rows.boot_int) (em_var 1 (pv 1)))))))))))
theorem ok__law_integer (T : Txt K mg) : FnOk P w K mg base CX0 2 T.a__law_integer T.fd__law_integer ["pot", "far"] (spM K 1 den__law_integer) :=
  ok_M (u := u__law_integer) T.F__law_integer sc__law_integer (by decide) (fun cdv A outer s H E hr =>
    (ssm_one (sm_ret (em_op o_sub (em_callP (y := "") (p2 := ⟨0, 0, 0, 0⟩) 0 (fun t h => pe_call (ok__law_take T) (hr.mono (by decide)) rfl T.g__law_take T.F__law_take.kp T.b__law_take .nil pass0 (pa_cons (pv 0) h)) (am_cons (em_op o_add (em_op o_mul em_int (em_var 1 (pv 1))) em_int) am_nil)) (em_var 1 (pv 1))))))
theorem ok__law_recurrence (T : Txt K mg) : FnOk P w K mg base CX0 3 T.a__law_recurrence T.fd__law_recurrence ["pot", "most", "far"] (spM K 2 den__law_recurrence) :=
  ok_M (u := u__law_recurrence) T.F__law_recurrence sc__law_recurrence (by decide) (fun cdv A outer s H E hr =>
    (ssm_cons (sm_set 3 (fun t h => ps_set sc__law_recurrence.nd rfl (.inl rfl) h) (ev_d (em_op o_add em_int (em_callP (y := "") (p2 := ⟨0, 0, 0, 0⟩) 0 (fun t h => pe_call (ok__law_take T) (hr.mono (by decide)) rfl T.g__law_take T.F__law_take.kp T.b__law_take .nil pass0 (pa_cons (pv 0) h)) (am_cons (em_var 1 (pv 1)) am_nil))))) (ssm_cons (sm_par 4 5 (fun t h => ps_par rfl sc__law_recurrence.nd rfl rfl (by decide) rfl rfl h (by rfl)) (ev_o (eo_lc (own := [("step", 6)]) (im_range1 (am_cons (em_var 3 (pv 3)) am_nil) T.bl.range) (blkOk_by (N := N__law_recurrence) (own := [("step", 6)]) (by rfl)) (fun _ _ _ _ _ => (gm_name 6 (pg_name (i := 6) sc__law_recurrence.nd rfl (.inl rfl)))) (fun _ _ _ _ _ => ct_nil) (fun _ _ _ _ _ => (em_callP (y := "") (p2 := ⟨0, 0, 0, 0⟩) 0 (fun t h => pe_call (ok__law_integer T) (hr.mono (by decide)) rfl T.g__law_integer T.F__law_integer.kp T.b__law_integer .nil pass0 (pa_cons (pv 0) h)) (am_cons (em_var 2 (pv 2)) am_nil))) (by decide) sc__law_recurrence.nd)) (ev_d (em_eo (eo_lc (own := [("step", 6)]) (im_range1 (am_cons (em_var 3 (pv 3)) am_nil) T.bl.range) (blkOk_by (N := N__law_recurrence) (own := [("step", 6)]) (by rfl)) (fun _ _ _ _ _ => (gm_name 6 (pg_name (i := 6) sc__law_recurrence.nd rfl (.inl rfl)))) (fun _ _ _ _ _ => ct_nil) (fun _ _ _ _ _ => (em_callP (y := "") (p2 := ⟨0, 0, 0, 0⟩) 0 (fun t h => pe_call (ok__law_integer T) (hr.mono (by decide)) rfl T.g__law_integer T.F__law_integer.kp T.b__law_integer .nil pass0 (pa_cons (pv 0) h)) (am_cons (em_var 2 (pv 2)) am_nil))) (by decide) sc__law_recurrence.nd)))) (ssm_cons (sm_store 4 (fun t ti h hi => ps_asg h (pg_sub (pv 4) hi set_list)) (em_if (tm_cmp (o_ne hr.units) (em_ix (cm_own 4 (pv 4)) (em_neg em_int)) em_int (nomark _)) (em_ix (cm_own 4 (pv 4)) (em_neg em_int)) (em_ix (cm_em (em_eo (eo_lst (am_cons em_int (am_cons (em_neg em_int) (am_cons em_int am_nil)))))) (em_callP (y := "") (p2 := ⟨0, 0, 0, 0⟩) 0 (fun t h => pe_call (ok__law_take T) (hr.mono (by decide)) rfl T.g__law_take T.F__law_take.kp T.b__law_take .nil pass0 (pa_cons (pv 0) h)) (am_cons em_int am_nil)))) (em_neg em_int)) (ssm_one (sm_ret (em_tup (am_cons (em_tupleOf (cm_own 4 (pv 4)) T.bl.tuple) (am_cons (em_tupleOf (cm_em (em_var 5 (pv 5))) T.bl.tuple) am_nil)))))))))
theorem ok__law_terms (T : Txt K mg) : FnOk P w K mg base CX0 1 T.a__law_terms T.fd__law_terms ["recurrence", "many"] (spD K 2 den__law_terms) :=
  ok_D (u := u__law_terms) T.F__law_terms sc__law_terms (by decide) (fun cdv A outer s H E hr =>
    (ssm_cons (sm_asg (fun t g h hg => ps_asg h hg) (gm_tup (gsm_cons (gm_name 2 (pg_name (i := 2) sc__law_terms.nd rfl (.inr rfl))) (gsm_cons (gm_name 3 (pg_name (i := 3) sc__law_terms.nd rfl (.inl rfl))) gsm_nil)) (glenS (glenS glen0))) (em_var 0 (pv 0))) (ssm_cons (sm_set 4 (fun t h => ps_set sc__law_terms.nd rfl (.inr rfl) h) (ev_o (eo_list (cm_em (em_var 3 (pv 3))) T.bl.list))) (ssm_cons (sm_for (im_range2 (am_cons (em_len (cm_em (em_var 3 (pv 3))) T.bl.len) (am_cons (em_var 1 (pv 1)) am_nil)) T.bl.range) (gm_name 5 (pg_name (i := 5) sc__law_terms.nd rfl (.inr rfl))) (ssm_one (sm_append 4 (fun t h => ps_expr (pe_bm PySem.F.plainAttrs_list PySem.F.slot_list_append PySem.F.type_list_append mt_append (pv 4) h)) (em_sum (cm_em (em_eo (eo_lc (own := [("i", 6)]) (im_range1 (am_cons (em_len (cm_em (em_var 2 (pv 2))) T.bl.len) am_nil) T.bl.range) (blkOk_by (N := N__law_terms) (own := [("i", 6)]) (by rfl)) (fun _ _ _ _ _ => (gm_name 6 (pg_name (i := 6) sc__law_terms.nd rfl (.inl rfl)))) (fun _ _ _ _ _ => ct_nil) (fun _ _ _ _ _ => (em_op o_mul (em_ix (cm_em (em_var 2 (pv 2))) (em_var 6 (pv 6))) (em_ix (cm_own 4 (pv 4)) (em_op o_sub (em_op o_sub (em_var 5 (pv 5)) em_int) (em_var 6 (pv 6)))))) (by decide) sc__law_terms.nd))) T.bl.sum)))) (ssm_one (sm_ret (em_slice (cm_own 4 (pv 4)) om_none (om_some (em_var 1 (pv 1))))))))))
theorem ok_is_integer (T : Txt K mg) : FnOk P w K mg base CX0 1 T.a_is_integer T.fd_is_integer ["value"] (spD K 1 den_is_integer) :=
  ok_D (u := u_is_integer) T.F_is_integer sc_is_integer (by decide) (fun cdv A outer s H E hr =>
    (ssm_one (sm_ret (em_and (em_isin (T := Ty.int) (em_var 0 (pv 0)) T.bl.isinstance T.bl.int (by decide +kernel)) (em_one (em_not (em_isin (T := Ty.bool) (em_var 0 (pv 0)) T.bl.isinstance T.bl.bool (by decide +kernel))))))))
theorem ok_are_integers (T : Txt K mg) : FnOk P w K mg base CX0 2 T.a_are_integers T.fd_are_integers ["value"] (spD K 1 den_are_integers) :=
  ok_D (u := u_are_integers) T.F_are_integers sc_are_integers (by decide) (fun cdv A outer s H E hr =>
    (ssm_one (sm_ret (em_and (em_isin (T := Ty.tuple) (em_var 0 (pv 0)) T.bl.isinstance T.bl.tuple (by decide +kernel)) (em_one (em_all (cm_em (em_eo (eo_lc (own := [("own", 1)]) (im_cm (cm_em (em_var 0 (pv 0)))) (blkOk_by (N := N_are_integers) (own := [("own", 1)]) (by rfl)) (fun _ _ _ _ _ => (gm_name 1 (pg_name (i := 1) sc_are_integers.nd rfl (.inl rfl)))) (fun _ _ _ _ _ => ct_nil) (fun _ _ _ _ _ => (em_call (fun t h => pe_call (ok_is_integer T) (hr.mono (by decide)) rfl T.g_is_integer T.F_is_integer.kp T.b_is_integer .nil pass0 h) (am_cons (em_var 1 (pv 1)) am_nil))) (by decide) sc_are_integers.nd))) T.bl.all))))))
theorem ok_is_recurrence_of (T : Txt K mg) : FnOk P w K mg base CX0 3 T.a_is_recurrence_of T.fd_is_recurrence_of ["value"] (spD K 1 den_is_recurrence_of) :=
  ok_D (u := u_is_recurrence_of) T.F_is_recurrence_of sc_is_recurrence_of (by decide) (fun cdv A outer s H E hr =>
    (ssm_cons (sm_if (tm_wm (wm_or (tm_not (tm_val (em_isin (T := Ty.tuple) (em_var 0 (pv 0)) T.bl.isinstance T.bl.tuple (by decide +kernel)))) (wm_or (tm_cmp (o_ne hr.units) (em_len (cm_em (em_var 0 (pv 0))) T.bl.len) em_int (nomark _)) (wm_or1 (tm_not (tm_val (em_all (cm_em (em_eo (eo_lc (own := [("own", 1)]) (im_cm (cm_em (em_var 0 (pv 0)))) (blkOk_by (N := N_is_recurrence_of) (own := [("own", 1)]) (by rfl)) (fun _ _ _ _ _ => (gm_name 1 (pg_name (i := 1) sc_is_recurrence_of.nd rfl (.inl rfl)))) (fun _ _ _ _ _ => ct_nil) (fun _ _ _ _ _ => (em_call (fun t h => pe_call (ok_are_integers T) (hr.mono (by decide)) rfl T.g_are_integers T.F_are_integers.kp T.b_are_integers .nil pass0 h) (am_cons (em_var 1 (pv 1)) am_nil))) (by decide) sc_is_recurrence_of.nd))) T.bl.all))))))) (ssm_one (sm_ret em_bl)) ssm_nil) (ssm_one (sm_ret (em_and (em_cmp (o_eq hr.units) (em_len (cm_em (em_ix (cm_em (em_var 0 (pv 0))) em_int)) T.bl.len) (em_len (cm_em (em_ix (cm_em (em_var 0 (pv 0))) em_int)) T.bl.len) (nomark _)) (em_and (em_cmp (o_ne hr.units) (em_ix (cm_em (em_var 0 (pv 0))) em_int) (em_tup am_nil) (nomark _)) (em_one (em_cmp (o_ne hr.units) (em_ix (cm_em (em_ix (cm_em (em_var 0 (pv 0))) em_int)) (em_neg em_int)) em_int (nomark _)))))))))
theorem ok_check_recurrence (T : Txt K mg) : FnOk P w K mg base CX0 4 T.a_check_recurrence T.fd_check_recurrence ["recurrence"] (spD K 1 den_check_recurrence) :=
  ok_D (u := u_check_recurrence) T.F_check_recurrence sc_check_recurrence (by decide) (fun cdv A outer s H E hr =>
    (ssm_one (sm_if (tm_not (tm_val (em_call (fun t h => pe_call (ok_is_recurrence_of T) (hr.mono (by decide)) rfl T.g_is_recurrence_of T.F_is_recurrence_of.kp T.b_is_recurrence_of .nil pass0 h) (am_cons (em_var 0 (pv 0)) am_nil)))) (ssm_one sm_never) ssm_nil)))
theorem ok_check_from (T : Txt K mg) : FnOk P w K mg base CX0 2 T.a_check_from T.fd_check_from ["value", "least"] (spD K 2 den_check_from) :=
  ok_D (u := u_check_from) T.F_check_from sc_check_from (by decide) (fun cdv A outer s H E hr =>
    (ssm_one (sm_if (tm_wm (wm_or (tm_not (tm_val (em_call (fun t h => pe_call (ok_is_integer T) (hr.mono (by decide)) rfl T.g_is_integer T.F_is_integer.kp T.b_is_integer .nil pass0 h) (am_cons (em_var 0 (pv 0)) am_nil)))) (wm_or1 (tm_cmp o_lt (em_var 0 (pv 0)) (em_var 1 (pv 1)) (nomark _))))) (ssm_one sm_never) ssm_nil)))
theorem ok_terms_to (T : Txt K mg) : FnOk P w K mg base CX0 1 T.a_terms_to T.fd_terms_to ["recurrence", "many"] (spD K 2 den_terms_to) :=
  ok_D (u := u_terms_to) T.F_terms_to sc_terms_to (by decide) (fun cdv A outer s H E hr =>
    (ssm_cons (sm_par 2 3 (fun t h => ps_par rfl sc_terms_to.nd rfl rfl (by decide) rfl rfl h (by rfl)) (ev_d (em_ix (cm_em (em_var 0 (pv 0))) em_int)) (ev_o (eo_list (cm_em (em_ix (cm_em (em_var 0 (pv 0))) em_int)) T.bl.list))) (ssm_cons (sm_while (tm_cmp o_lt (em_len (cm_own 3 (pv 3)) T.bl.len) (em_var 1 (pv 1)) (nomark _)) (ssm_one (sm_append 3 (fun t h => ps_expr (pe_bm PySem.F.plainAttrs_list PySem.F.slot_list_append PySem.F.type_list_append mt_append (pv 3) h)) (em_sum (cm_em (em_eo (eo_lc (own := [("own", 4), ("more", 5)]) (im_zip (cm_em (em_var 2 (pv 2))) (cm_em (em_rev (cm_own 3 (pv 3)))) T.bl.zip) (blkOk_by (N := N_terms_to) (own := [("own", 4), ("more", 5)]) (by rfl)) (fun _ _ _ _ _ => (gm_tup (gsm_cons (gm_name 4 (pg_name (i := 4) sc_terms_to.nd rfl (.inl rfl))) (gsm_cons (gm_name 5 (pg_name (i := 5) sc_terms_to.nd rfl (.inl rfl))) gsm_nil)) (glenS (glenS glen0)))) (fun _ _ _ _ _ => ct_nil) (fun _ _ _ _ _ => (em_op o_mul (em_var 4 (pv 4)) (em_var 5 (pv 5)))) (by decide) sc_terms_to.nd))) T.bl.sum)))) (ssm_one (sm_ret (em_slice (cm_own 3 (pv 3)) om_none (om_some (em_var 1 (pv 1)))))))))
theorem ok_term (T : Txt K mg) : FnOk P w K mg base CX0 5 T.a_term T.fd_term ["recurrence", "n"] (spD K 2 den_term) :=
  ok_D (u := u_term) T.F_term sc_term (by decide) (fun cdv A outer s H E hr =>
    (ssm_cons (sm_expr (em_call (fun t h => pe_call (ok_check_recurrence T) (hr.mono (by decide)) rfl T.g_check_recurrence T.F_check_recurrence.kp T.b_check_recurrence .nil pass0 h) (am_cons (em_var 0 (pv 0)) am_nil))) (ssm_cons (sm_expr (em_call (fun t h => pe_call (ok_check_from T) (hr.mono (by decide)) rfl T.g_check_from T.F_check_from.kp T.b_check_from .nil pass0 h) (am_cons (em_var 1 (pv 1)) (am_cons em_int am_nil)))) (ssm_one (sm_ret (em_ix (cm_em (em_call (fun t h => pe_call (ok_terms_to T) (hr.mono (by decide)) rfl T.g_terms_to T.F_terms_to.kp T.b_terms_to .nil pass0 h) (am_cons (em_var 0 (pv 0)) (am_cons (em_op o_add (em_var 1 (pv 1)) em_int) am_nil)))) (em_var 1 (pv 1))))))))
theorem ok_is_recurrence (T : Txt K mg) : FnOk P w K mg base CX0 4 T.a_is_recurrence T.fd_is_recurrence ["value"] (spD K 1 den_is_recurrence) :=
  ok_D (u := u_is_recurrence) T.F_is_recurrence sc_is_recurrence (by decide) (fun cdv A outer s H E hr =>
    (ssm_one (sm_ret (em_call (fun t h => pe_call (ok_is_recurrence_of T) (hr.mono (by decide)) rfl T.g_is_recurrence_of T.F_is_recurrence_of.kp T.b_is_recurrence_of .nil pass0 h) (am_cons (em_var 0 (pv 0)) am_nil)))))
theorem ok__law_same (T : Txt K mg) : ∀ n, FnOk P w K mg base CX0 n T.a__law_same T.fd__law_same ["got", "due"] (spD K 2 (den__law_same n))
  | 0 => ok_none 2
  | n + 1 => have IH := ok__law_same T n
    ok_D (u := u__law_same (den__law_same n)) T.F__law_same sc__law_same (by decide) (fun cdv A outer s H E hr =>
      (ssm_cons (sm_if (tm_val (em_isin2 (T := Ty.tuple) (T2 := Ty.list) (em_var 1 (pv 1)) T.bl.isinstance T.bl.tuple T.bl.list (by decide +kernel) (by decide +kernel))) (ssm_cons (sm_if (tm_wm (wm_or (tm_cmp (o_ne hr.units) (em_isin (T := Ty.tuple) (em_var 0 (pv 0)) T.bl.isinstance T.bl.tuple (by decide +kernel)) (em_isin (T := Ty.tuple) (em_var 1 (pv 1)) T.bl.isinstance T.bl.tuple (by decide +kernel)) (nomark _)) (wm_or1 (tm_cmp (o_ne hr.units) (em_isin (T := Ty.list) (em_var 0 (pv 0)) T.bl.isinstance T.bl.list (by decide +kernel)) (em_isin (T := Ty.list) (em_var 1 (pv 1)) T.bl.isinstance T.bl.list (by decide +kernel)) (nomark _))))) (ssm_one (sm_ret em_bl)) ssm_nil) (ssm_one (sm_ret (em_and (em_cmp (o_eq hr.units) (em_len (cm_em (em_var 0 (pv 0))) T.bl.len) (em_len (cm_em (em_var 1 (pv 1))) T.bl.len) (nomark _)) (em_one (em_all (cm_em (em_eo (eo_lc (own := [("k", 2)]) (im_range1 (am_cons (em_len (cm_em (em_var 1 (pv 1))) T.bl.len) am_nil) T.bl.range) (blkOk_by (N := N__law_same) (own := [("k", 2)]) (by rfl)) (fun _ _ _ _ _ => (gm_name 2 (pg_name (i := 2) sc__law_same.nd rfl (.inl rfl)))) (fun _ _ _ _ _ => ct_nil) (fun _ _ _ _ _ => (em_call (fun t h => pe_call IH hr rfl T.g__law_same T.F__law_same.kp T.b__law_same .nil pass0 h) (am_cons (em_ix (cm_em (em_var 0 (pv 0))) (em_var 2 (pv 2))) (am_cons (em_ix (cm_em (em_var 1 (pv 1))) (em_var 2 (pv 2))) am_nil)))) (by decide) sc__law_same.nd))) T.bl.all)))))) ssm_nil) (ssm_cons (sm_if (tm_wm (wm_or (tm_cmp o_is (em_var 1 (pv 1)) em_non (nomark _)) (wm_or1 (tm_cmp o_is (em_var 0 (pv 0)) em_non (nomark _))))) (ssm_one (sm_ret (em_and (em_cmp o_is (em_var 1 (pv 1)) em_non (nomark _)) (em_one (em_cmp o_is (em_var 0 (pv 0)) em_non (nomark _)))))) ssm_nil) (ssm_cons (sm_if (tm_wm (wm_or (tm_val (em_isin (T := Ty.bool) (em_var 1 (pv 1)) T.bl.isinstance T.bl.bool (by decide +kernel))) (wm_or1 (tm_val (em_isin (T := Ty.bool) (em_var 0 (pv 0)) T.bl.isinstance T.bl.bool (by decide +kernel)))))) (ssm_one (sm_ret (em_and (em_isin (T := Ty.bool) (em_var 1 (pv 1)) T.bl.isinstance T.bl.bool (by decide +kernel)) (em_and (em_isin (T := Ty.bool) (em_var 0 (pv 0)) T.bl.isinstance T.bl.bool (by decide +kernel)) (em_one (em_cmp (o_eq hr.units) (em_var 0 (pv 0)) (em_var 1 (pv 1)) (nomark _))))))) ssm_nil) (ssm_cons (sm_if (tm_val (em_isin (T := Ty.str) (em_var 1 (pv 1)) T.bl.isinstance T.bl.str (by decide +kernel))) (ssm_one (sm_ret (em_and (em_isin (T := Ty.str) (em_var 0 (pv 0)) T.bl.isinstance T.bl.str (by decide +kernel)) (em_one (em_cmp (o_eq hr.units) (em_var 0 (pv 0)) (em_var 1 (pv 1)) (nomark _)))))) ssm_nil) (ssm_one (sm_ret (em_and (em_isin (T := Ty.int) (em_var 1 (pv 1)) T.bl.isinstance T.bl.int (by decide +kernel)) (em_and (em_isin (T := Ty.int) (em_var 0 (pv 0)) T.bl.isinstance T.bl.int (by decide +kernel)) (em_one (em_cmp (o_eq hr.units) (em_var 0 (pv 0)) (em_var 1 (pv 1)) (nomark _))))))))))))
theorem ok__law_times (T : Txt K mg) : FnOk P w K mg base CX0 1 T.a__law_times T.fd__law_times ["one", "other", "by"] (spD K 3 den__law_times) :=
  ok_D (u := u__law_times) T.F__law_times sc__law_times (by decide) (fun cdv A outer s H E hr =>
    (ssm_cons (sm_set 3 (fun t h => ps_set sc__law_times.nd rfl (.inr rfl) h) (ev_d (em_eo (eo_listRg (em_len (cm_em (em_var 0 (pv 0))) T.bl.len) T.bl.list T.bl.range)))) (ssm_one (sm_ret (em_eo (eo_lc (own := [("i", 4)]) (im_cm (cm_em (em_var 3 (pv 3)))) (blkOk_by (N := N__law_times) (own := [("i", 4)]) (by rfl)) (fun _ _ _ _ _ => (gm_name 4 (pg_name (i := 4) sc__law_times.nd rfl (.inr rfl)))) (fun _ _ _ _ _ => ct_nil) (fun _ _ _ _ _ => (em_eo (eo_lc (own := [("j", 5)]) (im_cm (cm_em (em_var 3 (pv 3)))) (blkOk_by (N := N__law_times) (own := [("j", 5)]) (by rfl)) (fun _ _ _ _ _ => (gm_name 5 (pg_name (i := 5) sc__law_times.nd rfl (.inr rfl)))) (fun _ _ _ _ _ => ct_nil) (fun _ _ _ _ _ => (em_op o_mod (em_callTy c_int (am_cons (em_sum (cm_em (em_eo (eo_lc (own := [("k", 6)]) (im_cm (cm_em (em_var 3 (pv 3)))) (blkOk_by (N := N__law_times) (own := [("k", 6)]) (by rfl)) (fun _ _ _ _ _ => (gm_name 6 (pg_name (i := 6) sc__law_times.nd rfl (.inl rfl)))) (fun _ _ _ _ _ => ct_nil) (fun _ _ _ _ _ => (em_op o_mul (em_ix (cm_em (em_ix (cm_em (em_var 0 (pv 0))) (em_var 4 (pv 4)))) (em_var 6 (pv 6))) (em_ix (cm_em (em_ix (cm_em (em_var 1 (pv 1))) (em_var 6 (pv 6)))) (em_var 5 (pv 5))))) (by decide) sc__law_times.nd))) T.bl.sum) am_nil) T.bl.int PyProof.Rows.boot_int) (em_var 2 (pv 2)))) (by decide) sc__law_times.nd))) (by decide) sc__law_times.nd))))))
theorem ok__law_far (T : Txt K mg) : FnOk P w K mg base CX0 2 T.a__law_far T.fd__law_far ["own", "n", "by"] (spD K 3 den__law_far) :=
  ok_D (u := u__law_far) T.F__law_far sc__law_far (by decide) (fun cdv A outer s H E hr =>
    (ssm_cons (sm_asg (fun t g h hg => ps_asg h hg) (gm_tup (gsm_cons (gm_name 3 (pg_name (i := 3) sc__law_far.nd rfl (.inr rfl))) (gsm_cons (gm_name 4 (pg_name (i := 4) sc__law_far.nd rfl (.inr rfl))) gsm_nil)) (glenS (glenS glen0))) (em_var 0 (pv 0))) (ssm_cons (sm_set 5 (fun t h => ps_set sc__law_far.nd rfl (.inr rfl) h) (ev_d (em_len (cm_em (em_var 3 (pv 3))) T.bl.len))) (ssm_cons (sm_set 6 (fun t h => ps_set sc__law_far.nd rfl (.inr rfl) h) (ev_d (em_eo (eo_lc (own := [("i", 9)]) (im_range1 (am_cons (em_var 5 (pv 5)) am_nil) T.bl.range) (blkOk_by (N := N__law_far) (own := [("i", 9)]) (by rfl)) (fun _ _ _ _ _ => (gm_name 9 (pg_name (i := 9) sc__law_far.nd rfl (.inr rfl)))) (fun _ _ _ _ _ => ct_nil) (fun _ _ _ _ _ => (em_eo (eo_lc (own := [("j", 10)]) (im_range1 (am_cons (em_var 5 (pv 5)) am_nil) T.bl.range) (blkOk_by (N := N__law_far) (own := [("j", 10)]) (by rfl)) (fun _ _ _ _ _ => (gm_name 10 (pg_name (i := 10) sc__law_far.nd rfl (.inl rfl)))) (fun _ _ _ _ _ => ct_nil) (fun _ _ _ _ _ => (em_callTy c_int (am_cons (em_cmp (o_eq hr.units) (em_var 9 (pv 9)) (em_var 10 (pv 10)) (nomark _)) am_nil) T.bl.int PyProof.Rows.boot_int)) (by decide) sc__law_far.nd))) (by decide) sc__law_far.nd)))) (ssm_cons (sm_frz 7 (sm_setlc 7 (own := [("i", 9)]) (im_range1 (am_cons (em_var 5 (pv 5)) am_nil) T.bl.range) (blkOk_by (N := N__law_far) (own := [("i", 9)]) (by rfl)) (fun _ _ _ _ _ => (gm_name 9 (pg_name (i := 9) sc__law_far.nd rfl (.inr rfl)))) (fun _ _ _ _ _ => ct_nil) (fun _ _ _ _ _ => (em_eo (eo_lc (own := [("j", 10)]) (im_range1 (am_cons (em_var 5 (pv 5)) am_nil) T.bl.range) (blkOk_by (N := N__law_far) (own := [("j", 10)]) (by rfl)) (fun _ _ _ _ _ => (gm_name 10 (pg_name (i := 10) sc__law_far.nd rfl (.inl rfl)))) (fun _ _ _ _ _ => ct_nil) (fun _ _ _ _ _ => (em_if (tm_cmp (o_eq hr.units) (em_var 9 (pv 9)) em_int (nomark _)) (em_ix (cm_em (em_var 3 (pv 3))) (em_var 10 (pv 10))) (em_callTy c_int (am_cons (em_cmp (o_eq hr.units) (em_var 10 (pv 10)) (em_op o_sub (em_var 9 (pv 9)) em_int) (nomark _)) am_nil) T.bl.int PyProof.Rows.boot_int))) (by decide) sc__law_far.nd))) (by decide) sc__law_far.nd)) (ssm_cons (sm_for (im_range1 (am_cons em_int am_nil) T.bl.range) (gm_name 8 (pg_name (i := 8) sc__law_far.nd rfl (.inl rfl))) (ssm_cons (sm_if (tm_cmp (o_eq hr.units) (em_var 1 (pv 1)) em_int (nomark _)) (ssm_one sm_break) ssm_nil) (ssm_cons (sm_if (tm_cmp (o_eq hr.units) (em_op o_mod (em_callTy c_int (am_cons (em_var 1 (pv 1)) am_nil) T.bl.int PyProof.Rows.boot_int) em_int) em_int (nomark _)) (ssm_one (sm_set 6 (fun t h => ps_set sc__law_far.nd rfl (.inr rfl) h) (ev_d (em_call (fun t h => pe_call (ok__law_times T) (hr.mono (by decide)) rfl T.g__law_times T.F__law_times.kp T.b__law_times .nil pass0 h) (am_cons (em_var 6 (pv 6)) (am_cons (em_var 7 (pv 7)) (am_cons (em_var 2 (pv 2)) am_nil))))))) ssm_nil) (ssm_one (sm_par 7 1 (fun t h => ps_par rfl sc__law_far.nd rfl rfl (by decide) rfl rfl h (by rfl)) (ev_d (em_call (fun t h => pe_call (ok__law_times T) (hr.mono (by decide)) rfl T.g__law_times T.F__law_times.kp T.b__law_times .nil pass0 h) (am_cons (em_var 7 (pv 7)) (am_cons (em_var 7 (pv 7)) (am_cons (em_var 2 (pv 2)) am_nil))))) (ev_d (em_op o_fdiv (em_var 1 (pv 1)) em_int))))))) (ssm_one (sm_ret (em_op o_mod (em_callTy c_int (am_cons (em_sum (cm_em (em_eo (eo_lc (own := [("j", 10)]) (im_range1 (am_cons (em_var 5 (pv 5)) am_nil) T.bl.range) (blkOk_by (N := N__law_far) (own := [("j", 10)]) (by rfl)) (fun _ _ _ _ _ => (gm_name 10 (pg_name (i := 10) sc__law_far.nd rfl (.inl rfl)))) (fun _ _ _ _ _ => ct_nil) (fun _ _ _ _ _ => (em_op o_mul (em_ix (cm_em (em_ix (cm_em (em_var 6 (pv 6))) (em_op o_sub (em_var 5 (pv 5)) em_int))) (em_var 10 (pv 10))) (em_ix (cm_em (em_var 4 (pv 4))) (em_op o_sub (em_op o_sub (em_var 5 (pv 5)) em_int) (em_var 10 (pv 10)))))) (by decide) sc__law_far.nd))) T.bl.sum) am_nil) T.bl.int PyProof.Rows.boot_int) (em_var 2 (pv 2)))))))))))
theorem ok_law (T : Txt K mg) (hu : ∀ ns : List Int, ns.length ≤ 63 → ∃ ρ', u_law (slots N_law [.rd (ns.map .int)]) = some (.ret (.bool true), ρ')) : FnOk P w K mg base CX0 7 T.a_law T.fd_law ["script"] (spLaw K) :=
  PD.ok_law (u := u_law) T.F_law sc_law (fun cdv A outer s H E hr =>
    (ssm_cons (sm_set 1 (fun t h => ps_set sc_law.nd rfl (.inr rfl) h) (ev_o (eo_callR (y := "") (pos := ⟨0, 0, 0, 0⟩) 0 (pe_call (ok__law_pot T) (hr.mono (by decide)) rfl T.g__law_pot T.F__law_pot.kp T.b__law_pot .nil pass0 (pa_cons (pv 0) pa_nil))))) (ssm_cons (sm_for (im_range1 (am_cons em_int am_nil) T.bl.range) (gm_name 2 (pg_name (i := 2) sc_law.nd rfl (.inl rfl))) (ssm_cons (sm_set 3 (fun t h => ps_set sc_law.nd rfl (.inl rfl) h) (ev_d (em_callP (y := "") (p2 := ⟨0, 0, 0, 0⟩) 1 (fun t h => pe_call (ok__law_recurrence T) (hr.mono (by decide)) rfl T.g__law_recurrence T.F__law_recurrence.kp T.b__law_recurrence .nil pass0 (pa_cons (pv 1) h)) (am_cons em_int (am_cons (em_ix (cm_em (em_eo (eo_lst (am_cons em_int (am_cons em_int am_nil))))) (em_callP (y := "") (p2 := ⟨0, 0, 0, 0⟩) 1 (fun t h => pe_call (ok__law_take T) (hr.mono (by decide)) rfl T.g__law_take T.F__law_take.kp T.b__law_take .nil pass0 (pa_cons (pv 1) h)) (am_cons em_int am_nil))) am_nil))))) (ssm_cons (sm_set 4 (fun t h => ps_set sc_law.nd rfl (.inl rfl) h) (ev_d (em_call (fun t h => pe_call (ok__law_terms T) (hr.mono (by decide)) rfl T.g__law_terms T.F__law_terms.kp T.b__law_terms .nil pass0 h) (am_cons (em_var 3 (pv 3)) (am_cons em_int am_nil))))) (ssm_cons (sm_set 5 (fun t h => ps_set sc_law.nd rfl (.inl rfl) h) (ev_d (em_callP (y := "") (p2 := ⟨0, 0, 0, 0⟩) 1 (fun t h => pe_call (ok__law_take T) (hr.mono (by decide)) rfl T.g__law_take T.F__law_take.kp T.b__law_take .nil pass0 (pa_cons (pv 1) h)) (am_cons em_int am_nil)))) (ssm_cons (sm_if (tm_not (tm_val (em_call (fun t h => pe_call (ok__law_same T 6) (hr.mono (by decide)) rfl T.g__law_same T.F__law_same.kp T.b__law_same .nil pass0 h) (am_cons (em_eo (eo_lst (am_cons (em_call (fun t h => pe_call (ok_term T) (hr.mono (by decide)) rfl T.g_term T.F_term.kp T.b_term .nil pass0 h) (am_cons (em_var 3 (pv 3)) (am_cons (em_var 5 (pv 5)) am_nil))) (am_cons (em_callK0 (idx := [1, 0]) (fun tk h => pe_callN0 (ok_term T) (hr.mono (by decide)) rfl T.g_term T.F_term.kp (kbn_of T.F_term 0 ["n", "recurrence"] [1, 0] (fun _ _ _ _ _ _ us ws h1 h2 => match us, ws, h1, h2 with | [], [_, _], _, _ => rfl)) pass0 h) (km_cons (em_var 5 (pv 5)) (km_cons (em_var 3 (pv 3)) km_nil)) rfl (fun bs h => match bs, h with | [_, _], _ => rfl)) (am_cons (em_call (fun t h => pe_call (ok_is_recurrence T) (hr.mono (by decide)) rfl T.g_is_recurrence T.F_is_recurrence.kp T.b_is_recurrence .nil pass0 h) (am_cons (em_var 3 (pv 3)) am_nil)) (am_cons (em_callK0 (idx := [0]) (fun tk h => pe_callN0 (ok_is_recurrence T) (hr.mono (by decide)) rfl T.g_is_recurrence T.F_is_recurrence.kp (kbn_of T.F_is_recurrence 0 ["value"] [0] (fun _ _ _ _ _ _ us ws h1 h2 => match us, ws, h1, h2 with | [], [_], _, _ => rfl)) pass0 h) (km_cons (em_var 3 (pv 3)) km_nil) rfl (fun bs h => match bs, h with | [_], _ => rfl)) am_nil)))))) (am_cons (em_eo (eo_lst (am_cons (em_ix (cm_em (em_var 4 (pv 4))) (em_var 5 (pv 5))) (am_cons (em_ix (cm_em (em_var 4 (pv 4))) (em_var 5 (pv 5))) (am_cons em_bl (am_cons em_bl am_nil)))))) am_nil))))) (ssm_one (sm_ret em_bl)) ssm_nil) (ssm_cons (sm_asg (fun t g h hg => ps_asg h hg) (gm_tup (gsm_cons (gm_name 6 (pg_name (i := 6) sc_law.nd rfl (.inl rfl))) (gsm_cons (gm_name 7 (pg_name (i := 7) sc_law.nd rfl (.inr rfl))) gsm_nil)) (glenS (glenS glen0))) (em_var 3 (pv 3))) (ssm_cons (sm_set 8 (fun t h => ps_set sc_law.nd rfl (.inr rfl) h) (ev_d (em_tup (am_cons (em_var 6 (pv 6)) (am_cons (em_tupleOf (cm_em (em_eo (eo_lc (own := [("step", 14)]) (im_cm (cm_em (em_var 6 (pv 6)))) (blkOk_by (N := N_law) (own := [("step", 14)]) (by rfl)) (fun _ _ _ _ _ => (gm_name 14 (pg_name (i := 14) sc_law.nd rfl (.inl rfl)))) (fun _ _ _ _ _ => ct_nil) (fun _ _ _ _ _ => (em_callP (y := "") (p2 := ⟨0, 0, 0, 0⟩) 1 (fun t h => pe_call (ok__law_integer T) (hr.mono (by decide)) rfl T.g__law_integer T.F__law_integer.kp T.b__law_integer .nil pass0 (pa_cons (pv 1) h)) (am_cons em_int am_nil))) (by decide) sc_law.nd))) T.bl.tuple) am_nil))))) (ssm_cons (sm_set 9 (fun t h => ps_set sc_law.nd rfl (.inl rfl) h) (ev_d (em_tup (am_cons (em_var 6 (pv 6)) (am_cons (em_tupleOf (cm_em (em_eo (eo_lc (own := [("at", 15)]) (im_range1 (am_cons (em_len (cm_em (em_var 6 (pv 6))) T.bl.len) am_nil) T.bl.range) (blkOk_by (N := N_law) (own := [("at", 15)]) (by rfl)) (fun _ _ _ _ _ => (gm_name 15 (pg_name (i := 15) sc_law.nd rfl (.inl rfl)))) (fun _ _ _ _ _ => ct_nil) (fun _ _ _ _ _ => (em_op o_add (em_ix (cm_em (em_var 7 (pv 7))) (em_var 15 (pv 15))) (em_op o_mul em_int (em_ix (cm_em (em_ix (cm_em (em_var 8 (pv 8))) em_int)) (em_var 15 (pv 15)))))) (by decide) sc_law.nd))) T.bl.tuple) am_nil))))) (ssm_cons (sm_if (tm_not (tm_val (em_call (fun t h => pe_call (ok__law_same T 6) (hr.mono (by decide)) rfl T.g__law_same T.F__law_same.kp T.b__law_same .nil pass0 h) (am_cons (em_call (fun t h => pe_call (ok_term T) (hr.mono (by decide)) rfl T.g_term T.F_term.kp T.b_term .nil pass0 h) (am_cons (em_var 9 (pv 9)) (am_cons (em_var 5 (pv 5)) am_nil))) (am_cons (em_op o_add (em_ix (cm_em (em_var 4 (pv 4))) (em_var 5 (pv 5))) (em_op o_mul em_int (em_ix (cm_em (em_call (fun t h => pe_call (ok__law_terms T) (hr.mono (by decide)) rfl T.g__law_terms T.F__law_terms.kp T.b__law_terms .nil pass0 h) (am_cons (em_var 8 (pv 8)) (am_cons em_int am_nil)))) (em_var 5 (pv 5))))) am_nil))))) (ssm_one (sm_ret em_bl)) ssm_nil) (ssm_cons (sm_set 10 (fun t h => ps_set sc_law.nd rfl (.inl rfl) h) (ev_d (em_callP (y := "") (p2 := ⟨0, 0, 0, 0⟩) 1 (fun t h => pe_call (ok__law_take T) (hr.mono (by decide)) rfl T.g__law_take T.F__law_take.kp T.b__law_take .nil pass0 (pa_cons (pv 1) h)) (am_cons em_int am_nil)))) (ssm_cons (sm_set 11 (fun t h => ps_set sc_law.nd rfl (.inl rfl) h) (ev_d (em_call (fun t h => pe_call (ok_term T) (hr.mono (by decide)) rfl T.g_term T.F_term.kp T.b_term .nil pass0 h) (am_cons (em_var 3 (pv 3)) (am_cons (em_var 10 (pv 10)) am_nil))))) (ssm_cons (sm_if (tm_wm (wm_or (tm_not (tm_val (em_isin (T := Ty.int) (em_var 11 (pv 11)) T.bl.isinstance T.bl.int (by decide +kernel)))) (wm_or1 (tm_val (em_isin (T := Ty.bool) (em_var 11 (pv 11)) T.bl.isinstance T.bl.bool (by decide +kernel)))))) (ssm_one (sm_ret em_bl)) ssm_nil) (ssm_cons (sm_for (im_cm (cm_em (em_eo (eo_lst (am_cons (em_op o_add (em_op o_pow em_int em_int) em_int) (am_cons em_int (am_cons (em_op o_sub (em_op o_pow em_int em_int) em_int) am_nil))))))) (gm_name 12 (pg_name (i := 12) sc_law.nd rfl (.inl rfl))) (ssm_one (sm_if (tm_cmp (o_ne hr.units) (em_op o_mod (em_op o_sub (em_var 11 (pv 11)) (em_call (fun t h => pe_call (ok__law_far T) (hr.mono (by decide)) rfl T.g__law_far T.F__law_far.kp T.b__law_far .nil pass0 h) (am_cons (em_var 3 (pv 3)) (am_cons (em_var 10 (pv 10)) (am_cons (em_var 12 (pv 12)) am_nil))))) (em_var 12 (pv 12))) em_int (nomark _)) (ssm_one (sm_ret em_bl)) ssm_nil))) (ssm_cons (sm_set 13 (fun t h => ps_set sc_law.nd rfl (.inl rfl) h) (ev_d (em_eo (eo_lst (am_cons (em_tup (am_cons (em_var 6 (pv 6)) (am_cons (em_slice (cm_em (em_var 7 (pv 7))) (om_some em_int) om_none) am_nil))) (am_cons (em_tup (am_cons (em_op o_add (em_slice (cm_em (em_var 6 (pv 6))) om_none (om_some (em_neg em_int))) (em_tup (am_cons em_int am_nil))) (am_cons (em_var 7 (pv 7)) am_nil))) (am_cons (em_tup (am_cons (em_var 6 (pv 6)) am_nil)) (am_cons (em_tup (am_cons (em_var 6 (pv 6)) (am_cons (em_var 7 (pv 7)) (am_cons (em_var 7 (pv 7)) am_nil)))) (am_cons (em_eo (eo_lst (am_cons (em_var 6 (pv 6)) (am_cons (em_var 7 (pv 7)) am_nil)))) (am_cons (em_tup (am_cons (em_eo (eo_list (cm_em (em_var 6 (pv 6))) T.bl.list)) (am_cons (em_var 7 (pv 7)) am_nil))) (am_cons (em_tup (am_cons (em_tup am_nil) (am_cons (em_tup am_nil) am_nil))) (am_cons em_non (am_cons (em_tup (am_cons (em_var 6 (pv 6)) (am_cons (em_op o_add (em_slice (cm_em (em_var 7 (pv 7))) om_none (om_some (em_neg em_int))) (em_tup (am_cons em_non am_nil))) am_nil))) (am_cons (em_tup (am_cons (em_op o_add (em_slice (cm_em (em_var 6 (pv 6))) om_none (om_some (em_neg em_int))) (em_tup (am_cons em_bl am_nil))) (am_cons (em_var 7 (pv 7)) am_nil))) (am_cons em_str (am_cons (em_tup (am_cons (em_op o_add (em_var 6 (pv 6)) (em_tup (am_cons em_int am_nil))) (am_cons (em_var 7 (pv 7)) am_nil))) (am_cons em_int am_nil))))))))))))))))) (ssm_one (sm_if (tm_not (tm_val (em_call (fun t h => pe_call (ok__law_same T 6) (hr.mono (by decide)) rfl T.g__law_same T.F__law_same.kp T.b__law_same .nil pass0 h) (am_cons (em_call (fun t h => pe_call (ok_is_recurrence T) (hr.mono (by decide)) rfl T.g_is_recurrence T.F_is_recurrence.kp T.b_is_recurrence .nil pass0 h) (am_cons (em_ix (cm_em (em_var 13 (pv 13))) (em_callP (y := "") (p2 := ⟨0, 0, 0, 0⟩) 1 (fun t h => pe_call (ok__law_take T) (hr.mono (by decide)) rfl T.g__law_take T.F__law_take.kp T.b__law_take .nil pass0 (pa_cons (pv 1) h)) (am_cons em_int am_nil))) am_nil)) (am_cons em_bl am_nil))))) (ssm_one (sm_ret em_bl)) ssm_nil)))))))))))))))) (ssm_one (sm_ret em_bl))))) hu
end
def d__law_pot : He.DefD := ⟨("_law_pot", none), "_law_pot", "_law_pot", defArgs s__law_pot, defBody s__law_pot, defScope s__law_pot, [], []⟩
def d__law_take : He.DefD := ⟨("_law_take", none), "_law_take", "_law_take", defArgs s__law_take, defBody s__law_take, defScope s__law_take, [], []⟩
def d__law_integer : He.DefD := ⟨("_law_integer", none), "_law_integer", "_law_integer", defArgs s__law_integer, defBody s__law_integer, defScope s__law_integer, [], []⟩
def d__law_recurrence : He.DefD := ⟨("_law_recurrence", none), "_law_recurrence", "_law_recurrence", defArgs s__law_recurrence, defBody s__law_recurrence, defScope s__law_recurrence, [], []⟩
def d__law_terms : He.DefD := ⟨("_law_terms", none), "_law_terms", "_law_terms", defArgs s__law_terms, defBody s__law_terms, defScope s__law_terms, [], []⟩
def d_is_integer : He.DefD := ⟨("is_integer", none), "is_integer", "is_integer", defArgs s_is_integer, defBody s_is_integer, defScope s_is_integer, [], []⟩
def d_are_integers : He.DefD := ⟨("are_integers", none), "are_integers", "are_integers", defArgs s_are_integers, defBody s_are_integers, defScope s_are_integers, [], []⟩
def d_is_recurrence_of : He.DefD := ⟨("is_recurrence_of", none), "is_recurrence_of", "is_recurrence_of", defArgs s_is_recurrence_of, defBody s_is_recurrence_of, defScope s_is_recurrence_of, [], []⟩
def d_check_recurrence : He.DefD := ⟨("check_recurrence", none), "check_recurrence", "check_recurrence", defArgs s_check_recurrence, defBody s_check_recurrence, defScope s_check_recurrence, [], []⟩
def d_check_from : He.DefD := ⟨("check_from", none), "check_from", "check_from", defArgs s_check_from, defBody s_check_from, defScope s_check_from, [], []⟩
def d_terms_to : He.DefD := ⟨("terms_to", none), "terms_to", "terms_to", defArgs s_terms_to, defBody s_terms_to, defScope s_terms_to, [], []⟩
def d_term : He.DefD := ⟨("term", none), "term", "term", defArgs s_term, defBody s_term, defScope s_term, [], []⟩
def d_is_recurrence : He.DefD := ⟨("is_recurrence", none), "is_recurrence", "is_recurrence", defArgs s_is_recurrence, defBody s_is_recurrence, defScope s_is_recurrence, [], []⟩
def d__law_same : He.DefD := ⟨("_law_same", none), "_law_same", "_law_same", defArgs s__law_same, defBody s__law_same, defScope s__law_same, [], []⟩
def d__law_times : He.DefD := ⟨("_law_times", none), "_law_times", "_law_times", defArgs s__law_times, defBody s__law_times, defScope s__law_times, [], []⟩
def d__law_far : He.DefD := ⟨("_law_far", none), "_law_far", "_law_far", defArgs s__law_far, defBody s__law_far, defScope s__law_far, [], []⟩
def d_law : He.DefD := ⟨("law", none), "law", "law", defArgs s_law, defBody s_law, defScope s_law, [], []⟩
def fnT : List He.DefD := [d__law_pot, d__law_take, d__law_integer, d__law_recurrence, d__law_terms, d_is_integer, d_are_integers, d_is_recurrence_of, d_check_recurrence, d_check_from, d_terms_to, d_term, d_is_recurrence, d__law_same, d__law_times, d__law_far, d_law]
def faT : List He.Fa := [.glo "_law_pot", .glo "_law_take", .glo "_law_integer", .glo "_law_recurrence", .glo "_law_terms", .glo "is_integer", .glo "are_integers", .glo "is_recurrence_of", .glo "check_recurrence", .glo "check_from", .glo "terms_to", .glo "term", .glo "is_recurrence", .glo "_law_same", .glo "_law_times", .glo "_law_far", .glo "law", .free "len", .free "range", .free "list", .free "tuple", .free "sum", .free "all", .free "any", .free "zip", .free "enumerate", .free "sorted", .free "set", .free "int", .free "bool", .free "str", .free "isinstance", .free "max", .free "min", .free "abs"]
abbrev RR : PySem.W.OpenRow := PySem.W.OpenLaw.row PySem.Challenge.rw_wholedepths_k71_recurrences_and_their_te
abbrev hk : PySem.W.Hook := He.hookD 4 faT fnT
def ob (s : PySem.W.SharedT) : He.AlD := He.obsDG 4 faT fnT (HandSHeadRun.getT s)
theorem ob_eq (s : PySem.W.SharedT) : ob s = hk.obs s.abs := He.obsDG_eq (HandSHeadRun.getT_eq s)
def loo0 : List Str := ["__name__", "DepthsError", "InvalidInteger", "InvalidRecurrence", "is_integer", "are_integers", "check_from", "is_recurrence_of", "check_recurrence", "terms_to", "is_recurrence", "term", "_law_pot", "_law_take", "_law_same", "_law_integer", "_law_recurrence", "_law_terms", "_law_far", "_law_times"]
abbrev loosed : List Str := ["__name__", "DepthsError", "InvalidInteger", "InvalidRecurrence", "is_integer", "are_integers", "check_from", "is_recurrence_of", "check_recurrence", "terms_to", "is_recurrence", "term", "_law_pot", "_law_take", "_law_same", "_law_integer", "_law_recurrence", "_law_terms", "_law_far", "_law_times"]
theorem run (w : World) : HandSHeadRun.RunEq RR (PySem.W.view RR.prog [23]) hk ob 3000 loosed w := by
  intro os
  kernel_rfl
theorem facts {P : Program} {w : World} {K : PySem.W.Frag} {h : Heap} {mg : Str → Option Value} {f : Addr} (hu : ∀ ns : List Int, ns.length ≤ 63 → ∃ ρ', u_law (slots N_law [.rd (ns.map .int)]) = some (.ret (.bool true), ρ')) (X : K.In h) (G : h.Ns mainGlobals mg) (hfa : mg ("law" : Str) = some (.ref f)) (c : He.SaysD faT fnT K) :
    ∃ fd : FuncData, (∀ (s : Shared) (v : Value), BindsTo s fd ⟨[v], []⟩ [("script", v)]) ∧ ∀ base : Heap, K.In base → base.Ns mainGlobals mg → FnOk P w K mg base CX0 7 f fd ["script"] (spLaw K) := by
  obtain ⟨fd0, F0⟩ := c.def_ 0 (d := d__law_pot) rfl
  obtain ⟨fd1, F1⟩ := c.def_ 1 (d := d__law_take) rfl
  obtain ⟨fd2, F2⟩ := c.def_ 2 (d := d__law_integer) rfl
  obtain ⟨fd3, F3⟩ := c.def_ 3 (d := d__law_recurrence) rfl
  obtain ⟨fd4, F4⟩ := c.def_ 4 (d := d__law_terms) rfl
  obtain ⟨fd5, F5⟩ := c.def_ 5 (d := d_is_integer) rfl
  obtain ⟨fd6, F6⟩ := c.def_ 6 (d := d_are_integers) rfl
  obtain ⟨fd7, F7⟩ := c.def_ 7 (d := d_is_recurrence_of) rfl
  obtain ⟨fd8, F8⟩ := c.def_ 8 (d := d_check_recurrence) rfl
  obtain ⟨fd9, F9⟩ := c.def_ 9 (d := d_check_from) rfl
  obtain ⟨fd10, F10⟩ := c.def_ 10 (d := d_terms_to) rfl
  obtain ⟨fd11, F11⟩ := c.def_ 11 (d := d_term) rfl
  obtain ⟨fd12, F12⟩ := c.def_ 12 (d := d_is_recurrence) rfl
  obtain ⟨fd13, F13⟩ := c.def_ 13 (d := d__law_same) rfl
  obtain ⟨fd14, F14⟩ := c.def_ 14 (d := d__law_times) rfl
  obtain ⟨fd15, F15⟩ := c.def_ 15 (d := d__law_far) rfl
  obtain ⟨fd16, F16⟩ := c.def_ 16 (d := d_law) rfl
  have e := hfa.symm.trans (He.glo_ok X G (c.fact 16 (f := .glo "law") rfl))
  cases e
  have b := FunD.bindsA (ps := ["script"]) F16 fun _ _ _ _ _ _ us hl => match us, hl with | [_], _ => rfl
  have bl : Blt mg := ⟨He.free_ok X G (c.fact 17 (f := .free "len") rfl), He.free_ok X G (c.fact 18 (f := .free "range") rfl), He.free_ok X G (c.fact 19 (f := .free "list") rfl), He.free_ok X G (c.fact 20 (f := .free "tuple") rfl), He.free_ok X G (c.fact 21 (f := .free "sum") rfl), He.free_ok X G (c.fact 22 (f := .free "all") rfl), He.free_ok X G (c.fact 23 (f := .free "any") rfl), He.free_ok X G (c.fact 24 (f := .free "zip") rfl), He.free_ok X G (c.fact 25 (f := .free "enumerate") rfl), He.free_ok X G (c.fact 26 (f := .free "sorted") rfl), He.free_ok X G (c.fact 27 (f := .free "set") rfl), He.free_ok X G (c.fact 28 (f := .free "int") rfl), He.free_ok X G (c.fact 29 (f := .free "bool") rfl), He.free_ok X G (c.fact 30 (f := .free "str") rfl), He.free_ok X G (c.fact 31 (f := .free "isinstance") rfl), He.free_ok X G (c.fact 32 (f := .free "max") rfl), He.free_ok X G (c.fact 33 (f := .free "min") rfl), He.free_ok X G (c.fact 34 (f := .free "abs") rfl)⟩
  let T : Txt K mg := ⟨_, fd0, F0, He.glo_ok X G (c.fact 0 (f := .glo "_law_pot") rfl), _, fd1, F1, He.glo_ok X G (c.fact 1 (f := .glo "_law_take") rfl), _, fd2, F2, He.glo_ok X G (c.fact 2 (f := .glo "_law_integer") rfl), _, fd3, F3, He.glo_ok X G (c.fact 3 (f := .glo "_law_recurrence") rfl), _, fd4, F4, He.glo_ok X G (c.fact 4 (f := .glo "_law_terms") rfl), _, fd5, F5, He.glo_ok X G (c.fact 5 (f := .glo "is_integer") rfl), _, fd6, F6, He.glo_ok X G (c.fact 6 (f := .glo "are_integers") rfl), _, fd7, F7, He.glo_ok X G (c.fact 7 (f := .glo "is_recurrence_of") rfl), _, fd8, F8, He.glo_ok X G (c.fact 8 (f := .glo "check_recurrence") rfl), _, fd9, F9, He.glo_ok X G (c.fact 9 (f := .glo "check_from") rfl), _, fd10, F10, He.glo_ok X G (c.fact 10 (f := .glo "terms_to") rfl), _, fd11, F11, He.glo_ok X G (c.fact 11 (f := .glo "term") rfl), _, fd12, F12, He.glo_ok X G (c.fact 12 (f := .glo "is_recurrence") rfl), _, fd13, F13, He.glo_ok X G (c.fact 13 (f := .glo "_law_same") rfl), _, fd14, F14, He.glo_ok X G (c.fact 14 (f := .glo "_law_times") rfl), _, fd15, F15, He.glo_ok X G (c.fact 15 (f := .glo "_law_far") rfl), _, fd16, F16, He.glo_ok X G (c.fact 16 (f := .glo "law") rfl), bl⟩
  exact ⟨fd16, fun s v => b s [v] rfl, fun base _ _ => ok_law T hu⟩
theorem holds (hu : ∀ ns : List Int, ns.length ≤ 63 → ∃ ρ', u_law (slots N_law [.rd (ns.map .int)]) = some (.ret (.bool true), ρ')) : PySem.Challenge.rw_wholedepths_k71_recurrences_and_their_te.Holds := by
  open PySem PySem.W PySem.Calls PyProof.Rows in
  w_on; o_law
  refine HandSHeadRun.head_any (r := OpenLaw.row PySem.Challenge.rw_wholedepths_k71_recurrences_and_their_te) (q := view (OpenLaw.row PySem.Challenge.rw_wholedepths_k71_recurrences_and_their_te).prog [23]) (H := PDL.hk) (ob := PDL.ob) (M := 3000) (loose := loosed) (d := HandSHeadRun.topDef (OpenLaw.row PySem.Challenge.rw_wholedepths_k71_recurrences_and_their_te).prog 23) (kwd := []) PDL.ob_eq
    (by kernel_rfl) (fun s => by kernel_rfl) PDL.run (by kernel_rfl) (by kernel_rfl) (by kernel_rfl) (by rfl) (by first | assumption | decide +kernel) (by decide +kernel) ⟨rfl, rfl, rfl, rfl, rfl, by decide +kernel⟩ ?hw ?hc
  case hw => w_witness2
  case hc =>
    refine L2.walk_ofE (l := PySem.Challenge.rw_wholedepths_k71_recurrences_and_their_te) (n := 63) (k := 7) (x := "script") (CX := L2.CX0) rfl (by decide) (by kernel_rfl) ⟨rfl, by decide, by decide⟩ ?F (fun _ _ _ _ z => z)
    intro w mg fa h Y G hmg0
    obtain ⟨K, KX, c⟩ := Y
    have hmg : mg ("law" : PySem.Str) = some (.ref fa) := by
      have e : (HandSHeadRun.topDef (OpenLaw.row PySem.Challenge.rw_wholedepths_k71_recurrences_and_their_te).prog 23).name = ("law" : PySem.Str) := by kernel_rfl
      rw [← e]
      exact hmg0
    obtain ⟨fd, hb, hF⟩ := PDL.facts (P := (PySem.Challenge.rw_wholedepths_k71_recurrences_and_their_te).prog) (w := w) hu KX G hmg c
    exact ⟨K, fd, spLaw K, KX, hb, fun H a ns hl _ hS => ⟨a, ns, rfl, hS, hl, fun _ => rfl⟩, hF⟩
end PDL
theorem PySem.Challenge.cw_wholedepths_k71_recurrences_and_their_te_holds : PySem.Challenge.rw_wholedepths_k71_recurrences_and_their_te.Holds :=
  PDL.holds PDL.law_ok
