import PyProof.Rows.All
import HandS.ForMost
import HandS.IsInst
import HandS.Style
import HandS.TupAny
import HandS.TupLe
import HandS.TupMul
import HandS.Deep
import HandS.Wide
import HandS.Walk
import HandS.Rev
import HandS.AnyAll
import HandS.GenList
import HandS.EndOwn
import KE.GoesEnum
import KE.GoesZip
import HandS.Gcd
import HandS.SortInts
import HandS.SortRule
import KE.SortCalls
import KE.DataMinMax
import KE.KTupSum
import KE.SortKeyed
import HandS.WideBits
import HandS.Star
import KE.DataCmp
import KE.KStateDown
import PySem.Challenge.RW_coastlit_k61_whole_shifts_of_a_night
set_option Elab.async false
set_option linter.all false
set_option maxRecDepth 100000
set_option maxHeartbeats 4000000
/-! Cf, part A: programs as functions of data: slots, results, the relation to the heap. -/
namespace Cf
open PySem PySem.Spec PyProof.Rows L2

/-- the same, but the kernel does not look into it -/
noncomputable def hide {α : Type} (a : α) : α := Classical.choose (⟨a, rfl⟩ : ∃ b, b = a)
theorem hide_eq {α : Type} (a : α) : hide a = a := Classical.choose_spec (⟨a, rfl⟩ : ∃ b, b = a)
/-- what a slot holds: nothing known, a datum that stands still, a list of our own (lent: by its number) -/
inductive Sl where
  | un
  | sh (d : PyData)
  | own (t : Option Nat) (ds : List PyData)
abbrev Fv := List Sl
/-- what an expression hands on: a datum that stands still, a new list, the list of slot i -/
inductive Rv where
  | sh (d : PyData)
  | fr (ds : List PyData)
  | sl (i : Nat)
inductive Res (α : Type) where
  | ok (a : α) (e : Fv)
  | exc (c : Nat) (e : Fv)
  | stuck
def Mo (α : Type) : Type := Fv → Res α
def Mo.bind {α β : Type} (m : Mo α) (k : α → Mo β) : Mo β := fun e => match m e with
  | .ok a e' => k a e'
  | .exc c e' => .exc c e'
  | .stuck => .stuck
def Mo.pure {α : Type} (a : α) : Mo α := fun e => .ok a e
instance : Monad Mo where
  pure := Mo.pure
  bind := Mo.bind
def stuckM {α : Type} : Mo α := fun _ => .stuck
def liftO {α : Type} : Option α → Mo α
  | some a => pure a
  | none => stuckM
/-- the weakest condition -/
def wpM {α : Type} (m : Mo α) (e : Fv) (Q : α → Fv → Prop) (E : Nat → Fv → Prop) : Prop := match m e with
  | .ok a e' => Q a e'
  | .exc c e' => E c e'
  | .stuck => False
section
variable {α β : Type} {m : Mo α} {k : α → Mo β} {e : Fv} {E : Nat → Fv → Prop}
theorem bind_eq (m : Mo α) (k : α → Mo β) : (m >>= k) = Mo.bind m k := rfl
theorem pure_eq (a : α) : (pure a : Mo α) = Mo.pure a := rfl
theorem wpM_bind {Q : β → Fv → Prop} : wpM (m >>= k) e Q E ↔ wpM m e (fun a e' => wpM (k a) e' Q E) E := by
  show wpM (Mo.bind m k) e Q E ↔ _
  unfold wpM Mo.bind
  cases m e <;> exact Iff.rfl
theorem wpM_pure {a : α} {Q : α → Fv → Prop} : wpM (pure a) e Q E ↔ Q a e := Iff.rfl
theorem wpM_mono {Q Q' : α → Fv → Prop} {E' : Nat → Fv → Prop} (h : wpM m e Q E) (hQ : ∀ a e', Q a e' → Q' a e') (hE : ∀ c e', E c e' → E' c e') : wpM m e Q' E' := by
  unfold wpM at *
  cases q : m e with
  | ok a e' => rw [q] at h; exact hQ _ _ h
  | exc c e' => rw [q] at h; exact hE _ _ h
  | stuck => rw [q] at h; exact h
theorem wpM_lift {o : Option α} {Q : α → Fv → Prop} (h : wpM (liftO o) e Q E) : ∃ a, o = some a ∧ Q a e := by
  cases o with
  | none => exact h.elim
  | some a => exact ⟨a, rfl, h⟩
end

/-! ### the heap -/
/-- what stands still is part of the heap -/
def Sub (G H : Hp) : Prop := ∀ b o, G b = some o → H b = some o
theorem Sub.refl {G : Hp} : Sub G G := fun _ _ h => h
theorem Sub.trans {G H J : Hp} (a : Sub G H) (b : Sub H J) : Sub G J := fun c o h => b c o (a c o h)
theorem Sub.rd {G H : Hp} (s : Sub G H) {a : Addr} {o : HO} (h : Rd G a o) : Rd H a o := by
  rcases h with h | ⟨x, h⟩
  · exact .inl (s _ _ h)
  · exact .inr ⟨x, s _ _ h⟩
theorem Sub.sqL {K : PySem.W.Frag} {G H : Hp} (s : Sub G H) {a : Addr} {xs : List V} (h : SqL K G a xs) : SqL K H a xs := h.imp s.rd id
theorem Sub.sqT {K : PySem.W.Frag} {G H : Hp} (s : Sub G H) {a : Addr} {xs : List V} (h : SqT K G a xs) : SqT K H a xs := h.imp s.rd id

mutual
/-- the value v stands for the datum d while G stands; the law's own list has a mark of its own -/
inductive Dq (K : PySem.W.Frag) (G : Hp) : V → PyData → Prop
  | non : Dq K G .non .none
  | bl (b : Bool) : Dq K G (.bl b) (.bool b)
  | int (i : Int) : Dq K G (.int i) (.int i)
  | str (x : Str) : Dq K G (.str x) (.str x)
  | lst {a : Addr} {xs : List V} {ds : List PyData} : G a = some (.lst xs) → DqAll K G xs ds → Dq K G (.ref a) (.list ds)
  | tup {a : Addr} {xs : List V} {ds : List PyData} : SqT K G a xs → DqAll K G xs ds → Dq K G (.ref a) (.tuple ds)
  | scr {a : Addr} {xs : List V} {ds : List PyData} : SqL K G a xs → DqAll K G xs ds → Dq K G (.ref a) (.dict [(.none, .list ds)])
inductive DqAll (K : PySem.W.Frag) (G : Hp) : List V → List PyData → Prop
  | nil : DqAll K G [] []
  | cons {v : V} {vs : List V} {d : PyData} {ds : List PyData} : Dq K G v d → DqAll K G vs ds → DqAll K G (v :: vs) (d :: ds)
end
theorem DqAll.length {K : PySem.W.Frag} {H : Hp} : ∀ {vs : List V} {ds : List PyData}, DqAll K H vs ds → vs.length = ds.length
  | _, _, .nil => rfl
  | _, _, .cons _ t => by simp [DqAll.length t]
theorem DqAll.get {K : PySem.W.Frag} {H : Hp} : ∀ {vs : List V} {ds : List PyData} {i : Nat} {d : PyData}, DqAll K H vs ds → ds[i]? = some d → ∃ v, vs[i]? = some v ∧ Dq K H v d
  | _, _, _, _, .nil, e => by simp at e
  | _, _, 0, _, .cons r _, e => by simp at e; subst e; exact ⟨_, rfl, r⟩
  | _, _, i + 1, d, .cons _ t, e => by
    obtain ⟨v, h1, h2⟩ := DqAll.get (i := i) (d := d) t (by simpa using e)
    exact ⟨v, by simpa using h1, h2⟩
theorem DqAll.getV {K : PySem.W.Frag} {H : Hp} : ∀ {vs : List V} {ds : List PyData} {i : Nat} {v : V}, DqAll K H vs ds → vs[i]? = some v → ∃ d, ds[i]? = some d ∧ Dq K H v d
  | _, _, _, _, .nil, e => by simp at e
  | _, _, 0, _, .cons r _, e => by simp at e; subst e; exact ⟨_, rfl, r⟩
  | _, _, i + 1, d, .cons _ t, e => by
    obtain ⟨v, h1, h2⟩ := DqAll.getV (i := i) (v := d) t (by simpa using e)
    exact ⟨v, by simpa using h1, h2⟩
theorem DqAll.append {K : PySem.W.Frag} {H : Hp} : ∀ {vs ws : List V} {ds es : List PyData}, DqAll K H vs ds → DqAll K H ws es → DqAll K H (vs ++ ws) (ds ++ es)
  | _, _, _, _, .nil, s => s
  | _, _, _, _, .cons r t, s => .cons r (DqAll.append t s)
theorem DqAll.take {K : PySem.W.Frag} {H : Hp} : ∀ {vs : List V} {ds : List PyData} (n : Nat), DqAll K H vs ds → DqAll K H (vs.take n) (ds.take n)
  | _, _, 0, _ => .nil
  | _, _, _ + 1, .nil => .nil
  | _, _, n + 1, .cons r t => .cons r (DqAll.take n t)
theorem DqAll.drop {K : PySem.W.Frag} {H : Hp} : ∀ {vs : List V} {ds : List PyData} (n : Nat), DqAll K H vs ds → DqAll K H (vs.drop n) (ds.drop n)
  | _, _, 0, r => r
  | _, _, _ + 1, .nil => .nil
  | _, _, n + 1, .cons _ t => DqAll.drop n t
theorem DqAll.set {K : PySem.W.Frag} {H : Hp} {v : V} {d : PyData} (r : Dq K H v d) : ∀ {vs : List V} {ds : List PyData} (n : Nat), DqAll K H vs ds → DqAll K H (vs.set n v) (ds.set n d)
  | _, _, _, .nil => .nil
  | _, _, 0, .cons _ t => .cons r t
  | _, _, n + 1, .cons q t => .cons q (DqAll.set r n t)
theorem DqAll.reverse {K : PySem.W.Frag} {H : Hp} : ∀ {vs : List V} {ds : List PyData}, DqAll K H vs ds → DqAll K H vs.reverse ds.reverse
  | _, _, .nil => .nil
  | _, _, .cons r t => by
    rw [List.reverse_cons, List.reverse_cons]
    exact (DqAll.reverse t).append (.cons r .nil)
theorem DqAll.dropLast {K : PySem.W.Frag} {H : Hp} {vs : List V} {ds : List PyData} (h : DqAll K H vs ds) : DqAll K H vs.dropLast ds.dropLast := by
  rw [List.dropLast_eq_take, List.dropLast_eq_take, h.length]
  exact h.take _
theorem DqAll.rep {K : PySem.W.Frag} {H : Hp} {vs : List V} {ds : List PyData} (h : DqAll K H vs ds) : ∀ k : Nat, DqAll K H (List.replicate k vs).flatten (List.replicate k ds).flatten
  | 0 => .nil
  | k + 1 => by
    rw [List.replicate_succ, List.replicate_succ, List.flatten_cons, List.flatten_cons]
    exact h.append (h.rep k)

mutual
theorem Sub.dq {K : PySem.W.Frag} {G H : Hp} (s : Sub G H) : ∀ (d : PyData) (v : V), Dq K G v d → Dq K H v d
  | .none, _, h => by cases h; exact .non
  | .bool b, _, h => by cases h; exact .bl b
  | .int i, _, h => by cases h; exact .int i
  | .str x, _, h => by cases h; exact .str x
  | .list ds, _, h => by
    cases h with
    | lst h1 h2 => exact .lst (s _ _ h1) (Sub.dqAll s ds _ h2)
  | .tuple ds, _, h => by
    cases h with
    | tup h1 h2 => exact .tup (s.sqT h1) (Sub.dqAll s ds _ h2)
  | .dict kvs, _, h => by
    cases h with
    | scr h1 h2 => exact .scr (s.sqL h1) (Sub.dqAll s _ _ h2)
theorem Sub.dqAll {K : PySem.W.Frag} {G H : Hp} (s : Sub G H) : ∀ (ds : List PyData) (vs : List V), DqAll K G vs ds → DqAll K H vs ds
  | [], _, h => by cases h; exact .nil
  | d :: ds, _, h => by
    cases h with
    | cons h1 h2 => exact .cons (Sub.dq s d _ h1) (Sub.dqAll s ds _ h2)
end
/-- a value to be read now: a list may be our own -/
def Pk (K : PySem.W.Frag) (H G : Hp) (v : V) : PyData → Prop
  | .list ds => ∃ a xs, v = .ref a ∧ H a = some (.lst xs) ∧ DqAll K G xs ds
  | d => Dq K G v d
theorem Pk.of {K : PySem.W.Frag} {H G : Hp} (s : Sub G H) {v : V} {d : PyData} (h : Dq K G v d) : Pk K H G v d := by
  cases d with
  | list ds =>
    cases h with
    | lst h1 h2 => exact ⟨_, _, rfl, s _ _ h1, h2⟩
  | _ => exact h
theorem Pk.dq {K : PySem.W.Frag} {H G : Hp} (s : Sub G H) {v : V} {d : PyData} (h : Pk K H G v d) : Dq K H v d := by
  cases d with
  | list ds =>
    obtain ⟨a, xs, rfl, h1, h2⟩ := h
    exact .lst h1 (Sub.dqAll s _ _ h2)
  | _ => exact Sub.dq s _ _ h

/-- a def's table of code objects -/
def TabOk (H : Hp) (P : Addr) : Prop := ∃ ps : Array Value, H P = some (.tbl ps) ∧ TriplesOk ps.toList

/-- a run's frame: what must stay, the lists lent, the tables, what is wanted where class c is raised -/
structure Fr where
  prot : Hp
  muts : List Addr
  tabs : List Addr
  W : Nat → Hp → Prop

def TagOk (l : List Addr) (a : Addr) : Option Nat → Prop
  | none => a ∉ l
  | some k => l[k]? = some a
def SlOk (K : PySem.W.Frag) (fr : Fr) (H G : Hp) (v : Option V) : Sl → Prop
  | .un => True
  | .sh d => ∃ x, v = some x ∧ Dq K G x d
  | .own t ds => ∃ a xs, v = some (.ref a) ∧ H a = some (.lst xs) ∧ DqAll K G xs ds ∧ G a = none ∧ fr.prot a = none ∧ TagOk fr.muts a t

structure SR (K : PySem.W.Frag) (fr : Fr) (env : Fv) (σ : L2.St) (H G : Hp) : Prop where
  sub : Sub G H
  prot : ∀ b o, fr.prot b = some o → H b = some o
  dj : ∀ b, fr.prot b ≠ none → G b = none
  tab : ∀ P ∈ fr.tabs, TabOk H P ∧ G P = none
  pt : ∀ P ∈ fr.tabs, fr.prot P = none
  lent : ∀ a ∈ fr.muts, H a ≠ none
  len : env.length = σ.length
  slots : ∀ (i : Nat) (sl : Sl), env[i]? = some sl → SlOk K fr H G (σ[i]?).join sl
  dist : ∀ (i j : Nat) (t t' : Option Nat) (ds ds' : List PyData) (a : Addr), i ≠ j → env[i]? = some (.own t ds) → env[j]? = some (.own t' ds') → σ[i]? = some (some (.ref a)) → σ[j]? ≠ some (some (.ref a))

/-- a step of the run that only makes new things -/
structure Stp (H G H' G' : Hp) : Prop where
  ext : Sub H H'
  mono : Sub G G'
  sub : Sub G' H'
  new : ∀ b, G' b ≠ none → G b ≠ none ∨ H b = none

/-- no list is a table -/
theorem tab_upd {T : List Addr} {H G : Hp} {a : Addr} {xs : List V} {o : HO} (h : ∀ P ∈ T, TabOk H P ∧ G P = none) (ha : H a = some (.lst xs)) : ∀ P ∈ T, TabOk H P ∧ upd G a o P = none := fun P hP => by
  obtain ⟨⟨ps, e, t⟩, g⟩ := h P hP
  refine ⟨⟨ps, e, t⟩, ?_⟩
  rw [upd_ne (fun z => by rw [z, ha] at e; cases e)]
  exact g
theorem ne_none_of {α : Type} {o : Option α} {a : α} (h : o = some a) : o ≠ none := by rw [h]; simp
theorem sub_none {G H : Hp} (s : Sub G H) {b : Addr} (h : H b = none) : G b = none := by
  cases q : G b with
  | none => rfl
  | some o => rw [s _ _ q] at h; cases h

section
variable {K : PySem.W.Frag} {fr : Fr} {env : Fv} {σ : L2.St} {H G H' G' : Hp}
theorem Stp.refl (s : Sub G H) : Stp H G H G := ⟨.refl, .refl, s, fun _ h => .inl h⟩
/-- a new thing that is not to stand still -/
theorem Stp.lay (s : Sub G H) {p : Addr} {o : HO} (hp : H p = none) : Stp H G (upd H p o) G :=
  ⟨fun b x h => by rw [upd_ne (ne_of_none h hp)]; exact h, .refl, fun b x h => by rw [upd_ne (ne_of_none (s _ _ h) hp)]; exact s _ _ h, fun _ h => .inl h⟩
/-- a new thing that stands still -/
theorem Stp.fix (s : Sub G H) {p : Addr} {o : HO} (hp : H p = none) : Stp H G (upd H p o) (upd G p o) where
  ext := fun b x h => by rw [upd_ne (ne_of_none h hp)]; exact h
  mono := fun b x h => by rw [upd_ne (ne_of_none (s _ _ h) hp)]; exact h
  sub := fun b x h => by
    by_cases hb : b = p
    · subst hb; rw [upd_same] at h ⊢; exact h
    · rw [upd_ne hb] at h ⊢; exact s _ _ h
  new := fun b h => by
    by_cases hb : b = p
    · subst hb; exact .inr hp
    · rw [upd_ne hb] at h; exact .inl h
theorem Stp.trans {H1 G1 : Hp} (a : Stp H G H1 G1) (b : Stp H1 G1 H' G') : Stp H G H' G' where
  ext := a.ext.trans b.ext
  mono := a.mono.trans b.mono
  sub := b.sub
  new := fun c h => by
    rcases b.new c h with h | h
    · exact a.new c h
    · exact .inr (sub_none a.ext h)
theorem SlOk.stp {v : Option V} {sl : Sl} (s : Stp H G H' G') (h : SlOk K fr H G v sl) : SlOk K fr H' G' v sl := by
  cases sl with
  | un => trivial
  | sh d =>
    obtain ⟨x, e, h⟩ := h
    exact ⟨x, e, Sub.dq s.mono _ _ h⟩
  | own t ds =>
    obtain ⟨a, xs, e, h1, h2, h3, h4, h5⟩ := h
    refine ⟨a, xs, e, s.ext _ _ h1, Sub.dqAll s.mono _ _ h2, ?_, h4, h5⟩
    cases q : G' a with
    | none => rfl
    | some o =>
      rcases s.new a (ne_none_of q) with z | z
      · exact absurd h3 z
      · rw [h1] at z; cases z
theorem SR.stp (h : SR K fr env σ H G) (s : Stp H G H' G') : SR K fr env σ H' G' where
  sub := s.sub
  prot := fun b o e => s.ext _ _ (h.prot b o e)
  dj := fun b e => by
    cases q : G' b with
    | none => rfl
    | some o =>
      rcases s.new b (ne_none_of q) with z | z
      · exact absurd (h.dj b e) z
      · cases q2 : fr.prot b with
        | none => exact absurd q2 e
        | some o2 => rw [h.prot b o2 q2] at z; cases z
  tab := fun P hP => by
    obtain ⟨⟨ps, e, t⟩, g⟩ := h.tab P hP
    refine ⟨⟨ps, s.ext _ _ e, t⟩, ?_⟩
    cases q : G' P with
    | none => rfl
    | some o =>
      rcases s.new P (ne_none_of q) with z | z
      · exact absurd g z
      · rw [e] at z; cases z
  pt := h.pt
  lent := fun a ha => by
    cases q : H a with
    | none => exact absurd q (h.lent a ha)
    | some o => exact ne_none_of (s.ext _ _ q)
  len := h.len
  slots := fun i sl e => (h.slots i sl e).stp s
  dist := h.dist
end

/-- what an expression's value is -/
def RvOk (K : PySem.W.Frag) (fr : Fr) (env : Fv) (σ : L2.St) (H G : Hp) (v : V) : Rv → Prop
  | .sh d => Dq K G v d
  | .fr ds => ∃ a xs, v = .ref a ∧ H a = some (.lst xs) ∧ DqAll K G xs ds ∧ G a = none ∧ fr.prot a = none ∧ a ∉ fr.muts ∧ ∀ (i : Nat) (t : Option Nat) (es : List PyData), env[i]? = some (.own t es) → σ[i]? ≠ some (some (.ref a))
  | .sl i => σ[i]? = some (some v)
/-- a new value of a step -/
def RvNew (K : PySem.W.Frag) (H H' G' : Hp) (v : V) : Rv → Prop
  | .sh d => Dq K G' v d
  | .fr ds => ∃ a xs, v = .ref a ∧ H' a = some (.lst xs) ∧ DqAll K G' xs ds ∧ G' a = none ∧ H a = none
  | .sl _ => False
section
variable {K : PySem.W.Frag} {fr : Fr} {env : Fv} {σ : L2.St} {H G H' G' : Hp} {v : V} {r : Rv}
theorem SR.ownAt (h : SR K fr env σ H G) {i : Nat} {t : Option Nat} {ds : List PyData} (e : env[i]? = some (.own t ds)) :
    ∃ a xs, σ[i]? = some (some (.ref a)) ∧ H a = some (.lst xs) ∧ DqAll K G xs ds ∧ G a = none ∧ fr.prot a = none ∧ TagOk fr.muts a t := by
  obtain ⟨a, xs, q, r⟩ := h.slots i _ e
  refine ⟨a, xs, ?_, r⟩
  cases z : σ[i]? with
  | none => rw [z] at q; cases q
  | some o => rw [z] at q; cases q; rfl
theorem SR.shAt (h : SR K fr env σ H G) {i : Nat} {d : PyData} (e : env[i]? = some (.sh d)) : ∃ x, σ[i]? = some (some x) ∧ Dq K G x d := by
  obtain ⟨x, q, r⟩ := h.slots i _ e
  refine ⟨x, ?_, r⟩
  cases z : σ[i]? with
  | none => rw [z] at q; cases q
  | some o => rw [z] at q; cases q; rfl
/-- a thing of the heap that was not there is none of ours -/
theorem SR.notOwn (h : SR K fr env σ H G) {a : Addr} (ha : H a = none) : ∀ (i : Nat) (t : Option Nat) (es : List PyData), env[i]? = some (.own t es) → σ[i]? ≠ some (some (.ref a)) := fun i t es e z => by
  obtain ⟨b, xs, q, r, _⟩ := h.ownAt e
  rw [q] at z
  cases z
  rw [ha] at r
  cases r
theorem RvNew.ok (h : SR K fr env σ H G) (q : RvNew K H H' G' v r) : RvOk K fr env σ H' G' v r := by
  cases r with
  | sh d => exact q
  | sl _ => exact q.elim
  | fr ds =>
    obtain ⟨a, xs, e, h1, h2, h3, h4⟩ := q
    refine ⟨a, xs, e, h1, h2, h3, ?_, fun z => h.lent a z h4, h.notOwn h4⟩
    cases z : fr.prot a with
    | none => rfl
    | some o => rw [h.prot a o z] at h4; cases h4
end
end Cf
/-! Cf, part B: expressions. -/
namespace Cf
open PySem PySem.Spec PyProof.Rows L2

/-! ### the judgements -/
def tE (K : PySem.W.Frag) (fr : Fr) (F : Mo Rv) : TE := fun σ H Q => ∃ env G, SR K fr env σ H G ∧
  wpM F env (fun r env' => ∀ H' G' v, SR K fr env' σ H' G' → Sub G G' → RvOk K fr env' σ H' G' v r → Q v H') (fun c env' => ∀ H' G', SR K fr env' σ H' G' → Sub G G' → fr.W c H')
def tT (K : PySem.W.Frag) (fr : Fr) (F : Mo Bool) : TT := fun σ H Q => ∃ env G, SR K fr env σ H G ∧
  wpM F env (fun b env' => ∀ H' G', SR K fr env' σ H' G' → Sub G G' → Q b H') (fun c env' => ∀ H' G', SR K fr env' σ H' G' → Sub G G' → fr.W c H')
def HeldOk (K : PySem.W.Frag) (σ : L2.St) (G : Hp) (v : V) : Rv → Prop
  | .sh d => Dq K G v d
  | .sl i => σ[i]? = some (some v)
  | .fr _ => False
def RvsOk (K : PySem.W.Frag) (σ : L2.St) (G : Hp) : List V → List Rv → Prop
  | [], [] => True
  | v :: vs, r :: rs => HeldOk K σ G v r ∧ RvsOk K σ G vs rs
  | _, _ => False
def tA (K : PySem.W.Frag) (fr : Fr) (F : Mo (List Rv)) : TA := fun σ H Q => ∃ env G, SR K fr env σ H G ∧
  wpM F env (fun rs env' => ∀ H' G' vs, SR K fr env' σ H' G' → Sub G G' → RvsOk K σ G' vs rs → Q vs H') (fun c env' => ∀ H' G', SR K fr env' σ H' G' → Sub G G' → fr.W c H')
/-- e runs as F says -/
def PEv (X : Cx) (fr : Fr) (e : Expr) (F : Mo Rv) : Prop := PE X e (tE X.K fr F)
def PTv (X : Cx) (fr : Fr) (e : Expr) (F : Mo Bool) : Prop := PT X e (tT X.K fr F)
def PWv (X : Cx) (fr : Fr) (e : Expr) (F : Mo Bool) : Prop := PW X e (tT X.K fr F)
def PAv (X : Cx) (fr : Fr) (es : List Expr) (F : Mo (List Rv)) : Prop := PA X es (tA X.K fr F)
theorem weakE {X : Cx} {e : Expr} {t t' : TE} (h : PE X e t) (w : ∀ σ H Q, t' σ H Q → t σ H Q) : PE X e t' := ⟨fun pins s σ H Q I q => h.run pins s σ H Q I (w σ H Q q)⟩
theorem weakT {X : Cx} {e : Expr} {t t' : TT} (h : PT X e t) (w : ∀ σ H Q, t' σ H Q → t σ H Q) : PT X e t' := ⟨fun pins s σ H Q I q => h.run pins s σ H Q I (w σ H Q q)⟩
theorem weakW {X : Cx} {e : Expr} {t t' : TT} (h : PW X e t) (w : ∀ σ H Q, t' σ H Q → t σ H Q) : PW X e t' := ⟨fun wh pins s σ H Q I q => h.run wh pins s σ H Q I (w σ H Q q)⟩
theorem weakA {X : Cx} {es : List Expr} {t t' : TA} (h : PA X es t) (w : ∀ σ H Q, t' σ H Q → t σ H Q) : PA X es t' := ⟨fun pos pins s σ H Q I q => h.run pos pins s σ H Q I (w σ H Q q)⟩

/-! ### small functions -/
/-- a new list that waits stands still meanwhile -/
@[simp] def hold : Rv → Rv
  | .fr ds => .sh (.list ds)
  | r => r
/-- read now -/
def peek (r : Rv) : Mo PyData := fun e => match r with
  | .sh d => .ok d e
  | .fr ds => .ok (.list ds) e
  | .sl i => match e[i]? with
    | some (.sh d) => .ok d e
    | some (.own _ ds) => .ok (.list ds) e
    | _ => .stuck
/-- handed on for good: it stands still from now on -/
def force (r : Rv) : Mo PyData := fun e => match r with
  | .sh d => .ok d e
  | .fr ds => .ok (.list ds) e
  | .sl i => match e[i]? with
    | some (.sh d) => .ok d e
    | some (.own none ds) => .ok (.list ds) (e.set i (.sh (.list ds)))
    | _ => .stuck
@[simp] def peeks : List Rv → Mo (List PyData)
  | [] => pure []
  | r :: rs => do
    let d ← peek r
    let ds ← peeks rs
    pure (d :: ds)
@[simp] def forces : List Rv → Mo (List PyData)
  | [] => pure []
  | r :: rs => do
    let d ← force r
    let ds ← forces rs
    pure (d :: ds)

section
variable {K : PySem.W.Frag} {fr : Fr} {env : Fv} {σ : L2.St} {H G H' G' : Hp} {v : V} {r : Rv}
theorem hold_ok (h : SR K fr env σ H G) (q : RvOk K fr env σ H G v r) : ∃ G', SR K fr env σ H G' ∧ Sub G G' ∧ (match hold r with
    | .sh d => Dq K G' v d
    | .sl i => σ[i]? = some (some v)
    | .fr _ => False) := by
  cases r with
  | sh d => exact ⟨G, h, .refl, q⟩
  | sl i => exact ⟨G, h, .refl, q⟩
  | fr ds =>
    obtain ⟨a, xs, rfl, h1, h2, h3, h4, h5, h6⟩ := q
    have sG : Sub G (upd G a (.lst xs)) := fun b o e => by rw [upd_ne (ne_of_none e h3)]; exact e
    refine ⟨upd G a (.lst xs), ⟨fun b o e => ?_, h.prot, fun b e => ?_, tab_upd h.tab h1, h.pt, h.lent, h.len, fun i sl e => ?_, h.dist⟩, sG, ?_⟩
    · by_cases hb : b = a
      · subst hb; rw [upd_same] at e; cases e; exact h1
      · rw [upd_ne hb] at e; exact h.sub b o e
    · by_cases hb : b = a
      · subst hb; exact absurd h4 e
      · rw [upd_ne hb]; exact h.dj b e
    · have q := h.slots i sl e
      cases sl with
      | un => trivial
      | sh d => obtain ⟨x, e1, e2⟩ := q; exact ⟨x, e1, Sub.dq sG _ _ e2⟩
      | own t es =>
        obtain ⟨b, ys, e1, e2, e3, e4, e5, e6⟩ := h.ownAt e
        have hb : b ≠ a := fun z => h6 i t es e (by rw [← z]; exact e1)
        exact ⟨b, ys, by rw [e1]; rfl, e2, Sub.dqAll sG _ _ e3, by rw [upd_ne hb]; exact e4, e5, e6⟩
    · exact .lst upd_same (Sub.dqAll sG _ _ h2)
theorem peek_ok (h : SR K fr env σ H G) (q : RvOk K fr env σ H G v r) {Q : PyData → Fv → Prop} {E : Nat → Fv → Prop} (w : wpM (peek r) env Q E) : ∃ d, Pk K H G v d ∧ Q d env := by
  cases r with
  | sh d => exact ⟨d, .of h.sub q, w⟩
  | fr ds =>
    obtain ⟨a, xs, e, h1, h2, _⟩ := q
    exact ⟨.list ds, ⟨a, xs, e, h1, h2⟩, w⟩
  | sl i =>
    have q' : σ[i]? = some (some v) := q
    unfold wpM peek at w
    cases e : env[i]? with
    | none => simp [e] at w
    | some sl =>
      cases sl with
      | un => simp [e] at w
      | sh d =>
        simp only [e] at w
        obtain ⟨x, e1, e2⟩ := h.shAt e
        rw [q'] at e1; cases e1
        exact ⟨d, .of h.sub e2, w⟩
      | own t ds =>
        simp only [e] at w
        obtain ⟨a, xs, e1, e2, e3, _⟩ := h.ownAt e
        rw [q'] at e1; cases e1
        exact ⟨.list ds, ⟨a, xs, rfl, e2, e3⟩, w⟩
/-- a slot's own list stands still from now on -/
theorem freeze (h : SR K fr env σ H G) {i : Nat} {ds : List PyData} (e : env[i]? = some (.own none ds)) : ∃ G', SR K fr (env.set i (.sh (.list ds))) σ H G' ∧ Sub G G' ∧ ∀ v, σ[i]? = some (some v) → Dq K G' v (.list ds) := by
  obtain ⟨a, xs, e1, h1, h2, h3, h4, h5⟩ := h.ownAt e
  have sG : Sub G (upd G a (.lst xs)) := fun b o e => by rw [upd_ne (ne_of_none e h3)]; exact e
  have hd : Dq K (upd G a (.lst xs)) (.ref a) (.list ds) := .lst upd_same (Sub.dqAll sG _ _ h2)
  have hi : i < env.length := (List.getElem?_eq_some_iff.mp e).1
  refine ⟨upd G a (.lst xs), ⟨fun b o e => ?_, h.prot, fun b e => ?_, tab_upd h.tab h1, h.pt, h.lent, by simpa using h.len, fun j sl ej => ?_, fun j k t t' es es' b hjk ej ek => ?_⟩, sG, fun v q => ?_⟩
  · by_cases hb : b = a
    · subst hb; rw [upd_same] at e; cases e; exact h1
    · rw [upd_ne hb] at e; exact h.sub b o e
  · by_cases hb : b = a
    · subst hb; exact absurd h4 e
    · rw [upd_ne hb]; exact h.dj b e
  · by_cases hj : j = i
    · subst hj
      rw [List.getElem?_set_self hi] at ej
      cases ej
      exact ⟨.ref a, by rw [e1]; rfl, hd⟩
    · rw [List.getElem?_set_ne (Ne.symm hj)] at ej
      have q := h.slots j sl ej
      cases sl with
      | un => trivial
      | sh d => obtain ⟨x, e1, e2⟩ := q; exact ⟨x, e1, Sub.dq sG _ _ e2⟩
      | own t es =>
        obtain ⟨b, ys, e1', e2, e3, e4, e5, e6⟩ := h.ownAt ej
        have hb : b ≠ a := fun z => h.dist i j none t ds es a (Ne.symm hj) e ej e1 (by rw [← z]; exact e1')
        exact ⟨b, ys, by rw [e1']; rfl, e2, Sub.dqAll sG _ _ e3, by rw [upd_ne hb]; exact e4, e5, e6⟩
  · have nj : j ≠ i := fun z => by subst z; rw [List.getElem?_set_self hi] at ej; cases ej
    have nk : k ≠ i := fun z => by subst z; rw [List.getElem?_set_self hi] at ek; cases ek
    rw [List.getElem?_set_ne (Ne.symm nj)] at ej
    rw [List.getElem?_set_ne (Ne.symm nk)] at ek
    exact h.dist j k t t' es es' b hjk ej ek
  · rw [e1] at q; cases q; exact hd
theorem force_ok (h : SR K fr env σ H G) (q : RvOk K fr env σ H G v r) {Q : PyData → Fv → Prop} {E : Nat → Fv → Prop} (w : wpM (force r) env Q E) :
    ∃ d env' G', SR K fr env' σ H G' ∧ Sub G G' ∧ Dq K G' v d ∧ Q d env' := by
  cases r with
  | sh d => exact ⟨d, env, G, h, .refl, q, w⟩
  | fr ds =>
    obtain ⟨G', h1, h2, h3⟩ := hold_ok h q
    exact ⟨_, env, G', h1, h2, h3, w⟩
  | sl i =>
    have q' : σ[i]? = some (some v) := q
    unfold wpM force at w
    cases e : env[i]? with
    | none => simp [e] at w
    | some sl =>
      cases sl with
      | un => simp [e] at w
      | sh d =>
        simp only [e] at w
        obtain ⟨x, e1, e2⟩ := h.shAt e
        rw [q'] at e1; cases e1
        exact ⟨d, env, G, h, .refl, e2, w⟩
      | own t ds =>
        cases t with
        | some k => simp [e] at w
        | none =>
          simp only [e] at w
          obtain ⟨G', h1, h2, h3⟩ := freeze h e
          exact ⟨_, _, G', h1, h2, h3 v q', w⟩
theorem HeldOk.ok (q : HeldOk K σ G v r) : RvOk K fr env σ H G v r := by
  cases r with
  | sh d => exact q
  | fr _ => exact q.elim
  | sl i => exact q
theorem HeldOk.mono (q : HeldOk K σ G v r) (s : Sub G G') : HeldOk K σ G' v r := by
  cases r with
  | sh d => exact Sub.dq s _ _ q
  | fr _ => exact q.elim
  | sl i => exact q
theorem hold_ok' (h : SR K fr env σ H G) (q : RvOk K fr env σ H G v r) : ∃ G', SR K fr env σ H G' ∧ Sub G G' ∧ HeldOk K σ G' v (hold r) := by
  obtain ⟨G', h1, h2, h3⟩ := hold_ok h q
  refine ⟨G', h1, h2, ?_⟩
  cases e : hold r <;> rw [e] at h3 <;> exact h3
theorem rvsOk_cons {vs : List V} {rs : List Rv} : RvsOk K σ G (v :: vs) (r :: rs) ↔ HeldOk K σ G v r ∧ RvsOk K σ G vs rs := by
  exact Iff.rfl
theorem RvsOk.mono (s : Sub G G') : ∀ {vs : List V} {rs : List Rv}, RvsOk K σ G vs rs → RvsOk K σ G' vs rs
  | [], [], _ => trivial
  | _ :: _, _ :: _, h => rvsOk_cons.mpr ⟨(rvsOk_cons.mp h).1.mono s, RvsOk.mono s (rvsOk_cons.mp h).2⟩
  | [], _ :: _, h => h.elim
  | _ :: _, [], h => h.elim
theorem RvsOk.length : ∀ {vs : List V} {rs : List Rv}, RvsOk K σ G vs rs → vs.length = rs.length
  | [], [], _ => rfl
  | _ :: _, _ :: _, h => by simp [RvsOk.length (rvsOk_cons.mp h).2]
  | [], _ :: _, h => h.elim
  | _ :: _, [], h => h.elim
def Pks (K : PySem.W.Frag) (H G : Hp) : List V → List PyData → Prop
  | [], [] => True
  | v :: vs, d :: ds => Pk K H G v d ∧ Pks K H G vs ds
  | _, _ => False
theorem peeks_ok (h : SR K fr env σ H G) : ∀ {vs : List V} {rs : List Rv}, RvsOk K σ G vs rs → ∀ {Q : List PyData → Fv → Prop} {E : Nat → Fv → Prop}, wpM (peeks rs) env Q E → ∃ ds, Pks K H G vs ds ∧ Q ds env
  | [], [], _, _, _, w => ⟨[], trivial, w⟩
  | [], _ :: _, h, _, _, _ => h.elim
  | _ :: _, [], h, _, _, _ => h.elim
  | v :: vs, r :: rs, q, Q, E, w => by
    obtain ⟨q1, q2⟩ := rvsOk_cons.mp q
    unfold peeks at w
    obtain ⟨d, h1, w1⟩ := peek_ok h (HeldOk.ok q1) (wpM_bind.mp w)
    obtain ⟨ds, h2, w2⟩ := peeks_ok h q2 (wpM_bind.mp w1)
    exact ⟨d :: ds, ⟨h1, h2⟩, w2⟩
theorem forces_ok : ∀ {vs : List V} {rs : List Rv} {env : Fv} {G : Hp} (h : SR K fr env σ H G), RvsOk K σ G vs rs → ∀ {Q : List PyData → Fv → Prop} {E : Nat → Fv → Prop}, wpM (forces rs) env Q E →
    ∃ ds env' G', SR K fr env' σ H G' ∧ Sub G G' ∧ DqAll K G' vs ds ∧ Q ds env'
  | [], [], env, G, h, _, _, _, w => ⟨[], env, G, h, .refl, .nil, w⟩
  | [], _ :: _, _, _, _, h, _, _, _ => h.elim
  | _ :: _, [], _, _, _, h, _, _, _ => h.elim
  | v :: vs, r :: rs, env, G, h, q, Q, E, w => by
    obtain ⟨q1, q2⟩ := rvsOk_cons.mp q
    unfold forces at w
    obtain ⟨d, e1, G1, h1, s1, d1, w1⟩ := force_ok h (HeldOk.ok q1) (wpM_bind.mp w)
    obtain ⟨ds, e2, G2, h2, s2, d2, w2⟩ := forces_ok h1 (q2.mono s1) (wpM_bind.mp w1)
    exact ⟨d :: ds, e2, G2, h2, s1.trans s2, .cons (Sub.dq s2 _ _ d1) d2, w2⟩
end

/-! ### composing -/
section
variable {K : PySem.W.Frag} {fr : Fr} {env : Fv} {σ : L2.St} {H G : Hp}
/-- run a part, then go on; its value waits -/
theorem tE_then {α : Type} {F : Mo Rv} {k : Rv → Mo α} {Q : VK} {Qe : α → Fv → Prop} {Ee : Nat → Fv → Prop} (h : SR K fr env σ H G) (w : wpM (F >>= k) env Qe Ee)
    (hk : ∀ r env1 H1 G1 v, SR K fr env1 σ H1 G1 → Sub G G1 → RvOk K fr env1 σ H1 G1 v r → wpM (k r) env1 Qe Ee → Q v H1)
    (he : ∀ c env1, Ee c env1 → ∀ H1 G1, SR K fr env1 σ H1 G1 → Sub G G1 → fr.W c H1) : tE K fr F σ H Q :=
  ⟨env, G, h, wpM_mono (wpM_bind.mp w) (fun r env1 w1 H1 G1 v h1 s1 q => hk r env1 H1 G1 v h1 s1 q w1) fun c env1 w1 H1 G1 h1 s1 => he c env1 w1 H1 G1 h1 s1⟩
theorem tT_then {α : Type} {F : Mo Bool} {k : Bool → Mo α} {Q : Bool → Hp → Prop} {Qe : α → Fv → Prop} {Ee : Nat → Fv → Prop} (h : SR K fr env σ H G) (w : wpM (F >>= k) env Qe Ee)
    (hk : ∀ r env1 H1 G1, SR K fr env1 σ H1 G1 → Sub G G1 → wpM (k r) env1 Qe Ee → Q r H1)
    (he : ∀ c env1, Ee c env1 → ∀ H1 G1, SR K fr env1 σ H1 G1 → Sub G G1 → fr.W c H1) : tT K fr F σ H Q :=
  ⟨env, G, h, wpM_mono (wpM_bind.mp w) (fun r env1 w1 H1 G1 h1 s1 => hk r env1 H1 G1 h1 s1 w1) fun c env1 w1 H1 G1 h1 s1 => he c env1 w1 H1 G1 h1 s1⟩
theorem tA_then {α : Type} {F : Mo (List Rv)} {k : List Rv → Mo α} {Q : List V → Hp → Prop} {Qe : α → Fv → Prop} {Ee : Nat → Fv → Prop} (h : SR K fr env σ H G) (w : wpM (F >>= k) env Qe Ee)
    (hk : ∀ rs env1 H1 G1 vs, SR K fr env1 σ H1 G1 → Sub G G1 → RvsOk K σ G1 vs rs → wpM (k rs) env1 Qe Ee → Q vs H1)
    (he : ∀ c env1, Ee c env1 → ∀ H1 G1, SR K fr env1 σ H1 G1 → Sub G G1 → fr.W c H1) : tA K fr F σ H Q :=
  ⟨env, G, h, wpM_mono (wpM_bind.mp w) (fun rs env1 w1 H1 G1 vs h1 s1 q => hk rs env1 H1 G1 vs h1 s1 q w1) fun c env1 w1 H1 G1 h1 s1 => he c env1 w1 H1 G1 h1 s1⟩
end

/-! ### names, constants -/
def readF (i : Nat) : Mo Rv := fun e => match e[i]? with
  | some (.sh d) => .ok (.sh d) e
  | some (.own _ _) => .ok (.sl i) e
  | _ => .stuck
def constF (d : PyData) : Mo Rv := pure (.sh d)
section
variable {X : Cx} {fr : Fr}
theorem tE_const {d : PyData} {v : V} (hd : Dq X.K (fun _ => none) v d) : ∀ σ H Q, tE X.K fr (constF d) σ H Q → tC v σ H Q := fun σ H Q ⟨env, G, h, w⟩ =>
  w H G v h .refl (Sub.dq (fun _ _ z => by cases z) _ _ hd)
theorem ev_int {i j pos} : PEv X fr (.Constant (.int i) j pos) (constF (.int i)) := weakE pe_int (tE_const (.int i))
theorem ev_bl {b j pos} : PEv X fr (.Constant (.bool b) j pos) (constF (.bool b)) := weakE pe_bl (tE_const (.bl b))
theorem ev_non {j pos} : PEv X fr (.Constant .none j pos) (constF .none) := weakE pe_non (tE_const .non)
theorem ev_str {x j pos} : PEv X fr (.Constant (.str x) j pos) (constF (.str x)) := weakE pe_str (tE_const (.str x))
theorem ev_glob {x : Str} {v : V} {u : Value} {pos : Pos} {d : PyData} (hg : Gl X x) (hm : X.mg x = some u) (r : RelV v u) (hd : Dq X.K (fun _ => none) v d) (hdb : (x == ("__debug__" : Str)) = false := by decide) : PEv X fr (.Name x pos) (constF d) :=
  weakE (pe_glob hg hm r hdb) (tE_const hd)
theorem ev_var (i : Nat) {x : Str} {pos : Pos} (hN : X.N[i]? = some x := by rfl) (hv : Vis X.env.scope x := by first | exact Or.inl rfl | exact Or.inr (Or.inl rfl) | exact Or.inr (Or.inr rfl)) (hd : (x == ("__debug__" : Str)) = false := by decide)
    (hcd : (x == ("__classdict__" : Str)) = false := by decide) : PEv X fr (.Name x pos) (readF i) := by
  refine weakE (pe_var hN hv hd hcd) fun σ H Q ⟨env, G, h, w⟩ => ?_
  unfold wpM readF at w
  cases e : env[i]? with
  | none => simp [e] at w
  | some sl =>
    cases sl with
    | un => simp [e] at w
    | sh d =>
      simp only [e] at w
      obtain ⟨x, e1, e2⟩ := h.shAt e
      exact ⟨x, e1, w H G x h .refl e2⟩
    | own t ds =>
      simp only [e] at w
      obtain ⟨a, xs, e1, _⟩ := h.ownAt e
      exact ⟨.ref a, e1, w H G _ h .refl e1⟩
end

/-! ### operators -/
/-- a rule of two values as a function of two data -/
def Op2 (X : Cx) (f : Value → Value → Sem Value) (g : PyData → PyData → Option Rv) : Prop :=
  ∃ r : R2, OpR X f r ∧ ∀ x y H G d1 d2 res Q, Sub G H → Pk X.K H G x d1 → Pk X.K H G y d2 → g d1 d2 = some res →
    (∀ H' G' z, Stp H G H' G' → RvNew X.K H H' G' z res → Q z H') → r x y H Q
def binF (g : PyData → PyData → Option Rv) (F1 F2 : Mo Rv) : Mo Rv := do
  let r1 ← F1
  let r2 ← F2
  let d1 ← peek (hold r1)
  let d2 ← peek r2
  liftO (g d1 d2)
theorem Op2.or {X : Cx} {f : Value → Value → Sem Value} {g g' : PyData → PyData → Option Rv} (h : Op2 X f g) (h' : Op2 X f g') : Op2 X f (fun a b => (g a b).or (g' a b)) := by
  obtain ⟨r, h1, h2⟩ := h
  obtain ⟨r', h1', h2'⟩ := h'
  refine ⟨_, h1.or h1', fun x y H G d1 d2 res Q s p1 p2 e q => ?_⟩
  simp only at e
  cases z : g d1 d2 with
  | some a => rw [z] at e; exact .inl (h2 x y H G d1 d2 res Q s p1 p2 (by rw [z]; exact e) q)
  | none => rw [z] at e; exact .inr (h2' x y H G d1 d2 res Q s p1 p2 (by simpa using e) q)
end Cf
/-! Cf, part C: operators. -/
namespace Cf
open PySem PySem.Spec PyProof.Rows L2

section
variable {K : PySem.W.Frag} {G H : Hp} {v : V}
theorem dq_int {i : Int} (h : Dq K G v (.int i)) : v = .int i := by cases h; rfl
theorem dq_bl {b : Bool} (h : Dq K G v (.bool b)) : v = .bl b := by cases h; rfl
theorem dq_str {x : Str} (h : Dq K G v (.str x)) : v = .str x := by cases h; rfl
theorem dq_non (h : Dq K G v .none) : v = .non := by cases h; rfl
theorem dq_tup {ds : List PyData} (h : Dq K G v (.tuple ds)) : ∃ a xs, v = .ref a ∧ SqT K G a xs ∧ DqAll K G xs ds := by
  cases h with
  | tup h1 h2 => exact ⟨_, _, rfl, h1, h2⟩
/-- equality's own words -/
theorem canLay_cons {d : PyData} {ds : List PyData} (c : PyData.canLayAll0 (d :: ds) = true) : d.canLay0 = true ∧ PyData.canLayAll0 ds = true := by
  simpa [PyData.canLayAll0] using c
end
mutual
theorem canLay_dp {K : PySem.W.Frag} {G : Hp} : ∀ (d : PyData), d.canLay0 = true → ∀ v, Dq K G v d → Dp K G v d
  | .none, _, _, h => by cases h; exact .non
  | .bool b, _, _, h => by cases h; exact .bl b
  | .int i, _, _, h => by cases h; exact .int i
  | .str x, _, _, h => by cases h; exact .str x
  | .list ds, c, _, h => by
    cases h with
    | lst h1 h2 => exact .lst (.inl (.inl h1)) (canLay_dps ds (by simpa [PyData.canLay0] using c) _ h2)
  | .tuple ds, c, _, h => by
    cases h with
    | tup h1 h2 => exact .tup h1 (canLay_dps ds (by simpa [PyData.canLay0] using c) _ h2)
  | .dict kvs, c, _, _ => by simp [PyData.canLay0] at c
theorem canLay_dps {K : PySem.W.Frag} {G : Hp} : ∀ (ds : List PyData), PyData.canLayAll0 ds = true → ∀ vs, DqAll K G vs ds → DpAll K G vs ds
  | [], _, _, h => by cases h; exact .nil
  | d :: ds, c, _, h => by
    cases h with
    | cons h1 h2 => exact .cons (canLay_dp d (canLay_cons c).1 _ h1) (canLay_dps ds (canLay_cons c).2 _ h2)
end

/-- the list's value: a new one -/
theorem rvFresh {K : PySem.W.Frag} {H G : Hp} {p : Addr} {xs : List V} {ds : List PyData} (s : Sub G H) (hp : H p = none) (h : DqAll K G xs ds) :
    Stp H G (upd H p (.lst xs)) G ∧ RvNew K H (upd H p (.lst xs)) G (.ref p) (.fr ds) :=
  ⟨Stp.lay s hp, p, xs, rfl, upd_same, h, sub_none s hp, hp⟩
/-- the tuple's value: a new one -/
theorem rvTup {K : PySem.W.Frag} {H G : Hp} {p : Addr} {xs : List V} {ds : List PyData} (s : Sub G H) (hp : H p = none) (h : DqAll K G xs ds) :
    Stp H G (upd H p (.tup xs)) (upd G p (.tup xs)) ∧ RvNew K H (upd H p (.tup xs)) (upd G p (.tup xs)) (.ref p) (.sh (.tuple ds)) :=
  ⟨Stp.fix s hp, Dq.tup (.inl (.inl upd_same)) (Sub.dqAll (Stp.fix s hp).mono _ _ h)⟩

theorem Op2.weak {X : Cx} {f : Value → Value → Sem Value} {g g' : PyData → PyData → Option Rv} (h : Op2 X f g') (w : ∀ a b r, g a b = some r → g' a b = some r) : Op2 X f g :=
  let ⟨r, h1, h2⟩ := h
  ⟨r, h1, fun x y H G d1 d2 res Q s p1 p2 e q => h2 x y H G d1 d2 res Q s p1 p2 (w _ _ _ e) q⟩

/-! ### + - * // % ** -/
@[simp] def addG : PyData → PyData → Option Rv
  | .int i, .int j => some (.sh (.int (i + j)))
  | .str x, .str y => if x.length + y.length ≤ sizeLine then some (.sh (.str (x ++ y))) else none
  | .tuple xs, .tuple ys => if xs.length + ys.length ≤ sizeLine then some (.sh (.tuple (xs ++ ys))) else none
  | .list xs, .list ys => if xs.length + ys.length ≤ sizeLine then some (.fr (xs ++ ys)) else none
  | _, _ => none
@[simp] def subG : PyData → PyData → Option Rv
  | .int i, .int j => some (.sh (.int (i - j)))
  | _, _ => none
def mulOk (i j : Int) : Bool := !((decide (Builtin.Int.intBits i > shortFactorBits) && decide (Builtin.Int.intBits j > shortFactorBits) && Builtin.Int.intTooBig (Builtin.Int.intBits i + Builtin.Int.intBits j)))
def mulG : PyData → PyData → Option Rv
  | .int i, .int j => if mulOk i j = true then some (.sh (.int (i * j))) else none
  | .list xs, .int k => if -(2 ^ 63) ≤ k ∧ k < 2 ^ 63 ∧ xs.length * k.toNat ≤ sizeLine then some (.fr (List.replicate k.toNat xs).flatten) else none
  | .tuple xs, .int k => if xs ≠ [] ∧ 2 ≤ k ∧ k ≤ 1000 ∧ xs.length ≤ 1000 then some (.sh (.tuple (List.replicate k.toNat xs).flatten)) else none
  | _, _ => none
def fdivG : PyData → PyData → Option Rv
  | .int i, .int j => if j ≠ 0 ∧ Builtin.divisionGoesByPylong i j = false then some (.sh (.int (i.fdiv j))) else none
  | _, _ => none
@[simp] def modG : PyData → PyData → Option Rv
  | .int i, .int j => if j ≠ 0 then some (.sh (.int (i.fmod j))) else none
  | _, _ => none
def powG : PyData → PyData → Option Rv
  | .int i, .int j => if 0 ≤ j ∧ j ≤ 1000000 ∧ i.natAbs < 2 ^ 64 then some (.sh (.int (i ^ j.toNat))) else none
  | _, _ => none
section
variable {X : Cx}
theorem op2_intI {f : Value → Value → Sem Value} {C : Int → Int → Prop} {k : Int → Int → Int} {g : PyData → PyData → Option Rv} (h : OpR X f (rI C fun i j => .int (k i j)))
    (hg : ∀ a b r, g a b = some r → ∃ i j, a = .int i ∧ b = .int j ∧ C i j ∧ r = .sh (.int (k i j))) : Op2 X f g := by
  refine ⟨_, h, fun x y H G d1 d2 res Q s p1 p2 e q => ?_⟩
  obtain ⟨i, j, rfl, rfl, c, rfl⟩ := hg _ _ _ e
  exact ⟨i, j, dq_int p1, dq_int p2, c, q H G _ (.refl s) (.int _)⟩
theorem op2_int0 {f : Value → Value → Sem Value} {k : Int → Int → V} {kd : Int → Int → PyData} {g : PyData → PyData → Option Rv} (h : OpR X f (rI0 k)) (hk : ∀ (K : PySem.W.Frag) (G : Hp) i j, Dq K G (k i j) (kd i j))
    (hg : ∀ a b r, g a b = some r → ∃ i j, a = .int i ∧ b = .int j ∧ r = .sh (kd i j)) : Op2 X f g := by
  refine ⟨_, h, fun x y H G d1 d2 res Q s p1 p2 e q => ?_⟩
  obtain ⟨i, j, rfl, rfl, rfl⟩ := hg _ _ _ e
  exact ⟨i, j, dq_int p1, dq_int p2, q H G _ (.refl s) (hk _ _ _ _)⟩
theorem op2_add : Op2 X (binaryOp .Add) addG := by
  let g1 : PyData → PyData → Option Rv := fun a b => match a, b with
    | .int i, .int j => some (.sh (.int (i + j)))
    | _, _ => none
  let g2 : PyData → PyData → Option Rv := fun a b => match a, b with
    | .str x, .str y => if x.length + y.length ≤ sizeLine then some (.sh (.str (x ++ y))) else none
    | _, _ => none
  let g3 : PyData → PyData → Option Rv := fun a b => match a, b with
    | .tuple xs, .tuple ys => if xs.length + ys.length ≤ sizeLine then some (.sh (.tuple (xs ++ ys))) else none
    | _, _ => none
  let g4 : PyData → PyData → Option Rv := fun a b => match a, b with
    | .list xs, .list ys => if xs.length + ys.length ≤ sizeLine then some (.fr (xs ++ ys)) else none
    | _, _ => none
  have h1 : Op2 X (binaryOp .Add) g1 := op2_int0 op_add (fun _ _ _ _ => .int _) fun a b r e => by
    cases a <;> cases b <;> simp_all [g1]
  have h2 : Op2 X (binaryOp .Add) g2 := ⟨_, op_add_str, fun x y H G d1 d2 res Q s p1 p2 e q => by
    cases d1 <;> cases d2 <;> simp [g2] at e
    obtain ⟨hz, rfl⟩ := e
    exact ⟨_, _, dq_str p1, dq_str p2, hz, q H G _ (.refl s) (.str _)⟩⟩
  have h3 : Op2 X (binaryOp .Add) g3 := ⟨_, op_catA, fun x y H G d1 d2 res Q s p1 p2 e q => by
    cases d1 <;> cases d2 <;> simp [g3] at e
    obtain ⟨hz, rfl⟩ := e
    obtain ⟨a, xs, rfl, t1, a1⟩ := dq_tup p1
    obtain ⟨b, ys, rfl, t2, a2⟩ := dq_tup p2
    refine ⟨a, b, xs, ys, rfl, rfl, s.sqT t1, s.sqT t2, by rw [a1.length, a2.length]; exact hz, fun z => ?_, fun _ z => ?_, fun _ _ p hp => ?_⟩
    · subst z
      cases a1
      exact q H G _ (.refl s) (.tup t2 a2)
    · subst z
      cases a2
      rw [List.append_nil] at q
      exact q H G _ (.refl s) (.tup t1 a1)
    · have := rvTup s hp (a1.append a2)
      exact q _ _ _ this.1 this.2⟩
  have h4 : Op2 X (binaryOp .Add) g4 := ⟨_, op_cat, fun x y H G d1 d2 res Q s p1 p2 e q => by
    cases d1 <;> cases d2 <;> simp [g4] at e
    obtain ⟨hz, rfl⟩ := e
    obtain ⟨a, xs, rfl, t1, a1⟩ := p1
    obtain ⟨b, ys, rfl, t2, a2⟩ := p2
    refine ⟨a, b, xs, ys, rfl, rfl, t1, t2, by rw [a1.length, a2.length]; exact hz, fun p hp => ?_⟩
    have := rvFresh s hp (a1.append a2)
    exact q _ _ _ this.1 this.2⟩
  refine ((h1.or h2).or (h3.or h4)).weak fun a b r e => ?_
  cases a <;> cases b <;> simp_all [addG, g1, g2, g3, g4]
theorem op2_sub : Op2 X (binaryOp .Sub) subG := op2_int0 op_sub (fun _ _ _ _ => .int _) fun a b r e => by
  cases a <;> cases b <;> simp_all [subG]
theorem op2_fdiv : Op2 X (binaryOp .FloorDiv) fdivG :=
  op2_intI (C := fun i j => j ≠ 0 ∧ Builtin.divisionGoesByPylong i j = false) (opI fun _ _ _ _ _ _ _ hc q => floordiv_int hc.1 q (.inl hc.2)) fun a b r e => by
    cases a <;> cases b <;> simp [fdivG] at e
    obtain ⟨hz, rfl⟩ := e
    exact ⟨_, _, rfl, rfl, hz, rfl⟩
theorem op2_mod : Op2 X (binaryOp .Mod) modG :=
  op2_intI op_modN fun a b r e => by
    cases a <;> cases b <;> simp [modG] at e
    obtain ⟨hz, rfl⟩ := e
    exact ⟨_, _, rfl, rfl, hz, rfl⟩
theorem op2_pow : Op2 X (binaryOp .Pow) powG :=
  op2_intI op_pow fun a b r e => by
    cases a <;> cases b <;> simp [powG] at e
    obtain ⟨hz, rfl⟩ := e
    exact ⟨_, _, rfl, rfl, ⟨hz.1, hz.2.1, by simpa using hz.2.2⟩, rfl⟩
theorem mulOk_ok {i j : Int} (h : mulOk i j = true) : IntMulOk i j := by
  unfold mulOk at h
  unfold IntMulOk
  intro z
  rw [z] at h
  cases h
theorem op2_mul : Op2 X (binaryOp .Mult) mulG := by
  let g1 : PyData → PyData → Option Rv := fun a b => match a, b with
    | .int i, .int j => if mulOk i j = true then some (.sh (.int (i * j))) else none
    | _, _ => none
  let g2 : PyData → PyData → Option Rv := fun a b => match a, b with
    | .list xs, .int k => if -(2 ^ 63) ≤ k ∧ k < 2 ^ 63 ∧ xs.length * k.toNat ≤ sizeLine then some (.fr (List.replicate k.toNat xs).flatten) else none
    | _, _ => none
  let g3 : PyData → PyData → Option Rv := fun a b => match a, b with
    | .tuple xs, .int k => if xs ≠ [] ∧ 2 ≤ k ∧ k ≤ 1000 ∧ xs.length ≤ 1000 then some (.sh (.tuple (List.replicate k.toNat xs).flatten)) else none
    | _, _ => none
  have h1 : Op2 X (binaryOp .Mult) g1 := op2_intI (C := fun i j => mulOk i j = true) (opI fun _ _ _ _ _ _ _ hc q => mul_int q (mulOk_ok hc)) fun a b r e => by
    cases a <;> cases b <;> simp [g1] at e
    obtain ⟨hz, rfl⟩ := e
    exact ⟨_, _, rfl, rfl, hz, rfl⟩
  have h2 : Op2 X (binaryOp .Mult) g2 := ⟨_, op_rep, fun x y H G d1 d2 res Q s p1 p2 e q => by
    cases d1 <;> cases d2 <;> simp only [g2] at e <;> try cases e
    split at e <;> cases e
    rename_i es k hz
    obtain ⟨a, xs, rfl, t1, a1⟩ := p1
    refine ⟨a, _, xs, rfl, dq_int p2, t1, hz.1, hz.2.1, by rw [a1.length]; exact hz.2.2, fun p hp => ?_⟩
    have := rvFresh s hp (a1.rep k.toNat)
    exact q _ _ _ this.1 this.2⟩
  have h3 : Op2 X (binaryOp .Mult) g3 := ⟨_, op_repT, fun x y H G d1 d2 res Q s p1 p2 e q => by
    cases d1 <;> cases d2 <;> simp only [g3] at e <;> try cases e
    split at e <;> cases e
    rename_i es k hz
    obtain ⟨a, xs, rfl, t1, a1⟩ := dq_tup p1
    refine ⟨a, _, xs, rfl, dq_int p2, s.sqT t1, fun z => ?_, hz.2.1, hz.2.2.1, by rw [a1.length]; exact hz.2.2.2, fun p hp => ?_⟩
    · subst z
      cases a1
      exact hz.1 rfl
    · have := rvTup s hp (a1.rep k.toNat)
      exact q _ _ _ this.1 this.2⟩
  refine (h1.or (h2.or h3)).weak fun a b r e => ?_
  cases a <;> cases b <;> simp_all [mulG, g1, g2, g3]
end

/-! ### comparisons -/
def eqOk (a b : PyData) : Bool := a.canLay0 && b.canLay0 && decide (min a.depth b.depth ≤ 64)
def eqG (a b : PyData) : Option Rv := if eqOk a b = true then some (.sh (.bool (PyData.eqv a b))) else none
def neG (a b : PyData) : Option Rv := if eqOk a b = true then some (.sh (.bool (!PyData.eqv a b))) else none
@[simp] def ltG : PyData → PyData → Option Rv
  | .int i, .int j => some (.sh (.bool (decide (i < j))))
  | _, _ => none
@[simp] def leG : PyData → PyData → Option Rv
  | .int i, .int j => some (.sh (.bool (decide (i ≤ j))))
  | _, _ => none
@[simp] def gtG : PyData → PyData → Option Rv
  | .int i, .int j => some (.sh (.bool (decide (j < i))))
  | _, _ => none
@[simp] def geG : PyData → PyData → Option Rv
  | .int i, .int j => some (.sh (.bool (decide (j ≤ i))))
  | _, _ => none
@[simp] def isNoneD : PyData → Bool
  | .none => true
  | _ => false
@[simp] def isG : PyData → PyData → Option Rv
  | a, .none => some (.sh (.bool (isNoneD a)))
  | .bool a, .bool b => some (.sh (.bool (decide (a = b))))
  | _, _ => none
@[simp] def isNotG : PyData → PyData → Option Rv
  | a, .none => some (.sh (.bool (!isNoneD a)))
  | .bool a, .bool b => some (.sh (.bool (!decide (a = b))))
  | _, _ => none
def inOk (a : PyData) (ds : List PyData) : Bool := a.canLay0 && PyData.canLayAll0 ds && decide (a.depth ≤ 60)
def inG : PyData → PyData → Option Rv
  | a, .list ds => if inOk a ds = true then some (.sh (.bool (ds.any fun z => PyData.eqv z a))) else none
  | a, .tuple ds => if inOk a ds = true then some (.sh (.bool (ds.any fun z => PyData.eqv z a))) else none
  | _, _ => none
def notInG : PyData → PyData → Option Rv
  | a, .list ds => if inOk a ds = true then some (.sh (.bool (!ds.any fun z => PyData.eqv z a))) else none
  | a, .tuple ds => if inOk a ds = true then some (.sh (.bool (!ds.any fun z => PyData.eqv z a))) else none
  | _, _ => none
section
variable {X : Cx}
def rRd (K : PySem.W.Frag) (ok : PyData → PyData → Bool) (k : PyData → PyData → Bool) : R2 := fun x y H Q => ∃ d e, Dp K H x d ∧ Dp K H y e ∧ ok d e = true ∧ Q (.bl (k d e)) H
theorem op2_rd {f : Value → Value → Sem Value} {ok k : PyData → PyData → Bool} (h : OpR X f (rRd X.K ok k)) (hc : ∀ a b, ok a b = true → a.canLay0 = true ∧ b.canLay0 = true) :
    Op2 X f (fun a b => if ok a b = true then some (.sh (.bool (k a b))) else none) := by
  refine ⟨_, h, fun x y H G d1 d2 res Q s p1 p2 e q => ?_⟩
  simp only at e
  split at e
  · rename_i hok
    cases e
    have c := hc _ _ hok
    exact ⟨d1, d2, canLay_dp _ c.1 _ (Pk.dq s p1), canLay_dp _ c.2 _ (Pk.dq s p2), hok, q H G _ (.refl s) (.bl _)⟩
  · cases e
theorem eqOk_c (a b : PyData) (h : eqOk a b = true) : a.canLay0 = true ∧ b.canLay0 = true := by
  unfold eqOk at h
  simp only [Bool.and_eq_true] at h
  exact h.1
theorem op2_eq (hu : X.A.units + 100 < cLine) : Op2 X (compareOp .Eq) eqG := by
  refine op2_rd (fun pins s σ H x y v u Q I rx ry h => ?_) eqOk_c
  obtain ⟨d, e, hd, he, ok, q⟩ := h
  obtain ⟨as, r1⟩ := Dp.reads I d x v hd rx
  obtain ⟨bs, r2⟩ := Dp.reads I e y u he ry
  simp only [eqOk, Bool.and_eq_true, decide_eq_true_eq] at ok
  exact SeqAt.compareEq_reads r1 r2 ok.1.1 ok.1.2 (by omega) ⟨.bl _, H, I, rfl, q⟩
theorem op2_ne (hu : X.A.units + 100 < cLine) : Op2 X (compareOp .NotEq) neG := by
  refine op2_rd (fun pins s σ H x y v u Q I rx ry h => ?_) eqOk_c
  obtain ⟨d, e, hd, he, ok, q⟩ := h
  obtain ⟨as, r1⟩ := Dp.reads I d x v hd rx
  obtain ⟨bs, r2⟩ := Dp.reads I e y u he ry
  simp only [eqOk, Bool.and_eq_true, decide_eq_true_eq] at ok
  exact SeqAt.compareNe_reads r1 r2 ok.1.1 ok.1.2 (by omega) ⟨.bl _, H, I, rfl, q⟩
theorem op2_lt : Op2 X (compareOp .Lt) ltG := op2_int0 op_lt (fun _ _ _ _ => .bl _) fun a b r e => by
  cases a <;> cases b <;> simp_all [ltG]
theorem op2_le : Op2 X (compareOp .LtE) leG := op2_int0 op_le (fun _ _ _ _ => .bl _) fun a b r e => by
  cases a <;> cases b <;> simp_all [leG]
theorem op2_gt : Op2 X (compareOp .Gt) gtG := op2_int0 op_gt (fun _ _ _ _ => .bl _) fun a b r e => by
  cases a <;> cases b <;> simp_all [gtG]
theorem op2_ge : Op2 X (compareOp .GtE) geG := op2_int0 op_ge (fun _ _ _ _ => .bl _) fun a b r e => by
  cases a <;> cases b <;> simp_all [geG]
theorem isNone_dq {K : PySem.W.Frag} {H G : Hp} {v : V} {d : PyData} (h : Pk K H G v d) : decide (v = .non) = isNoneD d := by
  cases d with
  | list ds => obtain ⟨a, xs, rfl, _⟩ := h; rfl
  | none => cases dq_non h; rfl
  | bool b => cases dq_bl h; rfl
  | int b => cases dq_int h; rfl
  | str b => cases dq_str h; rfl
  | tuple ds => obtain ⟨a, xs, rfl, _⟩ := dq_tup h; rfl
  | dict kvs =>
    cases (show Dq K G v (.dict kvs) from h)
    rfl
theorem op2_is : Op2 X (compareOp .Is) isG := by
  let g1 : PyData → PyData → Option Rv := fun a b => match b with
    | .none => some (.sh (.bool (isNoneD a)))
    | _ => none
  let g2 : PyData → PyData → Option Rv := fun a b => match a, b with
    | .bool a, .bool b => some (.sh (.bool (decide (a = b))))
    | _, _ => none
  have h1 : Op2 X (compareOp .Is) g1 := ⟨_, op_isN, fun x y H G d1 d2 res Q s p1 p2 e q => by
    cases d2 <;> simp [g1] at e
    subst e
    refine ⟨dq_non p2, ?_⟩
    rw [isNone_dq p1]
    exact q H G _ (.refl s) (.bl _)⟩
  have h2 : Op2 X (compareOp .Is) g2 := ⟨_, op_isBl, fun x y H G d1 d2 res Q s p1 p2 e q => by
    cases d1 <;> cases d2 <;> simp [g2] at e
    subst e
    exact ⟨_, _, dq_bl p1, dq_bl p2, q H G _ (.refl s) (.bl _)⟩⟩
  refine (h1.or h2).weak fun a b r e => ?_
  cases a <;> cases b <;> simp_all [isG, g1, g2]
theorem op2_isNot : Op2 X (compareOp .IsNot) isNotG := by
  let g1 : PyData → PyData → Option Rv := fun a b => match b with
    | .none => some (.sh (.bool (!isNoneD a)))
    | _ => none
  let g2 : PyData → PyData → Option Rv := fun a b => match a, b with
    | .bool a, .bool b => some (.sh (.bool (!decide (a = b))))
    | _, _ => none
  have h1 : Op2 X (compareOp .IsNot) g1 := ⟨_, op_notN, fun x y H G d1 d2 res Q s p1 p2 e q => by
    cases d2 <;> simp [g1] at e
    subst e
    refine ⟨dq_non p2, ?_⟩
    rw [isNone_dq p1]
    exact q H G _ (.refl s) (.bl _)⟩
  have h2 : Op2 X (compareOp .IsNot) g2 := ⟨_, op_notBl, fun x y H G d1 d2 res Q s p1 p2 e q => by
    cases d1 <;> cases d2 <;> simp [g2] at e
    subst e
    exact ⟨_, _, dq_bl p1, dq_bl p2, q H G _ (.refl s) (.bl _)⟩⟩
  refine (h1.or h2).weak fun a b r e => ?_
  cases a <;> cases b <;> simp_all [isNotG, g1, g2]
def rInQ (K : PySem.W.Frag) (neg : Bool) : R2 := fun x y H Q => ∃ d e ds, Dp K H x d ∧ Dp K H y e ∧ (e = .list ds ∨ e = .tuple ds) ∧ inOk d ds = true ∧ Q (.bl (if neg = true then !(ds.any fun z => PyData.eqv z d) else ds.any fun z => PyData.eqv z d)) H
theorem opR_in (hu : X.A.units + 100 < cLine) : OpR X (compareOp .In) (rInQ X.K false) := by
  intro pins s σ H x y v u Q I rx ry h
  obtain ⟨d, e, ds, hd, he, hds, ok, q⟩ := h
  obtain ⟨as, r1⟩ := Dp.reads I d x v hd rx
  obtain ⟨bs, r2⟩ := Dp.reads I e y u he ry
  simp only [inOk, Bool.and_eq_true, decide_eq_true_eq] at ok
  rcases hds with rfl | rfl
  · exact SeqAt.in_list_reads r2 r1 ok.1.2 ok.1.1 (by omega) ⟨.bl _, H, I, rfl, q⟩
  · exact SeqAt.in_tuple_reads r2 r1 ok.1.2 ok.1.1 (by omega) ⟨.bl _, H, I, rfl, q⟩
theorem opR_notIn (hu : X.A.units + 100 < cLine) : OpR X (compareOp .NotIn) (rInQ X.K true) := by
  intro pins s σ H x y v u Q I rx ry h
  obtain ⟨d, e, ds, hd, he, hds, ok, q⟩ := h
  obtain ⟨as, r1⟩ := Dp.reads I d x v hd rx
  obtain ⟨bs, r2⟩ := Dp.reads I e y u he ry
  simp only [inOk, Bool.and_eq_true, decide_eq_true_eq] at ok
  rcases hds with rfl | rfl
  · exact SeqAt.notIn_list_reads r2 r1 ok.1.2 ok.1.1 (by omega) ⟨.bl _, H, I, rfl, q⟩
  · exact SeqAt.notIn_tuple_reads r2 r1 ok.1.2 ok.1.1 (by omega) ⟨.bl _, H, I, rfl, q⟩
theorem inOk_c {a : PyData} {ds : List PyData} (h : inOk a ds = true) : a.canLay0 = true ∧ PyData.canLayAll0 ds = true := by
  simp only [inOk, Bool.and_eq_true] at h
  exact h.1
theorem op2_in (hu : X.A.units + 100 < cLine) : Op2 X (compareOp .In) inG := by
  refine ⟨_, opR_in hu, fun x y H G d1 d2 res Q s p1 p2 e q => ?_⟩
  cases d2 <;> simp only [inG] at e <;> try cases e
  all_goals
    split at e <;> cases e
    rename_i ok
    have c := inOk_c ok
    exact ⟨d1, _, _, canLay_dp _ c.1 _ (Pk.dq s p1), canLay_dp _ (by simpa [PyData.canLay0] using c.2) _ (Pk.dq s p2), by simp, ok, q H G _ (.refl s) (.bl _)⟩
theorem op2_notIn (hu : X.A.units + 100 < cLine) : Op2 X (compareOp .NotIn) notInG := by
  refine ⟨_, opR_notIn hu, fun x y H G d1 d2 res Q s p1 p2 e q => ?_⟩
  cases d2 <;> simp only [notInG] at e <;> try cases e
  all_goals
    split at e <;> cases e
    rename_i ok
    have c := inOk_c ok
    exact ⟨d1, _, _, canLay_dp _ c.1 _ (Pk.dq s p1), canLay_dp _ (by simpa [PyData.canLay0] using c.2) _ (Pk.dq s p2), by simp, ok, q H G _ (.refl s) (.bl _)⟩
end
end Cf
/-! Cf, part D: compound expressions, built-ins, methods of lists. -/
namespace Cf
open PySem PySem.Spec PyProof.Rows L2

/-! ### two operands, then a primitive -/
section
variable {X : Cx} {fr : Fr} {a b c : Expr} {Fa Fb Fc : Mo Rv} {pos : Pos}
theorem bin_reads {r : R2} {g : PyData → PyData → Option Rv} (hg : ∀ x y H G d1 d2 res Q, Sub G H → Pk X.K H G x d1 → Pk X.K H G y d2 → g d1 d2 = some res → (∀ H' G' z, Stp H G H' G' → RvNew X.K H H' G' z res → Q z H') → r x y H Q) :
    ∀ σ H Q, tE X.K fr (binF g Fa Fb) σ H Q → tOp r (tE X.K fr Fa) (tE X.K fr Fb) σ H Q := fun σ H Q ⟨env, G, h, w⟩ => by
  refine tE_then h w (fun r1 env1 H1 G1 v1 h1 s1 q1 w1 => ?_) fun c e1 E1 H1 G1 h1 s1 => E1 H1 G1 h1 s1
  obtain ⟨G1', h1', s1', q1'⟩ := hold_ok' h1 q1
  refine tE_then h1' w1 (fun r2 env2 H2 G2 v2 h2 s2 q2 w2 => ?_) fun c e1 E1 H2 G2 h2 s2 => E1 H2 G2 h2 ((s1.trans s1').trans s2)
  obtain ⟨d1, p1, w3⟩ := peek_ok h2 (HeldOk.ok (q1'.mono s2)) (wpM_bind.mp w2)
  obtain ⟨d2, p2, w4⟩ := peek_ok h2 q2 (wpM_bind.mp w3)
  obtain ⟨res, e, qf⟩ := wpM_lift w4
  exact hg v1 v2 H2 G2 d1 d2 res Q h2.sub p1 p2 e fun H' G' z st rn => qf H' G' z (h2.stp st) (((s1.trans s1').trans s2).trans st.mono) (rn.ok h2)
theorem ev_bin {op : Operator} {g : PyData → PyData → Option Rv} (ho : Op2 X (binaryOp op) g) (ha : PEv X fr a Fa) (hb : PEv X fr b Fb) : PEv X fr (.BinOp a op b pos) (binF g Fa Fb) :=
  let ⟨_, hr, hg⟩ := ho
  weakE (pe_op hr ha hb) (bin_reads hg)
theorem ev_cmp {op : CmpOp} {g : PyData → PyData → Option Rv} (ho : Op2 X (compareOp op) g) (ha : PEv X fr a Fa) (hb : PEv X fr b Fb) (hm : behindInMarks op b = false := by first | exact nomark _ | rfl) : PEv X fr (.Compare a [op] [b] pos) (binF g Fa Fb) :=
  let ⟨_, hr, hg⟩ := ho
  weakE (pe_cmpR hr ha hb hm) (bin_reads hg)
/-- a < b <= c -/
def chainF (g g' : PyData → PyData → Option Rv) (F1 F2 F3 : Mo Rv) : Mo Rv := do
  let r1 ← F1
  let r2 ← F2
  let d1 ← peek (hold r1)
  let d2 ← peek (hold r2)
  match g d1 d2 with
  | some (.sh (.bool k)) => (if k = true then (do
      let r3 ← F3
      let d2' ← peek (hold r2)
      let d3 ← peek r3
      liftO (g' d2' d3)) else pure (.sh (.bool false)) : Mo Rv)
  | _ => stuckM
theorem ev_chain {op op' : CmpOp} {g g' : PyData → PyData → Option Rv} (ho : Op2 X (compareOp op) g) (ho' : Op2 X (compareOp op') g') (ha : PEv X fr a Fa) (hb : PEv X fr b Fb) (hc : PEv X fr c Fc)
    (hm : lastMarks [op, op'] [b, c] = false := by with_unfolding_all rfl) : PEv X fr (.Compare a [op, op'] [b, c] pos) (chainF g g' Fa Fb Fc) := by
  obtain ⟨r, hr, hg⟩ := ho
  obtain ⟨r', hr', hg'⟩ := ho'
  refine weakE (pe_chain hr hr' ha hb hc hm) fun σ H Q ⟨env, G, h, w⟩ => ?_
  refine tE_then h w (fun r1 env1 H1 G1 v1 h1 s1 q1 w1 => ?_) fun c e1 E1 H1 G1 h1 s1 => E1 H1 G1 h1 s1
  obtain ⟨G1', h1', s1', q1'⟩ := hold_ok' h1 q1
  refine tE_then h1' w1 (fun r2 env2 H2 G2 v2 h2 s2 q2 w2 => ?_) fun c e1 E1 H2 G2 h2 s2 => E1 H2 G2 h2 ((s1.trans s1').trans s2)
  have sA := (s1.trans s1').trans s2
  obtain ⟨d1, p1, w3⟩ := peek_ok h2 (HeldOk.ok (q1'.mono s2)) (wpM_bind.mp w2)
  obtain ⟨G2', h2', s2', q2'⟩ := hold_ok' h2 q2
  have p1' : Pk X.K H2 G2' v1 d1 := by
    cases d1 with
    | list ds => obtain ⟨l, xs, e, k1, k2⟩ := p1; exact ⟨l, xs, e, k1, Sub.dqAll s2' _ _ k2⟩
    | _ => exact Sub.dq s2' _ _ p1
  obtain ⟨d2, p2, w4⟩ := peek_ok h2' (HeldOk.ok q2') (wpM_bind.mp w3)
  cases e : g d1 d2 with
  | none => rw [e] at w4; exact w4.elim
  | some res =>
    rw [e] at w4
    cases res with
    | fr _ => exact w4.elim
    | sl _ => exact w4.elim
    | sh d =>
      cases d with
      | bool k =>
        refine hg v1 v2 H2 G2' d1 d2 _ _ h2'.sub p1' p2 e fun H3 G3 z st rn => ?_
        have hz := dq_bl (show Dq X.K G3 z (.bool k) from rn)
        subst hz
        have h3 := h2'.stp st
        refine ⟨k, rfl, ?_⟩
        cases k with
        | false =>
          replace w4 := show wpM (if false = true then _ else _) env2 _ _ from w4
          rw [if_neg Bool.false_ne_true] at w4 ⊢
          exact w4 H3 G3 _ h3 ((sA.trans s2').trans st.mono) (.bl false)
        | true =>
          replace w4 := show wpM (if true = true then _ else _) env2 _ _ from w4
          rw [if_pos rfl] at w4 ⊢
          refine tE_then h3 w4 (fun r3 env4 H4 G4 v3 h4 s4 q4 w5 => ?_) fun c e1 E1 H4 G4 h4 s4 => E1 H4 G4 h4 (((sA.trans s2').trans st.mono).trans s4)
          obtain ⟨d2', p2', w6⟩ := peek_ok h4 (HeldOk.ok ((q2'.mono st.mono).mono s4)) (wpM_bind.mp w5)
          obtain ⟨d3, p3, w7⟩ := peek_ok h4 q4 (wpM_bind.mp w6)
          obtain ⟨res, e', qf⟩ := wpM_lift w7
          exact hg' v2 v3 H4 G4 d2' d3 res Q h4.sub p2' p3 e' fun H' G' z st' rn' => qf H' G' z (h4.stp st') ((((sA.trans s2').trans st.mono).trans s4).trans st'.mono) (rn'.ok h4)
      | _ => exact w4.elim

/-! ### bools -/
/-- the value as a bool -/
def boolF (F : Mo Rv) : Mo Bool := do
  let r ← F
  match r with
  | .sh (.bool b) => pure b
  | _ => stuckM
def ofB (F : Mo Bool) : Mo Rv := do
  let b ← F
  pure (.sh (.bool b))
def andF (F1 F2 : Mo Bool) : Mo Bool := do
  let b ← F1
  if b = true then F2 else pure false
def orF (F1 F2 : Mo Bool) : Mo Bool := do
  let b ← F1
  if b = true then pure true else F2
def notF (F : Mo Bool) : Mo Bool := do
  let b ← F
  pure (!b)
/-- a value that is a bool -/
def PBv (X : Cx) (fr : Fr) (e : Expr) (F : Mo Bool) : Prop := PEv X fr e (ofB F)
theorem wpM_boolF {α : Type} {F : Mo Rv} {k : Bool → Mo α} {env : Fv} {Q : α → Fv → Prop} {E : Nat → Fv → Prop} (w : wpM (boolF F >>= k) env Q E) : wpM (F >>= fun r => match r with
    | .sh (.bool b) => k b
    | _ => stuckM) env Q E := by
  unfold boolF at w
  rw [wpM_bind, wpM_bind] at w
  rw [wpM_bind]
  refine wpM_mono w (fun r e' h => ?_) fun _ _ h => h
  cases r with
  | sh d =>
    cases d with
    | bool b => exact h
    | _ => exact h.elim
  | _ => exact h.elim
theorem tE_bool {σ : L2.St} {H : Hp} {Q : VK} {F : Mo Bool} {env : Fv} {G : Hp} {α : Type} {k : Bool → Mo α} {Qe : α → Fv → Prop} {Ee : Nat → Fv → Prop} (h : SR X.K fr env σ H G) (w : wpM (F >>= k) env Qe Ee)
    (hk : ∀ b env1 H1 G1, SR X.K fr env1 σ H1 G1 → Sub G G1 → wpM (k b) env1 Qe Ee → Q (.bl b) H1)
    (he : ∀ c env1, Ee c env1 → ∀ H1 G1, SR X.K fr env1 σ H1 G1 → Sub G G1 → fr.W c H1) : tE X.K fr (ofB F) σ H Q := by
  refine ⟨env, G, h, ?_⟩
  unfold ofB
  rw [wpM_bind]
  rw [wpM_bind] at w
  refine wpM_mono w (fun b e' w' => ?_) fun c e' w' H' G' h' s' => he c e' w' H' G' h' s'
  show ∀ H' G' v, _
  intro H' G' v h' s' q
  have hv : v = .bl b := dq_bl (show Dq X.K G' v (.bool b) from q)
  subst hv
  exact hk b e' H' G' h' s' w'
theorem ev_toB {e : Expr} {F : Mo Rv} (h : PEv X fr e F) : PBv X fr e (boolF F) := weakE h fun σ H Q ⟨env, G, h, w⟩ => by
  refine ⟨env, G, h, ?_⟩
  unfold ofB at w
  have w' := wpM_boolF w
  rw [wpM_bind] at w'
  refine wpM_mono w' (fun r e' q => ?_) fun c e' q => q
  cases r with
  | sh d =>
    cases d with
    | bool b => exact q
    | _ => exact q.elim
  | _ => exact q.elim
theorem eb_one {op : BoolOp} {F : Mo Bool} (h : PBv X fr a F) : PBv X fr (.BoolOp op [a] pos) F := pe_one h
theorem eb_and {F1 F2 : Mo Bool} {rest : List Expr} (ha : PBv X fr a F1) (hb : PBv X fr (.BoolOp .And (b :: rest) pos) F2) : PBv X fr (.BoolOp .And (a :: b :: rest) pos) (andF F1 F2) :=
  weakE (pe_and ha hb) fun σ H Q ⟨env, G, h, w⟩ => by
    unfold ofB andF at w
    rw [wpM_bind] at w
    refine tE_bool h w (fun c env1 H1 G1 h1 s1 w1 => ⟨c, rfl, ?_⟩) fun c e1 E1 H1 G1 h1 s1 => E1 H1 G1 h1 s1
    cases c with
    | true =>
      rw [if_pos rfl] at w1 ⊢
      refine tE_bool h1 (wpM_bind.mpr w1) (fun c env2 H2 G2 h2 s2 w2 => ?_) fun c e1 E1 H2 G2 h2 s2 => E1 H2 G2 h2 (s1.trans s2)
      exact w2 H2 G2 _ h2 (s1.trans s2) (.bl c)
    | false =>
      rw [if_neg Bool.false_ne_true] at w1 ⊢
      exact w1 H1 G1 _ h1 s1 (.bl false)
theorem eb_or {F1 F2 : Mo Bool} {rest : List Expr} (ha : PBv X fr a F1) (hb : PBv X fr (.BoolOp .Or (b :: rest) pos) F2) : PBv X fr (.BoolOp .Or (a :: b :: rest) pos) (orF F1 F2) :=
  weakE (pe_or ha hb) fun σ H Q ⟨env, G, h, w⟩ => by
    unfold ofB orF at w
    rw [wpM_bind] at w
    refine tE_bool h w (fun c env1 H1 G1 h1 s1 w1 => ⟨c, rfl, ?_⟩) fun c e1 E1 H1 G1 h1 s1 => E1 H1 G1 h1 s1
    cases c with
    | true =>
      rw [if_pos rfl] at w1 ⊢
      exact w1 H1 G1 _ h1 s1 (.bl true)
    | false =>
      rw [if_neg Bool.false_ne_true] at w1 ⊢
      refine tE_bool h1 (wpM_bind.mpr w1) (fun c env2 H2 G2 h2 s2 w2 => ?_) fun c e1 E1 H2 G2 h2 s2 => E1 H2 G2 h2 (s1.trans s2)
      exact w2 H2 G2 _ h2 (s1.trans s2) (.bl c)
theorem eb_not {F : Mo Bool} (ha : PBv X fr a F) : PBv X fr (.UnaryOp .Not a pos) (notF F) :=
  weakE (pe_not ha) fun σ H Q ⟨env, G, h, w⟩ => by
    unfold ofB notF at w
    rw [wpM_bind] at w
    refine tE_bool h w (fun c env1 H1 G1 h1 s1 w1 => ⟨c, rfl, ?_⟩) fun c e1 E1 H1 G1 h1 s1 => E1 H1 G1 h1 s1
    exact w1 H1 G1 _ h1 s1 (.bl _)
theorem ev_ofB {e : Expr} {F : Mo Bool} (h : PBv X fr e F) : PEv X fr e (ofB F) := h

/-! ### tests -/
theorem et_val {e : Expr} {F : Mo Bool} (h : PBv X fr e F) (he : ∀ whole, isTrue e X.env whole = (do let v ← whole; standAt e.pos; holding [v] (truthy v)) := by intro _; rfl) : PTv X fr e F :=
  weakT (pt_val h he) fun σ H Q ⟨env, G, h, w⟩ => tE_bool h (wpM_bind.mpr (wpM_mono w (fun b e' q => (wpM_pure (a := b)).mpr q) fun _ _ q => q))
    (fun b env1 H1 G1 h1 s1 w1 => ⟨b, rfl, w1 H1 G1 h1 s1⟩) fun c e1 E1 H1 G1 h1 s1 => E1 H1 G1 h1 s1
theorem et_of {e : Expr} {F : Mo Bool} (h : PWv X fr e F) : PTv X fr e F := PW.pt h
theorem ew_and1 {F : Mo Bool} (h : PTv X fr a F) : PWv X fr (.BoolOp .And [a] pos) F := pw_and1 h
theorem ew_or1 {F : Mo Bool} (h : PTv X fr a F) : PWv X fr (.BoolOp .Or [a] pos) F := pw_or1 h
theorem ew_and {F1 F2 : Mo Bool} {rest : List Expr} (ha : PTv X fr a F1) (hb : PWv X fr (.BoolOp .And (b :: rest) pos) F2) : PWv X fr (.BoolOp .And (a :: b :: rest) pos) (andF F1 F2) :=
  weakW (pw_and ha hb) fun σ H Q ⟨env, G, h, w⟩ => by
    unfold andF at w
    refine tT_then h w (fun c env1 H1 G1 h1 s1 w1 => ?_) fun c e1 E1 H1 G1 h1 s1 => E1 H1 G1 h1 s1
    cases c with
    | true =>
      rw [if_pos rfl] at w1 ⊢
      exact ⟨env1, G1, h1, wpM_mono w1 (fun b e' q H2 G2 h2 s2 => q H2 G2 h2 (s1.trans s2)) fun c e' q H2 G2 h2 s2 => q H2 G2 h2 (s1.trans s2)⟩
    | false =>
      rw [if_neg Bool.false_ne_true] at w1 ⊢
      exact w1 H1 G1 h1 s1
theorem ew_or {F1 F2 : Mo Bool} {rest : List Expr} (ha : PTv X fr a F1) (hb : PWv X fr (.BoolOp .Or (b :: rest) pos) F2) : PWv X fr (.BoolOp .Or (a :: b :: rest) pos) (orF F1 F2) :=
  weakW (pw_or ha hb) fun σ H Q ⟨env, G, h, w⟩ => by
    unfold orF at w
    refine tT_then h w (fun c env1 H1 G1 h1 s1 w1 => ?_) fun c e1 E1 H1 G1 h1 s1 => E1 H1 G1 h1 s1
    cases c with
    | true =>
      rw [if_pos rfl] at w1 ⊢
      exact w1 H1 G1 h1 s1
    | false =>
      rw [if_neg Bool.false_ne_true] at w1 ⊢
      exact ⟨env1, G1, h1, wpM_mono w1 (fun b e' q H2 G2 h2 s2 => q H2 G2 h2 (s1.trans s2)) fun c e' q H2 G2 h2 s2 => q H2 G2 h2 (s1.trans s2)⟩
theorem et_not {F : Mo Bool} (ha : PTv X fr a F) : PTv X fr (.UnaryOp .Not a pos) (notF F) :=
  weakT (pt_not ha) fun σ H Q ⟨env, G, h, w⟩ => by
    unfold notF at w
    exact tT_then h w (fun c env1 H1 G1 h1 s1 w1 => w1 H1 G1 h1 s1) fun c e1 E1 H1 G1 h1 s1 => E1 H1 G1 h1 s1
def ifF {α : Type} (T : Mo Bool) (F1 F2 : Mo α) : Mo α := do
  let b ← T
  if b = true then F1 else F2
theorem ev_ifExp {c : Expr} {T : Mo Bool} (hc : PTv X fr c T) (ha : PEv X fr a Fa) (hb : PEv X fr b Fb) : PEv X fr (.IfExp c a b pos) (ifF T Fa Fb) :=
  weakE (pe_ifExp hc ha hb) fun σ H Q ⟨env, G, h, w⟩ => by
    unfold ifF at w
    refine tT_then h w (fun c env1 H1 G1 h1 s1 w1 => ?_) fun c e1 E1 H1 G1 h1 s1 => E1 H1 G1 h1 s1
    cases c with
    | true =>
      rw [if_pos rfl] at w1 ⊢
      exact ⟨env1, G1, h1, wpM_mono w1 (fun b e' q H2 G2 v h2 s2 => q H2 G2 v h2 (s1.trans s2)) fun c e' q H2 G2 h2 s2 => q H2 G2 h2 (s1.trans s2)⟩
    | false =>
      rw [if_neg Bool.false_ne_true] at w1 ⊢
      exact ⟨env1, G1, h1, wpM_mono w1 (fun b e' q H2 G2 v h2 s2 => q H2 G2 v h2 (s1.trans s2)) fun c e' q H2 G2 h2 s2 => q H2 G2 h2 (s1.trans s2)⟩
end

/-! ### argument lists, displays -/
def consF (F : Mo Rv) (Fs : Mo (List Rv)) : Mo (List Rv) := do
  let r ← F
  let rs ← Fs
  pure (hold r :: rs)
def nilF : Mo (List Rv) := pure []
def tupF (Fs : Mo (List Rv)) : Mo Rv := do
  let rs ← Fs
  let ds ← forces rs
  if ds.length ≤ sizeLine then pure (.sh (.tuple ds)) else stuckM
def lstF (Fs : Mo (List Rv)) : Mo Rv := do
  let rs ← Fs
  let ds ← forces rs
  if ds.length ≤ sizeLine then pure (.fr ds) else stuckM
section
variable {X : Cx} {fr : Fr} {e : Expr} {es : List Expr} {F : Mo Rv} {Fs : Mo (List Rv)} {pos : Pos}
theorem ea_nil : PAv X fr [] nilF := weakA pa_nil fun σ H Q ⟨env, G, h, w⟩ => w H G [] h .refl trivial
theorem ea_cons (he : PEv X fr e F) (hr : PAv X fr es Fs) (hs : starEach (e :: es) X.env = (false, eval e X.env) :: starEach es X.env := by rfl) : PAv X fr (e :: es) (consF F Fs) :=
  weakA (pa_cons he hr hs) fun σ H Q ⟨env, G, h, w⟩ => by
    unfold consF at w
    refine tE_then h w (fun r1 env1 H1 G1 v1 h1 s1 q1 w1 => ?_) fun c e1 E1 H1 G1 h1 s1 => E1 H1 G1 h1 s1
    obtain ⟨G1', h1', s1', q1'⟩ := hold_ok' h1 q1
    refine tA_then h1' w1 (fun rs env2 H2 G2 vs h2 s2 q2 w2 => ?_) fun c e1 E1 H2 G2 h2 s2 => E1 H2 G2 h2 ((s1.trans s1').trans s2)
    exact w2 H2 G2 _ h2 ((s1.trans s1').trans s2) (rvsOk_cons.mpr ⟨q1'.mono s2, q2⟩)
theorem ev_tup {x1 : Nat} (h : PAv X fr es Fs) : PEv X fr (.Tuple es x1 pos) (tupF Fs) :=
  weakE (pe_tup h) fun σ H Q ⟨env, G, h, w⟩ => by
    unfold tupF at w
    refine tA_then h w (fun rs env1 H1 G1 vs h1 s1 q1 w1 => ?_) fun c e1 E1 H1 G1 h1 s1 => E1 H1 G1 h1 s1
    obtain ⟨ds, env2, G2, h2, s2, d2, w2⟩ := forces_ok h1 q1 (wpM_bind.mp w1)
    split at w2
    · rename_i hz
      refine ⟨by rw [d2.length]; exact hz, fun p hp => ?_⟩
      have := rvTup h2.sub hp d2
      exact w2 _ _ _ (h2.stp this.1) ((s1.trans s2).trans this.1.mono) (this.2.ok h2)
    · exact w2.elim
theorem ev_lst (h : PAv X fr es Fs) : PEv X fr (.List es pos) (lstF Fs) :=
  weakE (pe_lst h) fun σ H Q ⟨env, G, h, w⟩ => by
    unfold lstF at w
    refine tA_then h w (fun rs env1 H1 G1 vs h1 s1 q1 w1 => ?_) fun c e1 E1 H1 G1 h1 s1 => E1 H1 G1 h1 s1
    obtain ⟨ds, env2, G2, h2, s2, d2, w2⟩ := forces_ok h1 q1 (wpM_bind.mp w1)
    split at w2
    · rename_i hz
      refine ⟨by rw [d2.length]; exact hz, fun p hp => ?_⟩
      have := rvFresh h2.sub hp d2
      exact w2 _ _ _ (h2.stp this.1) ((s1.trans s2).trans this.1.mono) (this.2.ok h2)
    · exact w2.elim
end

/-! ### items, slices, minus -/
@[simp] def itemG : PyData → PyData → Option Rv
  | .tuple ds, .int i => (atI ds i).map .sh
  | .list ds, .int i => (atI ds i).map .sh
  | .dict [(.none, .list ds)], .int i => (atI ds i).map .sh
  | .str x, .int i => if x.length ≤ sizeLine then (atI x.cps.toList i).map fun c => .sh (.str ⟨#[c]⟩) else none
  | _, _ => none
@[simp] def negG : PyData → Option Rv
  | .int i => some (.sh (.int (-i)))
  | _ => none
def unF (g : PyData → Option Rv) (F : Mo Rv) : Mo Rv := do
  let r ← F
  let d ← peek r
  liftO (g d)
theorem atI_dq {K : PySem.W.Frag} {G : Hp} {xs : List V} {ds : List PyData} {i : Int} {d : PyData} (h : DqAll K G xs ds) (e : atI ds i = some d) : ∃ v, atI xs i = some v ∧ Dq K G v d := by
  unfold atI at e ⊢
  rw [h.length]
  cases q : ixN ds.length i with
  | none => rw [q] at e; cases e
  | some j =>
    rw [q] at e
    exact h.get e
section
variable {X : Cx} {fr : Fr} {a b : Expr} {Fa Fb : Mo Rv} {pos : Pos}
theorem ev_ix (ha : PEv X fr a Fa) (hb : PEv X fr b Fb) (hs : PlainIx b := by exact fun _ _ => rfl) : PEv X fr (.Subscript a b pos) (binF itemG Fa Fb) := by
  refine weakE (pe_ix ix_seq ha hb hs) (bin_reads fun x y H G d1 d2 res Q s p1 p2 e q => ?_)
  cases d2 with
  | int i =>
    cases d1 with
    | tuple ds =>
      obtain ⟨p, xs, rfl, h1, h2⟩ := dq_tup p1
      simp only [itemG, Option.map_eq_some_iff] at e
      obtain ⟨d, e1, rfl⟩ := e
      obtain ⟨v, e2, hv⟩ := atI_dq h2 e1
      exact .inr (.inl ⟨p, xs, i, v, rfl, dq_int p2, s.sqT h1, e2, q H G v (.refl s) hv⟩)
    | list ds =>
      obtain ⟨p, xs, rfl, h1, h2⟩ := p1
      simp only [itemG, Option.map_eq_some_iff] at e
      obtain ⟨d, e1, rfl⟩ := e
      obtain ⟨v, e2, hv⟩ := atI_dq h2 e1
      exact .inl ⟨p, xs, i, v, rfl, dq_int p2, .of h1, e2, q H G v (.refl s) hv⟩
    | dict kvs =>
      cases (show Dq X.K G x (.dict kvs) from p1) with
      | scr h1 h2 =>
        simp only [itemG, Option.map_eq_some_iff] at e
        obtain ⟨d, e1, rfl⟩ := e
        obtain ⟨v, e2, hv⟩ := atI_dq h2 e1
        exact .inl ⟨_, _, i, v, rfl, dq_int p2, s.sqL h1, e2, q H G v (.refl s) hv⟩
    | str z =>
      simp only [itemG] at e
      split at e
      · rename_i hz
        simp only [Option.map_eq_some_iff] at e
        obtain ⟨c, e1, rfl⟩ := e
        exact .inr (.inr ⟨z, i, c, dq_str p1, dq_int p2, hz, e1, q H G _ (.refl s) (.str _)⟩)
      · cases e
    | _ => cases e
  | _ => cases d1 <;> simp [itemG] at e
theorem ev_neg (ha : PEv X fr a Fa) : PEv X fr (.UnaryOp .USub a pos) (unF negG Fa) :=
  weakE (pe_un un_neg ha) fun σ H Q ⟨env, G, h, w⟩ => by
    unfold unF at w
    refine tE_then h w (fun r1 env1 H1 G1 v1 h1 s1 q1 w1 => ?_) fun c e1 E1 H1 G1 h1 s1 => E1 H1 G1 h1 s1
    obtain ⟨d, p, w2⟩ := peek_ok h1 q1 (wpM_bind.mp w1)
    obtain ⟨res, e, qf⟩ := wpM_lift w2
    cases d <;> simp [negG] at e
    subst e
    exact ⟨_, dq_int p, qf H1 G1 _ h1 s1 (.int _)⟩
end
/-- a slice's part -/
@[simp] def partF : Option (Mo Rv) → Mo (Option Int)
  | none => pure none
  | some F => do
    let r ← F
    match r with
    | .sh (.int i) => pure (some i)
    | _ => stuckM
def cutD (ds : List PyData) (lo hi : Option Int) : List PyData := (ds.drop (HT.sIx ds.length 0 lo)).take (HT.sIx ds.length ds.length hi - HT.sIx ds.length 0 lo)
@[simp] def sliceG (lo hi : Option Int) : PyData → Option Rv
  | .tuple ds => some (.sh (.tuple (cutD ds lo hi)))
  | .list ds => some (.fr (cutD ds lo hi))
  | .dict [(.none, .list ds)] => some (.fr (cutD ds lo hi))
  | _ => none
def sliceF (F : Mo Rv) (lo hi : Option (Mo Rv)) : Mo Rv := do
  let r ← F
  let l ← partF lo
  let h ← partF hi
  let d ← peek (hold r)
  liftO (sliceG l h d)
theorem cut_dq {K : PySem.W.Frag} {G : Hp} {xs : List V} {ds : List PyData} (h : DqAll K G xs ds) (lo hi : Option Int) : DqAll K G (cutV xs lo hi) (cutD ds lo hi) := by
  unfold cutV cutD
  rw [h.length]
  exact (h.drop _).take _
section
variable {X : Cx} {fr : Fr} {a : Expr} {Fa : Mo Rv} {pos p2 : Pos}
def POv (X : Cx) (fr : Fr) (e : Option Expr) (F : Option (Mo Rv)) : Prop := PO X e fun σ H Q => ∃ env G, SR X.K fr env σ H G ∧
  wpM (partF F) env (fun o env' => ∀ H' G', SR X.K fr env' σ H' G' → Sub G G' → Q o H') (fun c env' => ∀ H' G', SR X.K fr env' σ H' G' → Sub G G' → fr.W c H')
theorem eo_none : POv X fr none none := ⟨fun pins s σ H Q I ⟨env, G, h, w⟩ => po_none.run pins s σ H Q I (w H G h .refl)⟩
theorem eo_some (ha : PEv X fr a Fa) : POv X fr (some a) (some Fa) := ⟨fun pins s σ H Q I ⟨env, G, h, w⟩ => (po_some ha).run pins s σ H Q I (by
  unfold partF at w
  refine tE_then h w (fun r1 env1 H1 G1 v1 h1 s1 q1 w1 => ?_) fun c e1 E1 H1 G1 h1 s1 => E1 H1 G1 h1 s1
  cases r1 with
  | sh d =>
    cases d with
    | int i => exact ⟨i, dq_int q1, w1 H1 G1 h1 s1⟩
    | _ => exact w1.elim
  | _ => exact w1.elim)⟩
theorem ev_slice {lo hi : Option Expr} {Fl Fh : Option (Mo Rv)} (ha : PEv X fr a Fa) (hl : POv X fr lo Fl) (hh : POv X fr hi Fh) : PEv X fr (.Subscript a (.Slice lo hi none p2) pos) (sliceF Fa Fl Fh) := by
  refine weakE (pe_slice (sl_tupA.or sl_list) ha hl hh) fun σ H Q ⟨env, G, h, w⟩ => ?_
  unfold sliceF at w
  refine tE_then h w (fun r1 env1 H1 G1 v1 h1 s1 q1 w1 => ?_) fun c e1 E1 H1 G1 h1 s1 => E1 H1 G1 h1 s1
  obtain ⟨G1', h1', s1', q1'⟩ := hold_ok' h1 q1
  have sA := s1.trans s1'
  refine ⟨env1, G1', h1', wpM_mono (wpM_bind.mp w1) (fun l env2 w2 H2 G2 h2 s2 => ?_) fun c e' E' H2 G2 h2 s2 => E' H2 G2 h2 (sA.trans s2)⟩
  refine ⟨env2, G2, h2, wpM_mono (wpM_bind.mp w2) (fun u env3 w3 H3 G3 h3 s3 => ?_) fun c e' E' H3 G3 h3 s3 => E' H3 G3 h3 ((sA.trans s2).trans s3)⟩
  obtain ⟨d, p, w4⟩ := peek_ok h3 (HeldOk.ok ((q1'.mono s2).mono s3)) (wpM_bind.mp w3)
  obtain ⟨res, e, qf⟩ := wpM_lift w4
  have sB := (sA.trans s2).trans s3
  have fin : ∀ H' G' z, Stp H3 G3 H' G' → RvNew X.K H3 H' G' z res → Q z H' := fun H' G' z st rn => qf H' G' z (h3.stp st) (sB.trans st.mono) (rn.ok h3)
  cases d with
  | tuple ds =>
    obtain ⟨b, xs, rfl, k1, k2⟩ := dq_tup p
    simp only [sliceG, Option.some.injEq] at e
    subst e
    refine .inl ⟨b, xs, rfl, h3.sub.sqT k1, fun hw => ?_, fun hw q hq => ?_⟩
    · have e : cutD ds l u = ds := by
        unfold cutD
        rw [← k2.length, hw.1, hw.2]
        simp [k2.length]
      rw [e] at fin
      exact fin H3 G3 _ (.refl h3.sub) (.tup k1 k2)
    · have := rvTup h3.sub hq (cut_dq k2 l u)
      exact fin _ _ _ this.1 this.2
  | list ds =>
    obtain ⟨b, xs, rfl, k1, k2⟩ := p
    simp only [sliceG, Option.some.injEq] at e
    subst e
    refine .inr ⟨b, xs, rfl, .of k1, fun q hq => ?_⟩
    have := rvFresh h3.sub hq (cut_dq k2 l u)
    exact fin _ _ _ this.1 this.2
  | dict kvs =>
    cases (show Dq X.K G3 v1 (.dict kvs) from p) with
    | scr k1 k2 =>
      simp only [sliceG, Option.some.injEq] at e
      subst e
      refine .inr ⟨_, _, rfl, h3.sub.sqL k1, fun q hq => ?_⟩
      have := rvFresh h3.sub hq (cut_dq k2 l u)
      exact fin _ _ _ this.1 this.2
  | _ => cases e
end

/-! ### calls of built-ins -/
def OpN (X : Cx) (f : Value) (g : List PyData → Option Rv) : Prop :=
  ∃ r : List V → Hp → VK → Prop, CallR X f r ∧ ∀ vs H G ds res Q, Sub G H → Pks X.K H G vs ds → g ds = some res →
    (∀ H' G' z, Stp H G H' G' → RvNew X.K H H' G' z res → Q z H') → r vs H Q
def callBF (g : List PyData → Option Rv) (Fs : Mo (List Rv)) : Mo Rv := do
  let rs ← Fs
  let ds ← peeks rs
  liftO (g ds)
section
variable {X : Cx} {fr : Fr} {e : Expr} {es : List Expr} {Fs : Mo (List Rv)} {x : Str} {p pos : Pos} {id T : String} {g : List PyData → Option Rv}
theorem callB_reads {r : List V → Hp → VK → Prop} (hg : ∀ vs H G ds res Q, Sub G H → Pks X.K H G vs ds → g ds = some res → (∀ H' G' z, Stp H G H' G' → RvNew X.K H H' G' z res → Q z H') → r vs H Q) :
    ∀ σ H Q, tE X.K fr (callBF g Fs) σ H Q → tCB r (tA X.K fr Fs) σ H Q := fun σ H Q ⟨env, G, h, w⟩ => by
  unfold callBF at w
  refine tA_then h w (fun rs env1 H1 G1 vs h1 s1 q1 w1 => ?_) fun c e1 E1 H1 G1 h1 s1 => E1 H1 G1 h1 s1
  obtain ⟨ds, p1, w2⟩ := peeks_ok h1 q1 (wpM_bind.mp w1)
  obtain ⟨res, e, qf⟩ := wpM_lift w2
  exact hg vs H1 G1 ds res Q h1.sub p1 e fun H' G' z st rn => qf H' G' z (h1.stp st) (s1.trans st.mono) (rn.ok h1)
theorem ev_callB (hc : OpN X (.builtin id) g) (hg : Gl X x) (hm : X.mg x = none) (hv : bootBuiltins x = some (.builtin id)) (ha : PAv X fr (e :: es) Fs) (hn : x ≠ "__name__" := by decide) (hdb : (x == ("__debug__" : Str)) = false := by decide)
    (he : starEach (e :: es) X.env = (false, eval e X.env) :: starEach es X.env := by rfl) (hpl : (backTo pos (starEach es X.env)).any (·.1) = false := by rfl) : PEv X fr (.Call (.Name x p) (e :: es) [] pos) (callBF g Fs) :=
  let ⟨_, hr, hq⟩ := hc
  weakE (pe_callB hr hg hm hv ha hn hdb he hpl) (callB_reads hq)
theorem ev_callTy (hc : OpN X (.type T) g) (hg : Gl X x) (hm : X.mg x = none) (hv : bootBuiltins x = some (.type T)) (ha : PAv X fr (e :: es) Fs) (hn : x ≠ "__name__" := by decide) (hdb : (x == ("__debug__" : Str)) = false := by decide)
    (he : starEach (e :: es) X.env = (false, eval e X.env) :: starEach es X.env := by rfl) (hpl : (backTo pos (starEach es X.env)).any (·.1) = false := by rfl) : PEv X fr (.Call (.Name x p) (e :: es) [] pos) (callBF g Fs) :=
  let ⟨_, hr, hq⟩ := hc
  weakE (pe_callTy hr hg hm hv ha hn hdb he hpl) (callB_reads hq)
end
end Cf
/-! Cf, part E: built-ins. -/
namespace Cf
open PySem PySem.Spec PyProof.Rows L2

@[simp] def lenG : List PyData → Option Rv
  | [.tuple ds] => some (.sh (.int ds.length))
  | [.list ds] => some (.sh (.int ds.length))
  | [.dict [(.none, .list ds)]] => some (.sh (.int ds.length))
  | [.str x] => if x.length ≤ sizeLine then some (.sh (.int x.length)) else none
  | _ => none
@[simp] def absG : List PyData → Option Rv
  | [.int i] => some (.sh (.int (i.natAbs : Int)))
  | _ => none
@[simp] def min2G : List PyData → Option Rv
  | [.int i, .int j] => some (.sh (.int (min i j)))
  | _ => none
@[simp] def max2G : List PyData → Option Rv
  | [.int i, .int j] => some (.sh (.int (max i j)))
  | _ => none
@[simp] def intG : List PyData → Option Rv
  | [.int i] => some (.sh (.int i))
  | [.bool b] => some (.sh (.int (if b then 1 else 0)))
  | _ => none
@[simp] def listG : List PyData → Option Rv
  | [.tuple ds] => some (.fr ds)
  | [.list ds] => some (.fr ds)
  | _ => none
@[simp] def tupleG : List PyData → Option Rv
  | [.tuple ds] => some (.sh (.tuple ds))
  | [.list ds] => some (.sh (.tuple ds))
  | _ => none
section
variable {K : PySem.W.Frag} {H G : Hp}
theorem pks1 {vs : List V} {d : PyData} (h : Pks K H G vs [d]) : ∃ v, vs = [v] ∧ Pk K H G v d := by
  match vs, h with
  | [v], h => exact ⟨v, rfl, h.1⟩
  | [], h => exact h.elim
  | _ :: _ :: _, h => exact h.2.elim
theorem pks2 {vs : List V} {d e : PyData} (h : Pks K H G vs [d, e]) : ∃ v u, vs = [v, u] ∧ Pk K H G v d ∧ Pk K H G u e := by
  match vs, h with
  | [v, u], h => exact ⟨v, u, rfl, h.1, h.2.1⟩
  | [], h => exact h.elim
  | [_], h => exact h.2.elim
  | _ :: _ :: _ :: _, h => exact h.2.2.elim
end
section
variable {X : Cx}
theorem opN_len : OpN X (.builtin "len") lenG := by
  refine ⟨_, call_len_seq.or call_len_str, fun vs H G ds res Q s p e q => ?_⟩
  match ds, e with
  | [.tuple ds], e =>
    cases e
    obtain ⟨v, rfl, p1⟩ := pks1 p
    obtain ⟨a, xs, rfl, h1, h2⟩ := dq_tup p1
    exact .inl ⟨a, xs, rfl, .inr (s.sqT h1), by rw [h2.length]; exact q H G _ (.refl s) (.int _)⟩
  | [.list ds], e =>
    cases e
    obtain ⟨v, rfl, p1⟩ := pks1 p
    obtain ⟨a, xs, rfl, h1, h2⟩ := p1
    exact .inl ⟨a, xs, rfl, .inl (.of h1), by rw [h2.length]; exact q H G _ (.refl s) (.int _)⟩
  | [.dict [(.none, .list ds)]], e =>
    cases e
    obtain ⟨v, rfl, p1⟩ := pks1 p
    cases (show Dq X.K G v _ from p1) with
    | scr h1 h2 => exact .inl ⟨_, _, rfl, .inl (s.sqL h1), by rw [h2.length]; exact q H G _ (.refl s) (.int _)⟩
  | [.str x], e =>
    simp only [lenG] at e
    split at e
    · rename_i hz
      cases e
      obtain ⟨v, rfl, p1⟩ := pks1 p
      exact .inr ⟨x, by rw [dq_str p1], hz, q H G _ (.refl s) (.int _)⟩
    · cases e
theorem opN_abs : OpN X (.builtin "abs") absG := by
  refine ⟨_, call_abs, fun vs H G ds res Q s p e q => ?_⟩
  match ds, e with
  | [.int i], e =>
    cases e
    obtain ⟨v, rfl, p1⟩ := pks1 p
    refine ⟨i, by rw [dq_int p1], ?_⟩
    have z : (if i < 0 then -i else i) = (i.natAbs : Int) := by split <;> omega
    rw [z]
    exact q H G _ (.refl s) (.int _)
theorem opN_min2 (hc : X.calm = true) : OpN X (.builtin "min") min2G := by
  refine ⟨_, call_min2 hc, fun vs H G ds res Q s p e q => ?_⟩
  match ds, e with
  | [.int i, .int j], e =>
    cases e
    obtain ⟨v, u, rfl, p1, p2⟩ := pks2 p
    refine ⟨i, j, by rw [dq_int p1, dq_int p2], ?_⟩
    have z : (if j < i then j else i) = min i j := by omega
    rw [z]
    exact q H G _ (.refl s) (.int _)
theorem opN_max2 (hc : X.calm = true) : OpN X (.builtin "max") max2G := by
  refine ⟨_, call_max2 hc, fun vs H G ds res Q s p e q => ?_⟩
  match ds, e with
  | [.int i, .int j], e =>
    cases e
    obtain ⟨v, u, rfl, p1, p2⟩ := pks2 p
    refine ⟨i, j, by rw [dq_int p1, dq_int p2], ?_⟩
    have z : (if j > i then j else i) = max i j := by omega
    rw [z]
    exact q H G _ (.refl s) (.int _)
theorem opN_int : OpN X (.type "int") intG := by
  refine ⟨_, call_int1, fun vs H G ds res Q s p e q => ?_⟩
  match ds, e with
  | [.int i], e =>
    cases e
    obtain ⟨v, rfl, p1⟩ := pks1 p
    exact .inl ⟨i, by rw [dq_int p1], q H G _ (.refl s) (.int _)⟩
  | [.bool b], e =>
    cases e
    obtain ⟨v, rfl, p1⟩ := pks1 p
    exact .inr ⟨b, by rw [dq_bl p1], q H G _ (.refl s) (.int _)⟩
theorem opN_list : OpN X (.type "list") listG := by
  refine ⟨_, call_list_of, fun vs H G ds res Q s p e q => ?_⟩
  match ds, e with
  | [.tuple ds], e =>
    cases e
    obtain ⟨v, rfl, p1⟩ := pks1 p
    obtain ⟨a, xs, rfl, h1, h2⟩ := dq_tup p1
    refine ⟨a, xs, rfl, .inr (s.sqT h1), fun l hl => ?_⟩
    have := rvFresh s hl h2
    exact q _ _ _ this.1 this.2
  | [.list ds], e =>
    cases e
    obtain ⟨v, rfl, p1⟩ := pks1 p
    obtain ⟨a, xs, rfl, h1, h2⟩ := p1
    refine ⟨a, xs, rfl, .inl (.of h1), fun l hl => ?_⟩
    have := rvFresh s hl h2
    exact q _ _ _ this.1 this.2
theorem opN_tuple : OpN X (.type "tuple") tupleG := by
  refine ⟨_, call_tuple_of, fun vs H G ds res Q s p e q => ?_⟩
  match ds, e with
  | [.tuple ds], e =>
    cases e
    obtain ⟨v, rfl, p1⟩ := pks1 p
    obtain ⟨a, xs, rfl, h1, h2⟩ := dq_tup p1
    exact ⟨a, xs, rfl, .inr ⟨s.sqT h1, q H G _ (.refl s) (.tup h1 h2)⟩⟩
  | [.list ds], e =>
    cases e
    obtain ⟨v, rfl, p1⟩ := pks1 p
    obtain ⟨a, xs, rfl, h1, h2⟩ := p1
    refine ⟨a, xs, rfl, .inl ⟨.of h1, fun l hl => ?_⟩⟩
    have := rvTup s hl h2
    exact q _ _ _ this.1 this.2
end

/-! ### isinstance -/
@[simp] def tyName : PyData → String
  | .none => "NoneType"
  | .bool _ => "bool"
  | .int _ => "int"
  | .str _ => "str"
  | .list _ => "list"
  | .tuple _ => "tuple"
  | .dict _ => "list"
@[simp] def isTy (T : String) (d : PyData) : Bool := tyName d == T || (T == "int" && tyName d == "bool")
theorem kit_isTy {T : String} (h : T ∈ ["int", "bool", "str", "list", "tuple"]) (d : PyData) : kitB (tyName d) T = some (isTy T d) := by
  simp only [List.mem_cons, List.not_mem_nil, or_false] at h
  rcases h with rfl | rfl | rfl | rfl | rfl <;> cases d <;> (simp only [isTy, tyName]; decide +kernel)
theorem ty_pk {K : PySem.W.Frag} {H G : Hp} {v : V} {d : PyData} (s : Sub G H) (h : Pk K H G v d) : TyX K H v (.type (tyName d)) := by
  cases d with
  | none => cases dq_non h; exact .base .non
  | bool b => cases dq_bl h; exact .base (.bl b)
  | int b => cases dq_int h; exact .base (.int b)
  | str b => cases dq_str h; exact .base (.str b)
  | list ds => obtain ⟨a, xs, rfl, h1, _⟩ := h; exact .base (.lst h1)
  | tuple ds =>
    obtain ⟨a, xs, rfl, h1, _⟩ := dq_tup h
    rcases s.sqT h1 with (h1 | ⟨o, h1⟩) | ⟨o, its, n, h1, h2, _⟩
    · exact .base (.tup h1)
    · exact .fTuple h1
    · exact .kTuple h1 h2
  | dict kvs =>
    cases (show Dq K G v (.dict kvs) from h) with
    | scr h1 h2 =>
      rcases s.sqL h1 with (h1 | ⟨o, h1⟩) | ⟨o, its, n, h1, h2, _⟩
      · exact .base (.lst h1)
      · exact .base (.frz h1)
      · exact .kList h1 h2
def isF (T : String) (F : Mo Rv) : Mo Bool := do
  let r ← F
  let d ← peek r
  pure (isTy T d)
section
variable {X : Cx} {fr : Fr} {e : Expr} {F : Mo Rv} {p pt pos : Pos} {x : Str} {T : String}
theorem eb_is (hT : T ∈ ["int", "bool", "str", "list", "tuple"]) (hg : Gl X "isinstance") (hm : X.mg "isinstance" = none) (hgT : Gl X x) (hmT : X.mg x = none) (hv : bootBuiltins x = some (.type T)) (he : PEv X fr e F)
    (hs : starEach [e, .Name x pt] X.env = (false, eval e X.env) :: starEach [.Name x pt] X.env := by rfl) (hs1 : starEach [.Name x pt] X.env = (false, eval (.Name x pt) X.env) :: starEach [] X.env := by rfl)
    (hpl : (backTo pos (starEach [.Name x pt] X.env)).any (·.1) = false := by rfl) (hn : x ≠ "__name__" := by decide) (hd : (x == ("__debug__" : Str)) = false := by decide) (hvi : bootBuiltins "isinstance" = some (.builtin "isinstance") := by decide +kernel) :
    PBv X fr (.Call (.Name "isinstance" p) [e, .Name x pt] [] pos) (isF T F) :=
  weakE (pe_callB call_isi hg hm hvi (pa_cons he (pa_cons (pe_bltn (v := .ty T) hgT hmT hv rfl hn hd) pa_nil hs1) hs) (by decide) (by decide) hs hpl) fun σ H Q ⟨env, G, h, w⟩ => by
    unfold ofB isF at w
    rw [wpM_bind, wpM_bind] at w
    refine ⟨env, G, h, wpM_mono w (fun r env1 w1 H1 G1 v h1 s1 q1 => ?_) fun c e1 E1 H1 G1 h1 s1 => E1 H1 G1 h1 s1⟩
    obtain ⟨d, p1, w2⟩ := peek_ok h1 q1 (wpM_bind.mp w1)
    exact ⟨v, .ty T, .type (tyName d), .type T, isTy T d, rfl, .ty T, ty_pk h1.sub p1, kit_ty (kit_isTy hT d), w2 H1 G1 _ h1 s1 (.bl _)⟩
end
end Cf
/-! Cf, part F: slots that change, statements. -/
namespace Cf
open PySem PySem.Spec PyProof.Rows L2

section
variable {K : PySem.W.Frag} {fr : Fr} {env : Fv} {σ : L2.St} {H G : Hp} {i : Nat}
/-- a slot takes a datum that stands still -/
theorem SR.setSh (h : SR K fr env σ H G) {v : V} {d : PyData} (q : Dq K G v d) : SR K fr (env.set i (.sh d)) (σ.set i (some v)) H G := by
  have hlen := h.len
  refine ⟨h.sub, h.prot, h.dj, h.tab, h.pt, h.lent, by simpa using h.len, fun j sl e => ?_, fun j k t t' es es' b hjk ej ek => ?_⟩
  · by_cases hj : j = i
    · subst hj
      by_cases hl : j < env.length
      · rw [List.getElem?_set_self hl] at e
        cases e
        rw [List.getElem?_set_self (by omega)]
        exact ⟨v, rfl, q⟩
      · rw [List.getElem?_eq_none (by simpa using hl)] at e; cases e
    · rw [List.getElem?_set_ne (Ne.symm hj)] at e ⊢
      exact h.slots j sl e
  · have n : ∀ (m : Nat) (t : Option Nat) (es : List PyData), (env.set i (.sh d))[m]? = some (.own t es) → m ≠ i ∧ env[m]? = some (.own t es) := fun m t es e => by
      by_cases hm : m = i
      · subst hm
        by_cases hl : m < env.length
        · rw [List.getElem?_set_self hl] at e; cases e
        · rw [List.getElem?_eq_none (by simpa using hl)] at e; cases e
      · rw [List.getElem?_set_ne (Ne.symm hm)] at e; exact ⟨hm, e⟩
    obtain ⟨n1, e1⟩ := n _ _ _ ej
    obtain ⟨n2, e2⟩ := n _ _ _ ek
    rw [List.getElem?_set_ne (Ne.symm n1), List.getElem?_set_ne (Ne.symm n2)]
    exact h.dist j k t t' es es' b hjk e1 e2
/-- a slot takes a new list -/
theorem SR.setOwn (h : SR K fr env σ H G) {v : V} {ds : List PyData} (q : RvOk K fr env σ H G v (.fr ds)) : SR K fr (env.set i (.own none ds)) (σ.set i (some v)) H G := by
  obtain ⟨a, xs, rfl, k1, k2, k3, k4, k5, k6⟩ := q
  have hlen := h.len
  have n : ∀ (m : Nat) (t : Option Nat) (es : List PyData), (env.set i (.own none ds))[m]? = some (.own t es) → m = i ∧ m < env.length ∨ m ≠ i ∧ env[m]? = some (.own t es) := fun m t es e => by
    by_cases hm : m = i
    · subst hm
      by_cases hl : m < env.length
      · exact .inl ⟨rfl, hl⟩
      · rw [List.getElem?_eq_none (by simpa using hl)] at e; cases e
    · rw [List.getElem?_set_ne (Ne.symm hm)] at e; exact .inr ⟨hm, e⟩
  refine ⟨h.sub, h.prot, h.dj, h.tab, h.pt, h.lent, by simpa using h.len, fun j sl e => ?_, fun j k t t' es es' b hjk ej ek => ?_⟩
  · by_cases hj : j = i
    · subst hj
      by_cases hl : j < env.length
      · rw [List.getElem?_set_self hl] at e
        cases e
        rw [List.getElem?_set_self (by omega)]
        exact ⟨a, xs, rfl, k1, k2, k3, k4, k5⟩
      · rw [List.getElem?_eq_none (by simpa using hl)] at e; cases e
    · rw [List.getElem?_set_ne (Ne.symm hj)] at e ⊢
      exact h.slots j sl e
  · rcases n _ _ _ ej with ⟨rfl, l1⟩ | ⟨n1, e1⟩
    · rcases n _ _ _ ek with ⟨rfl, l2⟩ | ⟨n2, e2⟩
      · exact absurd rfl hjk
      · rw [List.getElem?_set_self (by omega), List.getElem?_set_ne (Ne.symm n2)]
        intro z
        cases z
        exact k6 _ _ _ e2
    · rcases n _ _ _ ek with ⟨rfl, l2⟩ | ⟨n2, e2⟩
      · rw [List.getElem?_set_ne (Ne.symm n1), List.getElem?_set_self (by omega)]
        intro z y
        cases y
        exact k6 _ _ _ e1 z
      · rw [List.getElem?_set_ne (Ne.symm n1), List.getElem?_set_ne (Ne.symm n2)]
        exact h.dist j k t t' es es' b hjk e1 e2
/-- a slot's own list is changed -/
theorem SR.write (h : SR K fr env σ H G) {t : Option Nat} {ds ds' : List PyData} {a : Addr} {xs' : List V} (e : env[i]? = some (.own t ds)) (ha : σ[i]? = some (some (.ref a))) (q : DqAll K G xs' ds') :
    SR K fr (env.set i (.own t ds')) σ (upd H a (.lst xs')) G := by
  obtain ⟨a', xs, e1, k1, k2, k3, k4, k5⟩ := h.ownAt e
  rw [ha] at e1
  cases e1
  have hi : i < env.length := (List.getElem?_eq_some_iff.mp e).1
  have n : ∀ (m : Nat) (t1 : Option Nat) (es : List PyData), (env.set i (.own t ds'))[m]? = some (.own t1 es) → ∃ t2 es2, env[m]? = some (.own t2 es2) := fun m t1 es em => by
    by_cases hm : m = i
    · subst hm; exact ⟨_, _, e⟩
    · rw [List.getElem?_set_ne (Ne.symm hm)] at em; exact ⟨_, _, em⟩
  refine ⟨fun b o q => ?_, fun b o q => ?_, h.dj, fun P hP => ?_, h.pt, fun b hb => ?_, by simpa using h.len, fun j sl ej => ?_, fun j k t1 t2 es es' b hjk ej ek => ?_⟩
  · rw [upd_ne (ne_of_none q k3)]; exact h.sub b o q
  · rw [upd_ne (ne_of_none q k4)]; exact h.prot b o q
  · obtain ⟨⟨ps, e2, r⟩, g⟩ := h.tab P hP
    have : P ≠ a := fun z => by rw [z, k1] at e2; cases e2
    exact ⟨⟨ps, by rw [upd_ne this]; exact e2, r⟩, g⟩
  · by_cases hb' : b = a
    · rw [hb', upd_same]; simp
    · rw [upd_ne hb']; exact h.lent b hb
  · by_cases hj : j = i
    · subst hj
      rw [List.getElem?_set_self hi] at ej
      cases ej
      exact ⟨a, xs', by rw [ha]; rfl, upd_same, q, k3, k4, k5⟩
    · rw [List.getElem?_set_ne (Ne.symm hj)] at ej
      have z := h.slots j sl ej
      cases sl with
      | un => trivial
      | sh d => exact z
      | own t1 es =>
        obtain ⟨b, ys, e1, m1, m2⟩ := h.ownAt ej
        have hb : b ≠ a := fun z => h.dist i j t t1 ds es a (Ne.symm hj) e ej ha (by rw [← z]; exact e1)
        exact ⟨b, ys, by rw [e1]; rfl, by rw [upd_ne hb]; exact m1, m2⟩
  · obtain ⟨t3, es3, e3⟩ := n _ _ _ ej
    obtain ⟨t4, es4, e4⟩ := n _ _ _ ek
    exact h.dist j k t3 t4 es3 es4 b hjk e3 e4
end

/-! ### changing a list of our own -/
def getOwn (i : Nat) : Mo (List PyData) := fun e => match e[i]? with
  | some (.own _ ds) => .ok ds e
  | _ => .stuck
def putOwn (i : Nat) (ds : List PyData) : Mo Unit := fun e => match e[i]? with
  | some (.own t _) => .ok () (e.set i (.own t ds))
  | _ => .stuck
def needOwn (i : Nat) : Mo Unit := fun e => match e[i]? with
  | some (.own _ _) => .ok () e
  | _ => .stuck
/-- x.append(e) -/
def appendF (i : Nat) (F : Mo Rv) : Mo Rv := do
  needOwn i
  let r ← F
  let d ← force r
  let ds ← getOwn i
  if ds.length < sizeLine then do
    putOwn i (ds ++ [d])
    pure (.sh .none)
  else stuckM
/-- x.pop() -/
def popF (i : Nat) : Mo Rv := do
  let ds ← getOwn i
  match ds.getLast? with
  | some d => do
    putOwn i ds.dropLast
    pure (.sh d)
  | none => stuckM
section
variable {X : Cx} {fr : Fr}
theorem wpM_own {α : Type} {i : Nat} {m : List PyData → Mo α} {env : Fv} {Q : α → Fv → Prop} {E : Nat → Fv → Prop} (w : wpM (getOwn i >>= m) env Q E) : ∃ t ds, env[i]? = some (.own t ds) ∧ wpM (m ds) env Q E := by
  rw [wpM_bind] at w
  unfold wpM getOwn at w
  cases e : env[i]? with
  | none => simp [e] at w
  | some sl =>
    cases sl with
    | un => simp [e] at w
    | sh d => simp [e] at w
    | own t ds =>
      simp only [e] at w
      exact ⟨t, ds, rfl, w⟩
theorem wpM_need {α : Type} {i : Nat} {m : Mo α} {env : Fv} {Q : α → Fv → Prop} {E : Nat → Fv → Prop} (w : wpM (needOwn i >>= fun _ => m) env Q E) : ∃ t ds, env[i]? = some (.own t ds) ∧ wpM m env Q E := by
  rw [wpM_bind] at w
  unfold wpM needOwn at w
  cases e : env[i]? with
  | none => simp [e] at w
  | some sl =>
    cases sl with
    | un => simp [e] at w
    | sh d => simp [e] at w
    | own t ds =>
      simp only [e] at w
      exact ⟨t, ds, rfl, w⟩
theorem wpM_put {α : Type} {i : Nat} {es : List PyData} {m : Mo α} {env : Fv} {Q : α → Fv → Prop} {E : Nat → Fv → Prop} {t : Option Nat} {ds : List PyData} (he : env[i]? = some (.own t ds)) (w : wpM (putOwn i es >>= fun _ => m) env Q E) : wpM m (env.set i (.own t es)) Q E := by
  rw [wpM_bind] at w
  unfold wpM putOwn at w
  simp only [he] at w
  exact w
variable {o e : Expr} {i : Nat} {F : Mo Rv} {apos cpos : Pos}
theorem tE_read {env : Fv} {G H : Hp} {σ : L2.St} {Q : VK} (h : SR X.K fr env σ H G) {t : Option Nat} {ds : List PyData} (e : env[i]? = some (.own t ds))
    (q : ∀ a H1 G1 xs, SR X.K fr env σ H1 G1 → Sub G G1 → σ[i]? = some (some (.ref a)) → H1 a = some (.lst xs) → DqAll X.K G1 xs ds → Q (.ref a) H1) : tE X.K fr (readF i) σ H Q := by
  refine ⟨env, G, h, ?_⟩
  unfold wpM readF
  simp only [e]
  intro H1 G1 v h1 s1 r
  obtain ⟨a, xs, e1, k1, k2, _⟩ := h1.ownAt e
  have r' : σ[i]? = some (some v) := r
  rw [e1] at r'
  cases r'
  exact q a H1 G1 xs h1 s1 e1 k1 k2
theorem ev_append (ho : PEv X fr o (readF i)) (ha : PEv X fr e F) (hbase : attributeBase o "append" X.env (eval o X.env) = eval o X.env := by rfl)
    (hfew : ((backTo cpos (starEach [e] X.env)).all (fun x => !x.1) && (backToKw cpos (keywordEach [] X.env)).all (fun x => x.1.isSome) && decide ([e].length + ([] : List Keyword).length + (if ([] : List Keyword).isEmpty then 0 else 1) < 30)) = true := by rfl)
    (hline : (apos.endLine == cpos.line) = true := by rfl) (hs : starEach [e] X.env = (false, eval e X.env) :: starEach [] X.env := by rfl) : PEv X fr (.Call (.Attribute o "append" apos) [e] [] cpos) (appendF i F) :=
  weakE (pe_bm PySem.F.plainAttrs_list PySem.F.slot_list_append PySem.F.type_list_append mt_append ho (pa_cons ha pa_nil hs) hbase hfew hline hs rfl) fun σ H Q ⟨env, G, h, w⟩ => by
    unfold appendF at w
    obtain ⟨t, ds, e0, w1⟩ := wpM_need w
    refine tE_read h e0 fun a H1 G1 xs h1 s1 e1 k1 k2 => ⟨.inl ⟨rfl, xs, .of k1⟩, ?_⟩
    refine tE_then h1 w1 (fun r env2 H2 G2 v h2 s2 q2 w2 => ?_) fun c e1 E1 H2 G2 h2 s2 => E1 H2 G2 h2 (s1.trans s2)
    obtain ⟨d, env3, G3, h3, s3, d3, w3⟩ := force_ok h2 q2 (wpM_bind.mp w2)
    obtain ⟨t4, ds4, e4, w4⟩ := wpM_own w3
    obtain ⟨a4, xs4, z4, m1, m2, _⟩ := h3.ownAt e4
    rw [e1] at z4
    cases z4
    split at w4
    · rename_i hz
      have w5 := wpM_put e4 w4
      have h5 := h3.write e4 e1 (m2.append (.cons d3 .nil))
      exact ⟨a, xs4, v, rfl, rfl, m1, by rw [m2.length]; exact hz, w5 _ _ _ h5 ((s1.trans s2).trans s3) .non⟩
    · exact w4.elim
theorem ev_pop (ho : PEv X fr o (readF i)) (hbase : attributeBase o "pop" X.env (eval o X.env) = eval o X.env := by rfl) (hline : (apos.endLine == cpos.line) = true := by rfl) : PEv X fr (.Call (.Attribute o "pop" apos) [] [] cpos) (popF i) :=
  weakE (pe_bm0 PySem.F.plainAttrs_list PySem.F.slot_list_pop PySem.F.type_list_pop mt_pop ho hbase hline) fun σ H Q ⟨env, G, h, w⟩ => by
    unfold popF at w
    obtain ⟨t, ds, e0, w1⟩ := wpM_own w
    refine tE_read h e0 fun a H1 G1 xs h1 s1 e1 k1 k2 => ⟨.inl ⟨rfl, xs, .of k1⟩, ?_⟩
    cases z : ds.getLast? with
    | none => rw [z] at w1; exact w1.elim
    | some d =>
      rw [z] at w1
      have w2 := wpM_put e0 w1
      have zi : ds[ds.length - 1]? = some d := by rw [← List.getLast?_eq_getElem?]; exact z
      obtain ⟨v, y, hv⟩ := k2.get zi
      have hl := k2.length
      rw [← hl] at y
      exact ⟨a, xs, v, rfl, rfl, k1, y, w2 _ _ _ (h1.write e0 e1 k2.dropLast) s1 hv⟩
end

/-! ### statements -/
inductive Out where
  | nx | bk | ct
  | rt (r : Rv)
/-- what is asked behind a statement that began at G -/
def SPost (K : PySem.W.Frag) (fr : Fr) (D : Ends) (G : Hp) (o : Out) (env' : Fv) : Prop := match o with
  | .nx => ∀ σ' H' G', SR K fr env' σ' H' G' → Sub G G' → D.nx σ' H'
  | .bk => ∀ σ' H' G', SR K fr env' σ' H' G' → Sub G G' → D.bk σ' H'
  | .ct => ∀ σ' H' G', SR K fr env' σ' H' G' → Sub G G' → D.ct σ' H'
  | .rt r => ∀ σ' H' G' v, SR K fr env' σ' H' G' → Sub G G' → RvOk K fr env' σ' H' G' v r → D.rt v H'
def SExc (K : PySem.W.Frag) (fr : Fr) (G : Hp) (c : Nat) (env' : Fv) : Prop := ∀ σ' H' G', SR K fr env' σ' H' G' → Sub G G' → fr.W c H'
theorem SPost.mono {K : PySem.W.Frag} {fr : Fr} {D : Ends} {G G1 : Hp} {o : Out} {env' : Fv} (s : Sub G G1) (h : SPost K fr D G o env') : SPost K fr D G1 o env' := by
  cases o with
  | rt r => exact fun σ' H' G' v h1 s1 => h σ' H' G' v h1 (s.trans s1)
  | _ => exact fun σ' H' G' h1 s1 => h σ' H' G' h1 (s.trans s1)
theorem SExc.mono {K : PySem.W.Frag} {fr : Fr} {G G1 : Hp} {c : Nat} {env' : Fv} (s : Sub G G1) (h : SExc K fr G c env') : SExc K fr G1 c env' := fun σ' H' G' h1 s1 => h σ' H' G' h1 (s.trans s1)
def tS (K : PySem.W.Frag) (fr : Fr) (F : Mo Out) : TS := fun D σ H => ∃ env G, SR K fr env σ H G ∧ wpM F env (SPost K fr D G) (SExc K fr G)
theorem tS_of {K : PySem.W.Frag} {fr : Fr} {F : Mo Out} {D : Ends} {σ : L2.St} {H G G1 : Hp} {env : Fv} (h : SR K fr env σ H G1) (s : Sub G G1) (w : wpM F env (SPost K fr D G) (SExc K fr G)) : tS K fr F D σ H :=
  ⟨env, G1, h, wpM_mono w (fun _ _ q => q.mono s) fun _ _ q => q.mono s⟩
def PSv (X : Cx) (fr : Fr) (st : Stmt) (F : Mo Out) : Prop := PS X st (tS X.K fr F)
def PBs (X : Cx) (fr : Fr) (st : List Stmt) (F : Mo Out) : Prop := PSs X st (tS X.K fr F)
theorem weakS {X : Cx} {st : Stmt} {t t' : TS} (h : PS X st t) (w : ∀ D σ H, t' D σ H → t D σ H) : PS X st t' := ⟨fun pins s σ H D I q => h.run pins s σ H D I (w D σ H q)⟩
theorem weakB {X : Cx} {st : List Stmt} {t t' : TS} (h : PSs X st t) (w : ∀ D σ H, t' D σ H → t D σ H) : PSs X st t' := ⟨fun pins s σ H D I q => h.run pins s σ H D I (w D σ H q)⟩
def skipF : Mo Out := pure .nx
def seqF (F1 F2 : Mo Out) : Mo Out := do
  match ← F1 with
  | .nx => F2
  | o => pure o
/-- the slot takes the value -/
def storeF (i : Nat) (r : Rv) : Mo Unit := fun e => match r with
  | .sh d => .ok () (e.set i (.sh d))
  | .fr ds => .ok () (e.set i (.own none ds))
  | .sl j => match e[j]? with
    | some (.sh d) => .ok () (e.set i (.sh d))
    | some (.own none ds) => .ok () ((e.set j (.sh (.list ds))).set i (.sh (.list ds)))
    | _ => .stuck
def setF (i : Nat) (F : Mo Rv) : Mo Out := do
  let r ← F
  storeF i r
  pure .nx
def dropF (F : Mo Rv) : Mo Out := do
  let _ ← F
  pure .nx
def retF (F : Mo Rv) : Mo Out := do
  let r ← F
  pure (.rt r)
section
variable {X : Cx} {fr : Fr} {st : Stmt} {rest : List Stmt} {e : Expr} {F : Mo Rv} {pos : Pos}
theorem store_ok3 {K : PySem.W.Frag} {env : Fv} {σ : L2.St} {H G : Hp} {v : V} {r : Rv} {i : Nat} (h : SR K fr env σ H G) (q : RvOk K fr env σ H G v r) {Q : Unit → Fv → Prop} {E : Nat → Fv → Prop} (w : wpM (storeF i r) env Q E) :
    ∃ env' G', SR K fr env' (σ.set i (some v)) H G' ∧ Sub G G' ∧ Q () env' := by
  cases r with
  | sh d => exact ⟨_, G, h.setSh q, .refl, w⟩
  | fr ds => exact ⟨_, G, h.setOwn q, .refl, w⟩
  | sl j =>
    unfold wpM storeF at w
    have q' : σ[j]? = some (some v) := q
    cases e : env[j]? with
    | none => simp [e] at w
    | some sl =>
      cases sl with
      | un => simp [e] at w
      | sh d =>
        simp only [e] at w
        obtain ⟨x, e1, e2⟩ := h.shAt e
        rw [q'] at e1
        cases e1
        exact ⟨_, G, h.setSh e2, .refl, w⟩
      | own t ds =>
        cases t with
        | some k => simp [e] at w
        | none =>
          simp only [e] at w
          obtain ⟨G', h1, s1, k1⟩ := freeze h e
          exact ⟨_, G', h1.setSh (k1 v q'), s1, w⟩
theorem es_nil : PBs X fr [] skipF := weakB pss_nil fun D σ H ⟨env, G, h, w⟩ => w σ H G h .refl
theorem es_pass : PSv X fr (.Pass pos) skipF := weakS ps_pass fun D σ H ⟨env, G, h, w⟩ => w σ H G h .refl
theorem es_break : PSv X fr (.Break pos) (pure .bk) := weakS ps_break fun D σ H ⟨env, G, h, w⟩ => w σ H G h .refl
theorem es_continue : PSv X fr (.Continue pos) (pure .ct) := weakS ps_continue fun D σ H ⟨env, G, h, w⟩ => w σ H G h .refl
theorem es_one {F1 : Mo Out} (h1 : PSv X fr st F1) : PBs X fr [st] F1 := pss_one h1
theorem es_cons {F1 F2 : Mo Out} (h1 : PSv X fr st F1) (h2 : PBs X fr rest F2) : PBs X fr (st :: rest) (seqF F1 F2) :=
  weakB (pss_cons h1 h2) fun D σ H ⟨env, G, h, w⟩ => by
    unfold seqF at w
    refine ⟨env, G, h, wpM_mono (wpM_bind.mp w) (fun o env' w' => ?_) fun c env' w' => w'⟩
    cases o with
    | nx => exact fun σ' H' G' h' s' => tS_of h' s' w'
    | bk => exact w'
    | ct => exact w'
    | rt r => exact w'
theorem es_drop (he : PEv X fr e F) (hs : swapsWith e none pos.line X.env = pure false := by rfl) : PSv X fr (.Expr e pos) (dropF F) :=
  weakS (ps_expr he hs) fun D σ H ⟨env, G, h, w⟩ => by
    unfold dropF at w
    exact tE_then h w (fun r env1 H1 G1 v h1 s1 q1 w1 => w1 σ H1 G1 h1 s1) fun c e1 E1 H1 G1 h1 s1 => E1 σ H1 G1 h1 s1
theorem es_ret (he : PEv X fr e F) : PSv X fr (.Return (some e) pos) (retF F) :=
  weakS (ps_ret he) fun D σ H ⟨env, G, h, w⟩ => by
    unfold retF at w
    exact tE_then h w (fun r env1 H1 G1 v h1 s1 q1 w1 => w1 σ H1 G1 v h1 s1 q1) fun c e1 E1 H1 G1 h1 s1 => E1 σ H1 G1 h1 s1
theorem es_if {c : Expr} {a b : List Stmt} {T : Mo Bool} {F1 F2 : Mo Out} (hc : PTv X fr c T) (ha : PBs X fr a F1) (hb : PBs X fr b F2) : PSv X fr (.If c a b pos) (ifF T F1 F2) :=
  weakS (ps_if hc ha hb) fun D σ H ⟨env, G, h, w⟩ => by
    unfold ifF at w
    refine tT_then h w (fun c env1 H1 G1 h1 s1 w1 => ?_) fun c e1 E1 H1 G1 h1 s1 => E1 σ H1 G1 h1 s1
    cases c with
    | true => rw [if_pos rfl] at w1 ⊢; exact tS_of h1 s1 w1
    | false => rw [if_neg Bool.false_ne_true] at w1 ⊢; exact tS_of h1 s1 w1
theorem es_set {i : Nat} {x : Str} {pos' : Pos} (hN : X.N.Nodup) (hi : X.N[i]? = some x) (hx : Loc X.env.scope x) (he : PEv X fr e F) (hs : swapsWith e (some (.Name x pos')) pos.line X.env = pure false := by rfl) (hf : X.fn x = true ∨ X.env.scope.names.lookup x = some .local := by first | exact .inl rfl | exact .inr rfl | assumption) :
    PSv X fr (.Assign [.Name x pos'] e pos) (setF i F) :=
  weakS (ps_set hN hi hx he hs hf) fun D σ H ⟨env, G, h, w⟩ => by
    unfold setF at w
    refine tE_then h w (fun r env1 H1 G1 v h1 s1 q1 w1 => ?_) fun c e1 E1 H1 G1 h1 s1 => E1 σ H1 G1 h1 s1
    obtain ⟨env2, G2, h2, s2, w2⟩ := store_ok3 h1 q1 (wpM_bind.mp w1)
    exact w2 _ H1 G2 h2 (s1.trans s2)
/-- x op= e, on numbers and texts -/
def augF (i : Nat) (g : PyData → PyData → Option Rv) (F : Mo Rv) : Mo Out := do
  let r ← readF i
  let r2 ← F
  let d1 ← peek r
  let d2 ← peek r2
  let res ← liftO (g d1 d2)
  storeF i res
  pure .nx
theorem es_aug {i : Nat} {x : Str} {op : Operator} {g : PyData → PyData → Option Rv} {pos' : Pos} (hN : X.N.Nodup) (hi : X.N[i]? = some x) (hx : Loc X.env.scope x) (he : PEv X fr e F) (ho : Op2 X (inplaceOp op) g) (hf : X.fn x = true ∨ X.env.scope.names.lookup x = some .local := by first | exact .inl rfl | exact .inr rfl | assumption) :
    PSv X fr (.AugAssign (.Name x pos') op e pos) (augF i g F) := by
  obtain ⟨r, hr, hg⟩ := ho
  refine weakS (ps_aug hN hi hx he (fun pins s σ H x y v u Q I rx ry h => hr pins s σ H x y v u Q I rx ry h) hf) fun D σ H ⟨env, G, h, w⟩ => ?_
  unfold augF at w
  rw [wpM_bind] at w
  have rd : ∃ v r1, σ[i]? = some (some v) ∧ HeldOk X.K σ G v r1 ∧ wpM (F >>= fun r2 => peek r1 >>= fun d1 => peek r2 >>= fun d2 => liftO (g d1 d2) >>= fun res => storeF i res >>= fun _ => pure Out.nx) env (SPost X.K fr D G) (SExc X.K fr G) := by
    unfold wpM readF at w
    cases e0 : env[i]? with
    | none => simp [e0] at w
    | some sl =>
      cases sl with
      | un => simp [e0] at w
      | sh d =>
        simp only [e0] at w
        obtain ⟨v, z1, z2⟩ := h.shAt e0
        exact ⟨v, .sh d, z1, z2, w⟩
      | own t ds =>
        simp only [e0] at w
        obtain ⟨a, xs, z1, _⟩ := h.ownAt e0
        exact ⟨_, .sl i, z1, z1, w⟩
  obtain ⟨v, r1, z1, z2, w1⟩ := rd
  refine ⟨v, z1, ?_⟩
  refine tE_then h w1 (fun r2 env2 H2 G2 v2 h2 s2 q2 w2 => ?_) fun c e1 E1 H1 G1 h1 s1 => E1 σ H1 G1 h1 s1
  obtain ⟨d1, p1, w3⟩ := peek_ok h2 (HeldOk.ok (z2.mono s2)) (wpM_bind.mp w2)
  obtain ⟨d2, p2, w4⟩ := peek_ok h2 q2 (wpM_bind.mp w3)
  obtain ⟨res, e, w5⟩ := wpM_lift (wpM_bind.mp w4)
  refine hg v v2 H2 G2 d1 d2 res _ h2.sub p1 p2 e fun H' G' z st rn => ?_
  obtain ⟨env6, G6, h6, s6, w6⟩ := store_ok3 (h2.stp st) (rn.ok h2) (wpM_bind.mp w5)
  exact w6 _ H' G6 h6 ((s2.trans st.mono).trans s6)
@[simp] def iaddG : PyData → PyData → Option Rv
  | .int i, .int j => some (.sh (.int (i + j)))
  | _, _ => none
theorem op2_iadd : Op2 X (inplaceOp .Add) iaddG := op2_int0 iop_add (fun _ _ _ _ => .int _) fun a b r e => by
  cases a <;> cases b <;> simp_all [iaddG]
theorem op2_isub : Op2 X (inplaceOp .Sub) subG := op2_int0 iop_sub (fun _ _ _ _ => .int _) fun a b r e => by
  cases a <;> cases b <;> simp_all [subG]
end
end Cf
/-! Cf, part G: targets, loops. -/
namespace Cf
open PySem PySem.Spec PyProof.Rows L2

/-! ### targets -/
/-- only the slots of ws differ -/
def Off (ws : List Nat) (σ σ' : L2.St) : Prop := σ'.length = σ.length ∧ ∀ i : Nat, i ∉ ws → σ'[i]? = σ[i]?
theorem Off.refl {ws : List Nat} {σ : L2.St} : Off ws σ σ := ⟨rfl, fun _ _ => rfl⟩
theorem Off.trans {ws ws' : List Nat} {σ σ1 σ2 : L2.St} (a : Off ws σ σ1) (b : Off ws' σ1 σ2) : Off (ws ++ ws') σ σ2 :=
  ⟨b.1.trans a.1, fun i hi => (b.2 i fun z => hi (List.mem_append_right _ z)).trans (a.2 i fun z => hi (List.mem_append_left _ z))⟩
def tG (K : PySem.W.Frag) (fr : Fr) (ws : List Nat) (T : PyData → Mo Unit) : TG := fun v σ H Q => ∃ env G d, SR K fr env σ H G ∧ Dq K G v d ∧
  wpM (T d) env (fun _ env' => ∀ σ' G', Off ws σ σ' → SR K fr env' σ' H G' → Sub G G' → Q σ' H) (fun _ _ => False)
def PGv (X : Cx) (fr : Fr) (tg : Expr) (ws : List Nat) (T : PyData → Mo Unit) : Prop := PG X tg (tG X.K fr ws T)
def tGs (K : PySem.W.Frag) (fr : Fr) (ws : List Nat) (T : List PyData → Mo Unit) : TGs := fun vs σ H Q => ∃ env G ds, SR K fr env σ H G ∧ DqAll K G vs ds ∧
  wpM (T ds) env (fun _ env' => ∀ σ' G', Off ws σ σ' → SR K fr env' σ' H G' → Sub G G' → Q σ' H) (fun _ _ => False)
def PGsv (X : Cx) (fr : Fr) (tgs : List Expr) (ws : List Nat) (T : List PyData → Mo Unit) : Prop := PGs X tgs (tGs X.K fr ws T)
theorem weakG {X : Cx} {e : Expr} {t t' : TG} (h : PG X e t) (w : ∀ v σ H Q, t' v σ H Q → t v σ H Q) : PG X e t' := ⟨fun pins s σ H v u Q I r q => h.run pins s σ H v u Q I r (w v σ H Q q)⟩
theorem weakGs {X : Cx} {e : List Expr} {t t' : TGs} (h : PGs X e t) (w : ∀ v σ H Q, t' v σ H Q → t v σ H Q) : PGs X e t' := ⟨fun pins s σ H v u Q I r q => h.run pins s σ H v u Q I r (w v σ H Q q)⟩
def toSlot (i : Nat) (d : PyData) : Mo Unit := storeF i (.sh d)
def toNil (ds : List PyData) : Mo Unit := match ds with
  | [] => pure ()
  | _ => stuckM
def toCons (T : PyData → Mo Unit) (Ts : List PyData → Mo Unit) (ds : List PyData) : Mo Unit := match ds with
  | d :: r => do
    T d
    Ts r
  | [] => stuckM
def toTup (n : Nat) (Ts : List PyData → Mo Unit) (d : PyData) : Mo Unit := match d with
  | .tuple ds => if ds.length = n then Ts ds else stuckM
  | _ => stuckM
section
variable {X : Cx} {fr : Fr} {pos : Pos}
theorem eg_name {i : Nat} {x : Str} (hN : X.N.Nodup) (hi : X.N[i]? = some x) (hx : Loc X.env.scope x) (hf : X.fn x = true ∨ X.env.scope.names.lookup x = some .local := by first | exact .inl rfl | exact .inr rfl | assumption) : PGv X fr (.Name x pos) [i] (toSlot i) :=
  weakG (pg_name hN hi hx hf) fun v σ H Q ⟨env, G, d, h, q, w⟩ => w _ G ⟨by simp, fun j hj => List.getElem?_set_ne (fun z => hj (by simp [z]))⟩ (h.setSh q) .refl
theorem egs_nil : PGsv X fr [] [] toNil := weakGs pgs_nil fun vs σ H Q ⟨env, G, ds, h, q, w⟩ => by
  cases q with
  | nil => exact ⟨rfl, w σ G .refl h .refl⟩
  | cons _ _ => exact w.elim
theorem egs_cons {e : Expr} {es : List Expr} {ws ws' : List Nat} {T : PyData → Mo Unit} {Ts : List PyData → Mo Unit} (h1 : PGv X fr e ws T) (h2 : PGsv X fr es ws' Ts)
    (hs : (assignEach (e :: es) X.env).map (·.2) = assign e X.env :: (assignEach es X.env).map (·.2) := by rfl) : PGsv X fr (e :: es) (ws ++ ws') (toCons T Ts) :=
  weakGs (pgs_cons h1 h2 hs) fun vs σ H Q ⟨env, G, ds, h, q, w⟩ => by
    cases q with
    | nil => exact w.elim
    | cons q1 q2 =>
      refine ⟨_, _, rfl, env, G, _, h, q1, wpM_mono (wpM_bind.mp w) (fun _ env1 w1 σ1 G1 o1 h1 s1 => ?_) fun _ _ z => z⟩
      exact ⟨env1, G1, _, h1, Sub.dqAll s1 _ _ q2, wpM_mono w1 (fun _ env2 w2 σ2 G2 o2 h2 s2 => w2 σ2 G2 (o1.trans o2) h2 (s1.trans s2)) fun _ _ z => z⟩
theorem eg_tup {es : List Expr} {k : Nat} {ws : List Nat} {Ts : List PyData → Mo Unit} {n : Nat} (hc : X.calm = true) (h : PGsv X fr es ws Ts)
    (hn : (assignEach es X.env).length = n := by rfl) (hst : (assignEach es X.env).findIdx? (·.1) = none := by rfl) : PGv X fr (.Tuple es k pos) ws (toTup n Ts) :=
  weakG (pg_tup hc h hn hst) fun v σ H Q ⟨env, G, d, h, q, w⟩ => by
    cases d <;> try exact w.elim
    unfold toTup at w
    simp only at w
    split at w
    · rename_i hz
      obtain ⟨a, xs, rfl, k1, k2⟩ := dq_tup q
      exact ⟨a, xs, rfl, h.sub.sqT k1, by rw [k2.length]; exact hz, env, G, _, h, k2, w⟩
    · exact w.elim
end

/-! ### target = value -/
/-- a store, which raises nothing, then k -/
def thenU {α : Type} (T : Mo Unit) (k : Mo α) : Mo α := fun e => match T e with
  | .ok _ e' => k e'
  | .exc _ _ => .stuck
  | .stuck => .stuck
def setT (T : PyData → Mo Unit) (F : Mo Rv) : Mo Out := do
  let r ← F
  let d ← force r
  thenU (T d) (pure .nx)
theorem wpM_T {T : Mo Unit} {α : Type} {k : Mo α} {env : Fv} {Q : α → Fv → Prop} {E : Nat → Fv → Prop} (w : wpM (thenU T k) env Q E) : wpM T env (fun _ env' => wpM k env' Q E) (fun _ _ => False) := by
  unfold wpM thenU at w
  unfold wpM
  cases q : (T env : Res Unit) <;> simp only [q] at w ⊢
  exact w
section
variable {X : Cx} {fr : Fr} {tg e : Expr} {F : Mo Rv} {T : PyData → Mo Unit} {ws : List Nat} {pos : Pos}
theorem es_asg (he : PEv X fr e F) (hg : PGv X fr tg ws T) (hs : swapsWithSole [tg] e pos.line X.env = pure false := by rfl) (hw : swappedStores [tg] e X.env = pure none := by rfl)
    (h1 : (assignEach [tg] X.env).map (·.2) = [assign tg X.env] := by rfl) : PSv X fr (.Assign [tg] e pos) (setT T F) :=
  weakS (ps_asg he hg hs hw h1) fun D σ H ⟨env, G, h, w⟩ => by
    unfold setT at w
    refine tE_then h w (fun r env1 H1 G1 v h1 s1 q1 w1 => ?_) fun c e1 E1 H1 G1 h1 s1 => E1 σ H1 G1 h1 s1
    obtain ⟨d, env2, G2, h2, s2, d2, w2⟩ := force_ok h1 q1 (wpM_bind.mp w1)
    refine ⟨env2, G2, d, h2, d2, wpM_mono (wpM_T (k := pure Out.nx) w2) (fun _ env3 w3 σ3 G3 _ h3 s3 => ?_) fun _ _ z => z⟩
    exact w3 σ3 H1 G3 h3 ((s1.trans s2).trans s3)
end

/-! ### what a loop walks -/
structure ItOk (K : PySem.W.Frag) (J : It) (G0 : Hp) (ds : List PyData) : Prop where
  go : ∀ i H G, Sub G0 G → Sub G H → i < ds.length → J.go i H
  stop : ∀ H G, Sub G0 G → Sub G H → J.stop ds.length H
  yld : ∀ i H G x H', Sub G0 G → Sub G H → i < ds.length → J.yld i H x H' → ∃ G' d, ds[i]? = some d ∧ Stp H G H' G' ∧ Dq K G' x d
def tI (K : PySem.W.Frag) (fr : Fr) (I : Mo (List PyData)) : TI := fun σ H R => ∃ env G, SR K fr env σ H G ∧
  wpM I env (fun ds env' => ∀ H' G' J, SR K fr env' σ H' G' → Sub G G' → ItOk K J G' ds → R J H') (fun c env' => ∀ H' G', SR K fr env' σ H' G' → Sub G G' → fr.W c H')
def PIv (X : Cx) (fr : Fr) (tg iter : Expr) (I : Mo (List PyData)) : Prop := PI X tg iter (tI X.K fr I)
theorem weakI {X : Cx} {tg e : Expr} {t t' : TI} (h : PI X tg e t) (w : ∀ σ H R, t' σ H R → t σ H R) : PI X tg e t' := ⟨fun pins s σ H R I q => h.run pins s σ H R I (w σ H R q)⟩
/-- the items of a list or tuple -/
@[simp] def itemsG : PyData → Option (List PyData)
  | .list ds => some ds
  | .tuple ds => some ds
  | .dict [(.none, .list ds)] => some ds
  | _ => none
def seqI (F : Mo Rv) : Mo (List PyData) := do
  let r ← F
  let d ← force r
  liftO (itemsG d)
def rangeD (lo : Int) (n : Nat) : List PyData := (List.range n).map fun (i : Nat) => .int (lo + i)
/-- a bound that range can take -/
noncomputable def rangeOk (j : Int) : Bool := hide (decide (-(2 ^ 62) ≤ j ∧ j < 2 ^ 62))
theorem rangeOk_iff {j : Int} : rangeOk j = true ↔ -(2 ^ 62) ≤ j ∧ j < 2 ^ 62 := by
  unfold rangeOk
  rw [hide_eq, decide_eq_true_eq]
noncomputable def range1I (Fs : Mo (List Rv)) : Mo (List PyData) := do
  let rs ← Fs
  match rs with
  | [.sh (.int j)] => if rangeOk j = true then pure (rangeD 0 j.toNat) else stuckM
  | _ => stuckM
noncomputable def range2I (Fs : Mo (List Rv)) : Mo (List PyData) := do
  let rs ← Fs
  match rs with
  | [.sh (.int i), .sh (.int j)] => if rangeOk i = true ∧ rangeOk j = true then pure (rangeD i (j - i).toNat) else stuckM
  | _ => stuckM
section
variable {X : Cx} {fr : Fr} {tg : Expr}
theorem itOk_list {K : PySem.W.Frag} {G : Hp} {a : Addr} {xs : List V} {ds : List PyData} (h : SqL K G a xs) (q : DqAll K G xs ds) : ItOk K (Itl K a) G ds := by
  have hl := q.length
  refine ⟨fun i H G1 s1 s2 hi => ?_, fun H G1 s1 s2 => ⟨xs, s2.sqL (s1.sqL h), by omega⟩, fun i H G1 x H' s1 s2 hi y => ?_⟩
  · exact ⟨xs, xs[i], s2.sqL (s1.sqL h), by simp⟩
  · obtain ⟨rfl, y⟩ := y
    obtain ⟨d, e1, e2⟩ := q.getV (y xs (s2.sqL (s1.sqL h)))
    exact ⟨G1, d, e1, .refl s2, Sub.dq s1 _ _ e2⟩
theorem itOk_tup {K : PySem.W.Frag} {G : Hp} {a : Addr} {xs : List V} {ds : List PyData} (h : SqT K G a xs) (q : DqAll K G xs ds) : ItOk K (Itt K a) G ds := by
  have hl := q.length
  refine ⟨fun i H G1 s1 s2 hi => ?_, fun H G1 s1 s2 => ⟨xs, s2.sqT (s1.sqT h), by omega⟩, fun i H G1 x H' s1 s2 hi y => ?_⟩
  · exact ⟨xs, xs[i], s2.sqT (s1.sqT h), by simp⟩
  · obtain ⟨rfl, y⟩ := y
    obtain ⟨d, e1, e2⟩ := q.getV (y xs (s2.sqT (s1.sqT h)))
    exact ⟨G1, d, e1, .refl s2, Sub.dq s1 _ _ e2⟩
theorem itOk_range {K : PySem.W.Frag} {G : Hp} {lo : Int} {n : Nat} : ItOk K (Itr lo n) G (rangeD lo n) := by
  have hl : (rangeD lo n).length = n := by simp [rangeD]
  refine ⟨fun i H G1 s1 s2 hi => ?_, fun H G1 s1 s2 => ?_, fun i H G1 x H' s1 s2 hi y => ?_⟩
  · show i < n; omega
  · show n ≤ (rangeD lo n).length; omega
  · obtain ⟨rfl, rfl⟩ := y
    rw [hl] at hi
    exact ⟨G1, .int (lo + i), by simp [rangeD, hi], .refl s2, .int _⟩
/-- a list or a tuple, whichever comes -/
theorem ei_seq {l : Expr} {F : Mo Rv} (hl : PEv X fr l F) : PIv X fr tg l (seqI F) := by
  refine ⟨fun pins s σ H R I ⟨env, G, h, w⟩ => ?_⟩
  unfold seqI at w
  have hE : tE X.K fr F σ H fun v H1 => ∃ a, v = .ref a ∧ (((∃ xs, SqL X.K H1 a xs) ∧ R (Itl X.K a) H1) ∨ ((∃ xs, SqT X.K H1 a xs) ∧ R (Itt X.K a) H1)) := by
    refine tE_then h w (fun r env1 H1 G1 v h1 s1 q1 w1 => ?_) fun c e1 E1 H1 G1 h1 s1 => E1 H1 G1 h1 s1
    obtain ⟨d, env2, G2, h2, s2, d2, w2⟩ := force_ok h1 q1 (wpM_bind.mp w1)
    obtain ⟨ds, e, w3⟩ := wpM_lift w2
    cases d2 with
    | lst k1 k2 => cases e; exact ⟨_, rfl, .inl ⟨⟨_, .of (h2.sub _ _ k1)⟩, w3 H1 G2 _ h2 (s1.trans s2) (itOk_list (.of k1) k2)⟩⟩
    | tup k1 k2 => cases e; exact ⟨_, rfl, .inr ⟨⟨_, h2.sub.sqT k1⟩, w3 H1 G2 _ h2 (s1.trans s2) (itOk_tup k1 k2)⟩⟩
    | scr k1 k2 => cases e; exact ⟨_, rfl, .inl ⟨⟨_, h2.sub.sqL k1⟩, w3 H1 G2 _ h2 (s1.trans s2) (itOk_list k1 k2)⟩⟩
    | _ => cases e
  refine thn (hl.run pins s σ H _ I hE) fun u s1 ⟨v, H1, I1, r1, a, e, alt⟩ => ?_
  subst e
  cases r1
  have new : ∀ b ∈ [s1.heap.objs.size], FpOk X pins H1 b := fun b hb => by
    rw [List.mem_singleton.mp hb]
    exact I1.fpOk (Nat.le_refl _) (I1.hok.fresh (Nat.le_refl _))
  rcases alt with ⟨⟨xs, hq⟩, q⟩ | ⟨⟨xs, hq⟩, q⟩
  · obtain ⟨its, _, pl, _⟩ := I1.list hq
    exact wpAny_pyIter_list pl.isList ⟨_, _, _, _, H1, rfl, I1.kept (t' := s1.toks) fun b o z => Heap.get?_push_of_some _ z, turn_list a _, ⟨_, Heap.get?_push_size _ rfl, rfl, rfl⟩, new, q⟩
  · obtain ⟨its, _, pl, _⟩ := I1.tuple hq
    exact wpAny_pyIter_tuple (show s1.heap.IsTuple a its.toArray from pl) ⟨_, _, _, _, H1, rfl, I1.kept (t' := s1.toks) fun b o z => Heap.get?_push_of_some _ z, turn_tuple a _, ⟨_, Heap.get?_push_size _ rfl, rfl, rfl⟩, new, q⟩
theorem ei_range1 {a : Expr} {Fs : Mo (List Rv)} {p pos : Pos} (hg : Gl X "range") (hm : X.mg "range" = none) (ha : PAv X fr [a] Fs) (hs : starEach [a] X.env = [(false, eval a X.env)] := by rfl) : PIv X fr tg (.Call (.Name "range" p) [a] [] pos) (range1I Fs) :=
  weakI (pi_range1 hg hm ha hs) fun σ H R ⟨env, G, h, w⟩ => by
    unfold range1I at w
    refine tA_then h w (fun rs env1 H1 G1 vs h1 s1 q1 w1 => ?_) fun c e1 E1 H1 G1 h1 s1 => E1 H1 G1 h1 s1
    split at w1
    · rename_i j
      split at w1
      · rename_i hz
        replace hz := rangeOk_iff.mp hz
        match vs, q1 with
        | [v], q1 =>
          have e := dq_int (show Dq X.K G1 v (.int j) from q1.1)
          subst e
          exact ⟨j, rfl, hz.1, hz.2, w1 H1 G1 _ h1 s1 itOk_range⟩
        | _ :: _ :: _, q1 => exact q1.2.elim
      · exact w1.elim
    · exact w1.elim
theorem ei_range2 {a b : Expr} {Fs : Mo (List Rv)} {p pos : Pos} (hg : Gl X "range") (hm : X.mg "range" = none) (ha : PAv X fr [a, b] Fs) (hs : starEach [a, b] X.env = [(false, eval a X.env), (false, eval b X.env)] := by rfl) (hs2 : starEach [b] X.env = [(false, eval b X.env)] := by rfl) :
    PIv X fr tg (.Call (.Name "range" p) [a, b] [] pos) (range2I Fs) :=
  weakI (pi_range2 hg hm ha hs hs2) fun σ H R ⟨env, G, h, w⟩ => by
    unfold range2I at w
    refine tA_then h w (fun rs env1 H1 G1 vs h1 s1 q1 w1 => ?_) fun c e1 E1 H1 G1 h1 s1 => E1 H1 G1 h1 s1
    split at w1
    · rename_i i j
      split at w1
      · rename_i hz
        replace hz := And.intro (rangeOk_iff.mp hz.1).1 (And.intro (rangeOk_iff.mp hz.1).2 (rangeOk_iff.mp hz.2))
        match vs, q1 with
        | [v, u], q1 =>
          have e := dq_int (show Dq X.K G1 v (.int i) from q1.1)
          have e' := dq_int (show Dq X.K G1 u (.int j) from q1.2.1)
          subst e e'
          exact ⟨i, j, rfl, hz, w1 H1 G1 _ h1 s1 itOk_range⟩
        | [_], q1 => exact q1.2.elim
        | _ :: _ :: _ :: _, q1 => exact q1.2.2.elim
      · exact w1.elim
    · exact w1.elim
end

/-! ### for, while -/
def loopF (T : PyData → Mo Unit) (B : Mo Out) : List PyData → Mo Out
  | [] => pure .nx
  | d :: ds => thenU (T d) do
    match ← B with
    | .nx => loopF T B ds
    | .ct => loopF T B ds
    | .bk => pure .nx
    | .rt r => pure (.rt r)
def forF (I : Mo (List PyData)) (T : PyData → Mo Unit) (B : Mo Out) : Mo Out := do
  let ds ← I
  loopF T B ds
section
variable {X : Cx} {fr : Fr} {tg iter : Expr} {body : List Stmt} {I : Mo (List PyData)} {T : PyData → Mo Unit} {B : Mo Out} {ws : List Nat} {pos : Pos}
theorem es_for (hp : PassesOwn (model X.prog X.w) X.A X.env X.xe) (hc : X.calm = true) (hi : PIv X fr tg iter I) (hg : PGv X fr tg ws T) (hb : PBs X fr body B)
    (hs : ∀ x, foldedSetIterable iter X.env x = pure x := by intro _; rfl) : PSv X fr (.For tg iter body [] pos) (forF I T B) :=
  weakS (ps_for hp hc hi hg hb hs) fun D σ H ⟨env, G, h, w⟩ => by
    unfold forF at w
    refine ⟨env, G, h, wpM_mono (wpM_bind.mp w) (fun ds env1 w1 H1 G1 J h1 s1 io => ?_) fun c e1 E1 H1 G1 h1 s1 => E1 σ H1 G1 h1 s1⟩
    refine ⟨fun i m σ H => ∃ env' G', SR X.K fr env' σ H G' ∧ Sub G1 G' ∧ m = ds.length - i ∧ i ≤ ds.length ∧ wpM (loopF T B (ds.drop i)) env' (SPost X.K fr D G') (SExc X.K fr G'), ⟨ds.length, env1, G1, h1, .refl, by omega, by omega, wpM_mono w1 (fun _ _ q => q.mono s1) fun _ _ q => q.mono s1⟩, ?_⟩
    rintro i m σ2 H2 ⟨env2, G2, h2, s2, rfl, hi2, w2⟩
    by_cases hlt : i < ds.length
    · have hd : ds.drop i = ds[i] :: ds.drop (i + 1) := by rw [List.drop_eq_getElem_cons hlt]
      rw [hd] at w2
      unfold loopF at w2
      refine .inr ⟨io.go i H2 G2 s2 h2.sub hlt, fun σ3 H3 => ∃ env' G', SR X.K fr env' σ3 H3 G' ∧ Sub G1 G' ∧ wpM (loopF T B (ds.drop (i + 1))) env' (SPost X.K fr D G') (SExc X.K fr G'), ?_, fun x H' y => ?_⟩
      · rintro σ3 H3 ⟨env3, G3, h3, s3, w3⟩
        exact ⟨ds.length - (i + 1), by omega, env3, G3, h3, s3, rfl, by omega, w3⟩
      · obtain ⟨G3, d, e3, st, q3⟩ := io.yld i H2 G2 x H' s2 h2.sub hlt y
        rw [List.getElem?_eq_getElem hlt] at e3
        cases e3
        refine ⟨env2, G3, _, h2.stp st, q3, wpM_mono (wpM_T w2) (fun _ env4 w4 σ4 G4 _ h4 s4 => ?_) fun _ _ z => z⟩
        have s24 := st.mono.trans s4
        refine ⟨env4, G4, h4, wpM_mono (wpM_bind.mp w4) (fun o env5 w5 => ?_) fun c env5 w5 σ5 H5 G5 h5 s5 => w5 σ5 H5 G5 h5 (s24.trans s5)⟩
        have again : wpM (loopF T B (ds.drop (i + 1))) env5 (SPost X.K fr D G2) (SExc X.K fr G2) → ∀ σ' H' G', SR X.K fr env5 σ' H' G' → Sub G4 G' →
            ∃ env' G', SR X.K fr env' σ' H' G' ∧ Sub G1 G' ∧ wpM (loopF T B (ds.drop (i + 1))) env' (SPost X.K fr D G') (SExc X.K fr G') := fun w6 σ' H' G' h6 s6 =>
          ⟨env5, G', h6, s2.trans (s24.trans s6), wpM_mono w6 (fun _ _ q => q.mono (s24.trans s6)) fun _ _ q => q.mono (s24.trans s6)⟩
        cases o with
        | nx => exact again w5
        | ct => exact again w5
        | bk => exact fun σ' H' G' h6 s6 => w5 σ' H' G' h6 (s24.trans s6)
        | rt r => exact fun σ' H' G' v h6 s6 q6 => w5 σ' H' G' v h6 (s24.trans s6) q6
    · have e : i = ds.length := by omega
      subst e
      rw [List.drop_length] at w2
      exact .inl ⟨io.stop H2 G2 s2 h2.sub, w2 σ2 H2 G2 h2 .refl⟩
/-- at most n turns -/
def whileN (C : Mo Bool) (B : Mo Out) : Nat → Mo Out
  | 0 => stuckM
  | n + 1 => do
    let b ← C
    if b = true then
      match ← B with
      | .nx => whileN C B n
      | .ct => whileN C B n
      | .bk => pure .nx
      | .rt r => pure (.rt r)
    else pure .nx
theorem es_while {c : Expr} {C : Mo Bool} (n : Nat) (hp : PassesOwn (model X.prog X.w) X.A X.env X.xe) (hc : PTv X fr c C) (hb : PBs X fr body B) : PSv X fr (.While c body [] pos) (whileN C B n) :=
  weakS (ps_while hp hc hb) fun D σ H ⟨env, G, h, w⟩ => by
    refine ⟨fun m σ H => ∃ env' G', SR X.K fr env' σ H G' ∧ wpM (whileN C B m) env' (SPost X.K fr D G') (SExc X.K fr G'), ⟨n, env, G, h, w⟩, ?_⟩
    rintro m σ2 H2 ⟨env2, G2, h2, w2⟩
    cases m with
    | zero => exact w2.elim
    | succ m =>
      unfold whileN at w2
      refine tT_then h2 w2 (fun b env3 H3 G3 h3 s3 w3 => ?_) fun c e1 E1 H1 G1 h1 s1 => E1 σ2 H1 G1 h1 s1
      cases b with
      | false =>
        rw [if_neg Bool.false_ne_true] at w3 ⊢
        exact w3 σ2 H3 G3 h3 s3
      | true =>
        rw [if_pos rfl] at w3 ⊢
        refine ⟨fun σ4 H4 => ∃ env' G', SR X.K fr env' σ4 H4 G' ∧ wpM (whileN C B m) env' (SPost X.K fr D G') (SExc X.K fr G'), fun σ4 H4 q => ⟨m, Nat.lt_succ_self m, q⟩, ?_⟩
        refine ⟨env3, G3, h3, wpM_mono (wpM_bind.mp w3) (fun o env5 w5 => ?_) fun c env5 w5 σ5 H5 G5 h5 s5 => w5 σ5 H5 G5 h5 (s3.trans s5)⟩
        have again : wpM (whileN C B m) env5 (SPost X.K fr D G2) (SExc X.K fr G2) → ∀ σ' H' G', SR X.K fr env5 σ' H' G' → Sub G3 G' →
            ∃ env' G', SR X.K fr env' σ' H' G' ∧ wpM (whileN C B m) env' (SPost X.K fr D G') (SExc X.K fr G') := fun w6 σ' H' G' h6 s6 =>
          ⟨env5, G', h6, wpM_mono w6 (fun _ _ q => q.mono (s3.trans s6)) fun _ _ q => q.mono (s3.trans s6)⟩
        cases o with
        | nx => exact again w5
        | ct => exact again w5
        | bk => exact fun σ' H' G' h6 s6 => w5 σ' H' G' h6 (s3.trans s6)
        | rt r => exact fun σ' H' G' v h6 s6 q6 => w5 σ' H' G' v h6 (s3.trans s6) q6
end
end Cf
/-! Cf, part H: defs and calls. -/
namespace Cf
open PySem PySem.Spec PyProof.Rows L2

/-- what a def's run comes to -/
inductive FnR where
  | ok (r : Rv)
  | exc (c : Nat)
  | stuck
/-- .. of a def whose first parameter is a list that it may change -/
inductive FnL where
  | ok (r : Rv) (out : List PyData)
  | stuck
/-- the value handed back -/
@[simp] def retV (r : Rv) (e : Fv) : Option Rv := match r with
  | .sh d => some (.sh d)
  | .fr ds => some (.fr ds)
  | .sl i => match e[i]? with
    | some (.sh d) => some (.sh d)
    | some (.own none ds) => some (.fr ds)
    | _ => none
@[simp] def outV (o : Out) (e : Fv) : Option Rv := match o with
  | .rt r => retV r e
  | .nx => some (.sh .none)
  | _ => none
@[simp] def env0 (n : Nat) (sls : List Sl) : Fv := sls ++ List.replicate (n - sls.length) .un
@[simp] def finF : Res Out → FnR
  | .ok o e => match outV o e with
    | some r => .ok r
    | none => .stuck
  | .exc c _ => .exc c
  | .stuck => .stuck
@[simp] def finL : Res Out → FnL
  | .ok o e => match outV o e, (e[0]? : Option Sl) with
    | some r, some (.own (some 0) out) => .ok r out
    | _, _ => .stuck
  | _ => .stuck
def runF (n : Nat) (B : Mo Out) (ds : List PyData) : FnR := finF (B (env0 n (ds.map .sh)))
def runL (n : Nat) (B : Mo Out) (es : List PyData) (ds : List PyData) : FnL := finL (B (env0 n (.own (some 0) es :: ds.map .sh)))

/-- what was private of the callers is as it was -/
def Kept (tabs : List Addr) (ex : Addr → Prop) (H G H' G' : Hp) : Prop := ∀ b o, H b = some o → G b = none → b ∉ tabs → ¬ ex b → H' b = some o ∧ G' b = none
def RetOk (K : PySem.W.Frag) (H H' G' : Hp) (v : V) : Rv → Prop := RvNew K H H' G' v
def Tabs (tabs : List Addr) (H G : Hp) : Prop := ∀ P ∈ tabs, TabOk H P ∧ G P = none
def sp0 (K : PySem.W.Frag) (tabs : List Addr) (n : Nat) (g : List PyData → FnR) : Sp := fun vs H Q _ => ∃ G ds, Sub G H ∧ Tabs tabs H G ∧ ds.length = n ∧ DqAll K G vs ds ∧
  ∃ r, g ds = .ok r ∧ ∀ H' G' v, Sub G G' → Sub G' H' → Tabs tabs H' G' → Kept tabs (fun _ => False) H G H' G' → RetOk K H H' G' v r → Q v H'
def spL (K : PySem.W.Frag) (tabs : List Addr) (n : Nat) (g : List PyData → List PyData → FnL) : Sp := fun vs H Q _ => ∃ G m us xs es ds, vs = .ref m :: us ∧ Sub G H ∧ Tabs tabs H G ∧ ds.length + 1 = n ∧
  H m = some (.lst xs) ∧ G m = none ∧ DqAll K G xs es ∧ DqAll K G us ds ∧
  ∃ r out, g es ds = .ok r out ∧ ∀ H' G' v ys, Sub G G' → Sub G' H' → Tabs tabs H' G' → Kept tabs (fun b => b = m) H G H' G' → H' m = some (.lst ys) → G' m = none → DqAll K G' ys out → RetOk K H H' G' v r → Q v H'

section
variable {K : PySem.W.Frag} {fr : Fr} {env : Fv} {σ : L2.St} {H G : Hp}
theorem retV_ok {H0 : Hp} {v : V} {r r' : Rv} (h : SR K fr env σ H G) (q : RvOk K fr env σ H G v r) (e : retV r env = some r') (new : ∀ a xs, H a = some (.lst xs) → G a = none → fr.prot a = none → a ∉ fr.muts → H0 a = none) : RetOk K H0 H G v r' := by
  cases r with
  | sh d => cases e; exact q
  | fr ds =>
    cases e
    obtain ⟨a, xs, rfl, k1, k2, k3, k4, k5, _⟩ := q
    exact ⟨a, xs, rfl, k1, k2, k3, new a xs k1 k3 k4 k5⟩
  | sl i =>
    unfold retV at e
    have q' : σ[i]? = some (some v) := q
    cases z : env[i]? with
    | none => simp [z] at e
    | some sl =>
      cases sl with
      | un => simp [z] at e
      | sh d =>
        simp only [z, Option.some.injEq] at e
        subst e
        obtain ⟨x, e1, e2⟩ := h.shAt z
        rw [q'] at e1
        cases e1
        exact e2
      | own t ds =>
        cases t with
        | some k => simp [z] at e
        | none =>
          simp only [z, Option.some.injEq] at e
          subst e
          obtain ⟨a, xs, e1, k1, k2, k3, k4, k5⟩ := h.ownAt z
          rw [q'] at e1
          cases e1
          exact ⟨a, xs, rfl, k1, k2, k3, new a xs k1 k3 k4 k5⟩
end

/-! ### a def's body keeps its promise -/
theorem start_get {N : List Str} {vs : List V} {i : Nat} (h : vs.length ≤ N.length) : (L2.start N vs)[i]? = if i < vs.length then (vs[i]?).map some else if i < N.length then some none else none := by
  unfold L2.start
  by_cases h1 : i < vs.length
  · rw [if_pos h1, List.getElem?_append_left (by simpa using h1), List.getElem?_map]
  · rw [if_neg h1, List.getElem?_append_right (by simp; omega)]
    simp only [List.length_map, List.getElem?_replicate]
    by_cases h2 : i < N.length
    · rw [if_pos h2, if_pos (by omega)]
    · rw [if_neg h2, if_neg (by omega)]
theorem env0_get {n : Nat} {sls : List Sl} {i : Nat} (h : sls.length ≤ n) : (env0 n sls)[i]? = if i < sls.length then sls[i]? else if i < n then some .un else none := by
  unfold env0
  by_cases h1 : i < sls.length
  · rw [if_pos h1, List.getElem?_append_left h1]
  · rw [if_neg h1, List.getElem?_append_right (by omega)]
    simp only [List.getElem?_replicate]
    by_cases h2 : i < n
    · rw [if_pos h2, if_pos (by omega)]
    · rw [if_neg h2, if_neg (by omega)]
def privOf (tabs : List Addr) (ex : Addr → Prop) [DecidablePred ex] (H G : Hp) : Hp := fun b => if G b = none ∧ b ∉ tabs ∧ ¬ ex b then H b else none
section
variable {P : Program} {w : World} {K : PySem.W.Frag} {mg : Str → Option Value} {base : Heap} {tabs : List Addr}
theorem privOf_some {ex : Addr → Prop} [DecidablePred ex] {H G : Hp} {b : Addr} {o : HO} (h : privOf tabs ex H G b = some o) : H b = some o ∧ G b = none := by
  unfold privOf at h
  split at h
  · rename_i z; exact ⟨h, z.1⟩
  · cases h
theorem privOf_none {ex : Addr → Prop} [DecidablePred ex] {H G : Hp} {b : Addr} (h : privOf tabs ex H G b = none) (h2 : G b = none) (h3 : b ∉ tabs) (h4 : ¬ ex b) : H b = none := by
  unfold privOf at h
  rwa [if_pos ⟨h2, h3, h4⟩] at h
theorem sr_start {N : List Str} {vs : List V} {ds : List PyData} {H G : Hp} {W : Nat → Hp → Prop} (s : Sub G H) (ht : Tabs tabs H G) (q : DqAll K G vs ds) (hn : ds.length ≤ N.length) :
    SR K ⟨privOf tabs (fun _ => False) H G, [], tabs, W⟩ (env0 N.length (ds.map .sh)) (L2.start N vs) H G := by
  have hl := q.length
  have e0 : ∀ (i : Nat) (sl : Sl), (env0 N.length (ds.map Sl.sh))[i]? = some sl → sl = .un ∨ ∃ d, sl = .sh d ∧ ds[i]? = some d := fun i sl e => by
    rw [env0_get (by simpa using hn)] at e
    by_cases h1 : i < ds.length
    · rw [if_pos (by simpa using h1), List.getElem?_map, List.getElem?_eq_getElem h1] at e
      cases e
      exact .inr ⟨_, rfl, List.getElem?_eq_getElem h1⟩
    · rw [if_neg (by simpa using h1)] at e
      split at e <;> cases e
      exact .inl rfl
  refine ⟨s, fun b o e => (privOf_some (tabs := tabs) (ex := fun _ => False) (G := G) e).1, fun b e => ?_, ht, fun P hP => by show privOf tabs (fun _ => False) H G P = none; unfold privOf; rw [if_neg (fun z => z.2.1 hP)], fun a ha => absurd ha (by simp), ?_, fun i sl e => ?_, fun i j t t' es es' a _ ei => ?_⟩
  · cases z : privOf tabs (fun _ => False) H G b with
    | none => exact absurd z e
    | some o => exact (privOf_some (ex := fun _ => False) z).2
  · unfold env0 L2.start
    simp only [List.length_append, List.length_map, List.length_replicate]
    omega
  · rcases e0 i sl e with rfl | ⟨d, rfl, hd⟩
    · trivial
    · obtain ⟨v, e1, e2⟩ := q.get hd
      have hi : i < vs.length := (List.getElem?_eq_some_iff.mp e1).1
      exact ⟨v, by rw [start_get (by omega), if_pos hi, e1]; rfl, e2⟩
  · rcases e0 i _ ei with z | ⟨d, z, _⟩ <;> cases z
theorem sr_startL {N : List Str} {m : Addr} {us : List V} {xs : List V} {es ds : List PyData} {H G : Hp} {W : Nat → Hp → Prop} (s : Sub G H) (ht : Tabs tabs H G) (hm : H m = some (.lst xs)) (gm : G m = none) (q1 : DqAll K G xs es) (q : DqAll K G us ds) (hn : ds.length + 1 ≤ N.length) :
    SR K ⟨privOf tabs (fun b => b = m) H G, [m], tabs, W⟩ (env0 N.length (.own (some 0) es :: ds.map .sh)) (L2.start N (.ref m :: us)) H G := by
  have hl := q.length
  have e0 : ∀ (i : Nat) (sl : Sl), (env0 N.length (.own (some 0) es :: ds.map Sl.sh))[i]? = some sl → sl = .un ∨ (i = 0 ∧ sl = .own (some 0) es) ∨ ∃ j d, i = j + 1 ∧ sl = .sh d ∧ ds[j]? = some d := fun i sl e => by
    rw [env0_get (by simpa using hn)] at e
    by_cases h1 : i < ds.length + 1
    · rw [if_pos (by simpa using h1)] at e
      cases i with
      | zero => cases e; exact .inr (.inl ⟨rfl, rfl⟩)
      | succ j =>
        rw [List.getElem?_cons_succ, List.getElem?_map, List.getElem?_eq_getElem (by omega)] at e
        cases e
        exact .inr (.inr ⟨j, _, rfl, rfl, List.getElem?_eq_getElem (by omega)⟩)
    · rw [if_neg (by simpa using h1)] at e
      split at e <;> cases e
      exact .inl rfl
  refine ⟨s, fun b o e => (privOf_some (tabs := tabs) (ex := fun b => b = m) (G := G) e).1, fun b e => ?_, ht, fun P hP => by show privOf tabs (fun b => b = m) H G P = none; unfold privOf; rw [if_neg (fun z => z.2.1 hP)], fun a ha => ?_, ?_, fun i sl e => ?_, fun i j t t' es1 es' a hij ei ej => ?_⟩
  · cases z : privOf tabs (fun b => b = m) H G b with
    | none => exact absurd z e
    | some o => exact (privOf_some (ex := fun b => b = m) z).2
  · rw [List.mem_singleton.mp ha, hm]; simp
  · unfold env0 L2.start
    simp only [List.length_append, List.length_map, List.length_replicate, List.length_cons]
    omega
  · rcases e0 i sl e with rfl | ⟨rfl, rfl⟩ | ⟨j, d, rfl, rfl, hd⟩
    · trivial
    · refine ⟨m, xs, by rw [start_get (by simp; omega), if_pos (by simp)]; rfl, hm, q1, gm, ?_, rfl⟩
      show privOf tabs (fun b => b = m) H G m = none
      unfold privOf
      rw [if_neg (fun z => z.2.2 rfl)]
    · obtain ⟨v, e1, e2⟩ := q.get hd
      have hi : j < us.length := (List.getElem?_eq_some_iff.mp e1).1
      exact ⟨v, by rw [start_get (by simp; omega), if_pos (by simpa using hi), List.getElem?_cons_succ, e1]; rfl, e2⟩
  · rcases e0 i _ ei with z | ⟨rfl, _⟩ | ⟨_, d, _, z, _⟩
    · cases z
    · rcases e0 j _ ej with z | ⟨rfl, _⟩ | ⟨_, d, _, z, _⟩
      · cases z
      · exact absurd rfl hij
      · cases z
    · cases z
/-- a def without a list that it may change -/
theorem fn0 {x qual : Str} {st : Stmt} {f : Addr} {fd : FuncData} {N ps : List Str} {k : Nat} {B : Mo Out} (F : Fun K x qual st f fd) (S : FnScope N ps (defScope st)) (hp : ps.length ≤ N.length)
    (hbody : ∀ (cdv : Value) (A : Around) (outer : List Env) (s : Shared) (H : Hp) (E : XK) (p : Hp), Room k (A.deeper (envOfC qual (defScope st) s.heap.objs.size f cdv)) →
      PBs (cxOf CX0 P w K mg base N qual (defScope st) f cdv A outer s H E).nox ⟨p, [], tabs, fun _ _ => False⟩ (defBody st) B) : FnOk P w K mg base CX0 (k + 1) f fd ps (sp0 K tabs ps.length (runF N.length B)) := by
  refine F.ok S (fun vs H Q E ⟨G, ds, _, _, h1, h2, _⟩ => h2.length.trans h1) (fun cdv A outer s H vs Q E hr h => ?_)
  obtain ⟨G, ds, h1, h2, h3, h4, r, h5, h6⟩ := h
  refine ⟨_, hbody cdv A outer s H E _ hr, _, G, sr_start (W := fun _ _ => False) h1 h2 h4 (by omega), ?_⟩
  have new : ∀ {H' G' : Hp}, Sub G G' → (∀ P ∈ tabs, TabOk H' P ∧ G' P = none) → ∀ a xs, H' a = some (.lst xs) → G' a = none → privOf tabs (fun _ => False) H G a = none → a ∉ ([] : List Addr) → H a = none := fun sG tb a xs k1 k2 k3 _ => by
    refine privOf_none k3 (sub_none sG k2) (fun z => ?_) id
    obtain ⟨⟨ps', e, _⟩, _⟩ := tb a z
    rw [e] at k1
    cases k1
  have kept : ∀ {env' : Fv} {σ' : L2.St} {H' G' : Hp}, SR K ⟨privOf tabs (fun _ => False) H G, [], tabs, fun _ _ => False⟩ env' σ' H' G' → Kept tabs (fun _ => False) H G H' G' := fun h b o e1 e2 e3 e4 => by
    have e5 : privOf tabs (fun _ => False) H G b = some o := by
      unfold privOf
      rw [if_pos ⟨e2, e3, id⟩]
      exact e1
    exact ⟨h.prot b o e5, h.dj b (ne_none_of e5)⟩
  unfold runF at h5
  unfold wpM
  cases z : (B (env0 N.length (ds.map .sh)) : Res Out) with
  | stuck => rw [z] at h5; cases h5
  | exc c e => rw [z] at h5; cases h5
  | ok o e =>
    rw [z] at h5
    unfold finF at h5
    cases o with
    | nx =>
      cases h5
      exact fun σ' H' G' h s => h6 H' G' .non s h.sub h.tab (kept h) .non
    | rt r1 =>
      have h7 : outV (.rt r1) e = some r := by
        cases y : outV (.rt r1) e with
        | none => simp only [y] at h5; cases h5
        | some r2 => simp only [y] at h5; cases h5; rfl
      exact fun σ' H' G' v h s q => h6 H' G' v s h.sub h.tab (kept h) (retV_ok h q h7 (new s h.tab))
    | bk => cases h5
    | ct => cases h5
/-- a def whose first parameter is a list that it may change -/
theorem fnL {x qual : Str} {st : Stmt} {f : Addr} {fd : FuncData} {N ps : List Str} {k : Nat} {B : Mo Out} (F : Fun K x qual st f fd) (S : FnScope N ps (defScope st)) (hp : ps.length ≤ N.length)
    (hbody : ∀ (cdv : Value) (A : Around) (outer : List Env) (s : Shared) (H : Hp) (E : XK) (p : Hp) (m : Addr), Room k (A.deeper (envOfC qual (defScope st) s.heap.objs.size f cdv)) →
      PBs (cxOf CX0 P w K mg base N qual (defScope st) f cdv A outer s H E).nox ⟨p, [m], tabs, fun _ _ => False⟩ (defBody st) B) : FnOk P w K mg base CX0 (k + 1) f fd ps (spL K tabs ps.length (runL N.length B)) := by
  refine F.ok S (fun vs H Q E ⟨G, m, us, xs, es, ds, e, _, _, h1, _, _, _, h2, _⟩ => by rw [e, ← h1, ← h2.length]; rfl) (fun cdv A outer s H vs Q E hr h => ?_)
  obtain ⟨G, m, us, xs, es, ds, rfl, h1, h2, h3, hm, gm, k1, h4, r, out, h5, h6⟩ := h
  refine ⟨_, hbody cdv A outer s H E _ m hr, _, G, sr_startL (W := fun _ _ => False) h1 h2 hm gm k1 h4 (by omega), ?_⟩
  have new : ∀ {H' G' : Hp}, Sub G G' → (∀ P ∈ tabs, TabOk H' P ∧ G' P = none) → ∀ a xs, H' a = some (.lst xs) → G' a = none → privOf tabs (fun b => b = m) H G a = none → a ∉ [m] → H a = none := fun sG tb a xs k1 k2 k3 k4 => by
    refine privOf_none k3 (sub_none sG k2) (fun z => ?_) fun z => k4 (by simp [z])
    obtain ⟨⟨ps', e, _⟩, _⟩ := tb a z
    rw [e] at k1
    cases k1
  have kept : ∀ {env' : Fv} {σ' : L2.St} {H' G' : Hp}, SR K ⟨privOf tabs (fun b => b = m) H G, [m], tabs, fun _ _ => False⟩ env' σ' H' G' → Kept tabs (fun b => b = m) H G H' G' := fun h b o e1 e2 e3 e4 => by
    have e5 : privOf tabs (fun b => b = m) H G b = some o := by
      unfold privOf
      rw [if_pos ⟨e2, e3, e4⟩]
      exact e1
    exact ⟨h.prot b o e5, h.dj b (ne_none_of e5)⟩
  have lentOut : ∀ {e : Fv} {σ' : L2.St} {H' G' : Hp} {os : List PyData}, SR K ⟨privOf tabs (fun b => b = m) H G, [m], tabs, fun _ _ => False⟩ e σ' H' G' → e[0]? = some (.own (some 0) os) → ∃ ys, H' m = some (.lst ys) ∧ G' m = none ∧ DqAll K G' ys os := fun h e0 => by
    obtain ⟨a, ys, _, z1, z2, z3, _, z4⟩ := h.ownAt e0
    have z4' : [m][0]? = some a := z4
    cases z4'
    exact ⟨ys, z1, z3, z2⟩
  unfold runL at h5
  unfold wpM
  cases z : (B (env0 N.length (.own (some 0) es :: ds.map .sh)) : Res Out) with
  | stuck => rw [z] at h5; cases h5
  | exc c e => rw [z] at h5; cases h5
  | ok o e =>
    rw [z] at h5
    unfold finL at h5
    cases y : outV o e with
    | none => simp only [y] at h5; cases h5
    | some r2 =>
      simp only [y] at h5
      split at h5
      · rename_i r3 os e1 e0
        cases e1
        cases h5
        cases o with
        | nx =>
          cases y
          intro σ' H' G' h s
          obtain ⟨ys, q1, q2, q3⟩ := lentOut h e0
          exact h6 H' G' .non ys s h.sub h.tab (kept h) q1 q2 q3 .non
        | rt r1 =>
          intro σ' H' G' v h s q
          obtain ⟨ys, q1, q2, q3⟩ := lentOut h e0
          exact h6 H' G' v ys s h.sub h.tab (kept h) q1 q2 q3 (retV_ok h q y (new s h.tab))
        | bk => cases y
        | ct => cases y
      · cases h5
end
end Cf
/-! Cf, part I: calls of the program's own defs. -/
namespace Cf
open PySem PySem.Spec PyProof.Rows L2

/-! ### data without lists -/
mutual
def noList : PyData → Bool
  | .list _ => false
  | .tuple ds => noLists ds
  | .dict _ => false
  | _ => true
def noLists : List PyData → Bool
  | [] => true
  | d :: ds => noList d && noLists ds
end
def freeRv : Rv → Bool
  | .sh d => noList d
  | .fr ds => noLists ds
  | .sl _ => false
/-- G without the addresses of A -/
def drop (G : Hp) (A : Addr → Bool) : Hp := fun b => if A b = true then none else G b
def lay (G H : Hp) (A : Addr → Bool) : Hp := fun b => if A b = true then H b else G b
mutual
theorem noList_drop {K : PySem.W.Frag} {G : Hp} {A : Addr → Bool} (hA : ∀ b, A b = true → ∀ xs, Rd G b (.tup xs) → False) : ∀ (d : PyData), noList d = true → ∀ v, Dq K G v d → Dq K (drop G A) v d
  | .none, _, _, h => by cases h; exact .non
  | .bool b, _, _, h => by cases h; exact .bl b
  | .int i, _, _, h => by cases h; exact .int i
  | .str x, _, _, h => by cases h; exact .str x
  | .list ds, c, _, _ => by simp [noList] at c
  | .dict ds, c, _, _ => by simp [noList] at c
  | .tuple ds, c, _, h => by
    cases h with
    | @tup a xs _ h1 h2 =>
      refine .tup ?_ (noLists_drop hA ds (by simpa [noList] using c) _ h2)
      rcases h1 with h1 | h1
      · have : ¬ A a = true := fun z => hA a z xs h1
        rcases h1 with h1 | ⟨o, h1⟩
        · exact .inl (.inl (by unfold drop; rw [if_neg this]; exact h1))
        · exact .inl (.inr ⟨o, by unfold drop; rw [if_neg this]; exact h1⟩)
      · exact .inr h1
theorem noLists_drop {K : PySem.W.Frag} {G : Hp} {A : Addr → Bool} (hA : ∀ b, A b = true → ∀ xs, Rd G b (.tup xs) → False) : ∀ (ds : List PyData), noLists ds = true → ∀ vs, DqAll K G vs ds → DqAll K (drop G A) vs ds
  | [], _, _, h => by cases h; exact .nil
  | d :: ds, c, _, h => by
    simp only [noLists, Bool.and_eq_true] at c
    cases h with
    | cons h1 h2 => exact .cons (noList_drop hA d c.1 _ h1) (noLists_drop hA ds c.2 _ h2)
end

/-! ### a call; lists of ours that are handed over stand still from then on -/
def endF (o : FnR) : Mo Rv := match o with
  | .ok r => pure r
  | .exc _ => stuckM
  | .stuck => stuckM
def callF (n : Nat) (g : List PyData → FnR) (Fs : Mo (List Rv)) : Mo Rv := do
  let rs ← Fs
  let ds ← forces rs
  if ds.length = n then endF (g ds) else stuckM
section
variable {K : PySem.W.Frag} {fr : Fr} {env : Fv} {σ : L2.St} {H G H' G' : Hp}
/-- the relation behind a call that kept what was private -/
theorem SR.kept (h : SR K fr env σ H G) (s : Sub G G') (s' : Sub G' H') (t : Tabs fr.tabs H' G') (k : Kept fr.tabs (fun _ => False) H G H' G') : SR K fr env σ H' G' where
  sub := s'
  prot := fun b o e => (k b o (h.prot b o e) (h.dj b (ne_none_of e)) (fun z => by rw [h.pt b z] at e; cases e) id).1
  dj := fun b e => by
    cases q : fr.prot b with
    | none => exact absurd q e
    | some o => exact (k b o (h.prot b o q) (h.dj b e) (fun z => by rw [h.pt b z] at q; cases q) id).2
  tab := t
  pt := h.pt
  lent := fun a ha z => by
    cases q : H a with
    | none => exact h.lent a ha q
    | some o =>
      cases q2 : G a with
      | some o2 => rw [s' _ _ (s _ _ q2)] at z; cases z
      | none =>
        by_cases hT : a ∈ fr.tabs
        · obtain ⟨⟨ps, e, _⟩, _⟩ := t a hT
          rw [e] at z
          cases z
        · rw [(k a o q q2 hT id).1] at z
          cases z
  len := h.len
  slots := fun i sl e => by
    cases sl with
    | un => trivial
    | sh d =>
      obtain ⟨x, e1, e2⟩ := h.slots i _ e
      exact ⟨x, e1, Sub.dq s _ _ e2⟩
    | own t' ds =>
      obtain ⟨a, xs, e1, k1, k2, k3, k4, k5⟩ := h.slots i _ e
      have nt : a ∉ fr.tabs := fun z => by
        obtain ⟨⟨ps, e, _⟩, _⟩ := h.tab a z
        rw [e] at k1
        cases k1
      obtain ⟨m1, m2⟩ := k a _ k1 k3 nt id
      exact ⟨a, xs, e1, m1, Sub.dqAll s _ _ k2, m2, k4, k5⟩
  dist := h.dist
theorem RetOk.ok {v : V} {r : Rv} (h : SR K fr env σ H G) (q : RetOk K H H' G' v r) : RvOk K fr env σ H' G' v r := RvNew.ok h q
end
section
variable {X : Cx} {fr : Fr} {e : Expr} {es : List Expr} {Fs : Mo (List Rv)} {x : Str} {p pos : Pos} {k n : Nat} {f : Addr} {fd : FuncData} {ps : List Str} {g : List PyData → FnR}
theorem ev_call (F : FnOk X.prog X.w X.K X.mg X.base CX0 k f fd ps (sp0 X.K fr.tabs n g)) (hr : Room k X.A) (hg : Gl X x) (hm : X.mg x = some (.ref f)) (hk : PySem.W.keepIn X.K (.ref f) = true) (hb : Binds X.K fd ps [])
    (ha : PAv X fr (e :: es) Fs) (hdb : (x == ("__debug__" : Str)) = false := by decide) (he : starEach (e :: es) X.env = (false, eval e X.env) :: starEach es X.env := by rfl) (hpl : (backTo pos (starEach es X.env)).any (·.1) = false := by rfl) :
    PEv X fr (.Call (.Name x p) (e :: es) [] pos) (callF n g Fs) :=
  weakE (pe_call F hr hg hm hk hb .nil (pass0) ha hdb he hpl) fun σ H Q ⟨env, G, h, w⟩ => by
    unfold callF at w
    refine tA_then h w (fun rs env1 H1 G1 vs h1 s1 q1 w1 => ?_) fun c e1 E1 H1 G1 h1 s1 => E1 H1 G1 h1 s1
    obtain ⟨ds, env2, G2, h2, s2, d2, w2⟩ := forces_ok h1 q1 (wpM_bind.mp w1)
    rw [List.append_nil]
    split at w2
    · rename_i len
      cases z : g ds with
      | exc c => rw [z] at w2; exact w2.elim
      | stuck => rw [z] at w2; exact w2.elim
      | ok r =>
        rw [z] at w2
        exact ⟨G2, ds, h2.sub, h2.tab, len, d2, r, z, fun H' G' v sG sH t k q => w2 H' G' v (h2.kept sG sH t k) ((s1.trans s2).trans sG) (q.ok h2)⟩
    · exact w2.elim
end

/-! ### a call that lends a list -/
def callL (n : Nat) (g : List PyData → List PyData → FnL) (j : Nat) (Fs : Mo (List Rv)) : Mo Rv := do
  needOwn j
  let rs ← Fs
  let ds ← forces rs
  let es ← getOwn j
  if ds.length + 1 = n then
    match g es ds with
    | .ok r out => do
      putOwn j out
      pure r
    | .stuck => stuckM
  else stuckM
section
variable {K : PySem.W.Frag} {fr : Fr} {env : Fv} {σ : L2.St} {H G H' G' : Hp}
theorem SR.keptL (h : SR K fr env σ H G) {j : Nat} {t0 : Option Nat} {es out : List PyData} {m : Addr} {ys : List V} (ej : env[j]? = some (.own t0 es)) (em : σ[j]? = some (some (.ref m)))
    (s : Sub G G') (s' : Sub G' H') (t : Tabs fr.tabs H' G') (k : Kept fr.tabs (fun b => b = m) H G H' G') (hm : H' m = some (.lst ys)) (gm : G' m = none) (q : DqAll K G' ys out) : SR K fr (env.set j (.own t0 out)) σ H' G' := by
  obtain ⟨m', xs0, z1, z2, z3, z4, z5, z6⟩ := h.ownAt ej
  rw [em] at z1
  cases z1
  have hj : j < env.length := (List.getElem?_eq_some_iff.mp ej).1
  have nm : ∀ b o, fr.prot b = some o → b ≠ m := fun b o e z => by rw [z, z5] at e; cases e
  have n : ∀ (i : Nat) (t1 : Option Nat) (es1 : List PyData), (env.set j (.own t0 out))[i]? = some (.own t1 es1) → ∃ t2 es2, env[i]? = some (.own t2 es2) := fun i t1 es1 e => by
    by_cases hi : i = j
    · subst hi; exact ⟨_, _, ej⟩
    · rw [List.getElem?_set_ne (Ne.symm hi)] at e; exact ⟨_, _, e⟩
  refine ⟨s', fun b o e => (k b o (h.prot b o e) (h.dj b (ne_none_of e)) (fun z => by rw [h.pt b z] at e; cases e) (nm b o e)).1, fun b e => ?_, t, h.pt, fun a ha z => ?_, by simpa using h.len, fun i sl e => ?_, fun i i2 t1 t2 es1 es2 b hii e1 e2 => ?_⟩
  · cases q : fr.prot b with
    | none => exact absurd q e
    | some o => exact (k b o (h.prot b o q) (h.dj b e) (fun z => by rw [h.pt b z] at q; cases q) (nm b o q)).2
  · cases q : H a with
    | none => exact h.lent a ha q
    | some o =>
      cases q2 : G a with
      | some o2 => rw [s' _ _ (s _ _ q2)] at z; cases z
      | none =>
        by_cases hT : a ∈ fr.tabs
        · obtain ⟨⟨ps, e, _⟩, _⟩ := t a hT
          rw [e] at z
          cases z
        · by_cases ham : a = m
          · rw [ham, hm] at z; cases z
          · rw [(k a o q q2 hT ham).1] at z
            cases z
  · by_cases hi : i = j
    · subst hi
      rw [List.getElem?_set_self hj] at e
      cases e
      exact ⟨m, ys, by rw [em]; rfl, hm, q, gm, z5, z6⟩
    · rw [List.getElem?_set_ne (Ne.symm hi)] at e
      cases sl with
      | un => trivial
      | sh d =>
        obtain ⟨x, e1, e2⟩ := h.slots i _ e
        exact ⟨x, e1, Sub.dq s _ _ e2⟩
      | own t' ds =>
        obtain ⟨a, xs, e1, k1, k2, k3, k4, k5⟩ := h.ownAt e
        have nt : a ∉ fr.tabs := fun z => by
          obtain ⟨⟨ps, e, _⟩, _⟩ := h.tab a z
          rw [e] at k1
          cases k1
        have na : a ≠ m := fun z => h.dist j i t0 t' es ds m (Ne.symm hi) ej e em (by rw [← z]; exact e1)
        obtain ⟨m1, m2⟩ := k a _ k1 k3 nt na
        exact ⟨a, xs, by rw [e1]; rfl, m1, Sub.dqAll s _ _ k2, m2, k4, k5⟩
  · obtain ⟨t3, es3, e3⟩ := n _ _ _ e1
    obtain ⟨t4, es4, e4⟩ := n _ _ _ e2
    exact h.dist i i2 t3 t4 es3 es4 b hii e3 e4
end
section
variable {X : Cx} {fr : Fr} {e : Expr} {es : List Expr} {Fs : Mo (List Rv)} {x : Str} {p pos : Pos} {k n j : Nat} {f : Addr} {fd : FuncData} {ps : List Str} {g : List PyData → List PyData → FnL}
theorem ev_callL (F : FnOk X.prog X.w X.K X.mg X.base CX0 k f fd ps (spL X.K fr.tabs n g)) (hr : Room k X.A) (hg : Gl X x) (hm : X.mg x = some (.ref f)) (hk : PySem.W.keepIn X.K (.ref f) = true) (hb : Binds X.K fd ps [])
    (h0 : PEv X fr e (readF j)) (ha : PAv X fr es Fs) (hdb : (x == ("__debug__" : Str)) = false := by decide) (he : starEach (e :: es) X.env = (false, eval e X.env) :: starEach es X.env := by rfl) (hpl : (backTo pos (starEach es X.env)).any (·.1) = false := by rfl) :
    PEv X fr (.Call (.Name x p) (e :: es) [] pos) (callL n g j Fs) :=
  weakE (pe_call F hr hg hm hk hb .nil (pass0) (pa_cons h0 ha he) hdb he hpl) fun σ H Q ⟨env, G, h, w⟩ => by
    unfold callL at w
    obtain ⟨t0, es0, e0, w0⟩ := wpM_need w
    refine tE_read h e0 fun m H0 G0 xs0 h0 s0 em _ _ => ?_
    refine tA_then h0 w0 (fun rs env1 H1 G1 vs h1 s1 q1 w1 => ?_) fun c e1 E1 H1 G1 h1 s1 => E1 H1 G1 h1 (s0.trans s1)
    obtain ⟨ds, env2, G2, h2, s2, d2, w2⟩ := forces_ok h1 q1 (wpM_bind.mp w1)
    obtain ⟨t3, es3, e3, w3⟩ := wpM_own w2
    obtain ⟨m', xs3, z1, z2, z3, z4, z5, z6⟩ := h2.ownAt e3
    rw [em] at z1
    cases z1
    rw [List.append_nil]
    split at w3
    · rename_i len
      cases z : g es3 ds with
      | stuck => rw [z] at w3; exact w3.elim
      | ok r out =>
        rw [z] at w3
        have w4 := wpM_put e3 w3
        exact ⟨G2, m, vs, xs3, es3, ds, rfl, h2.sub, h2.tab, len, z2, z4, z3, d2, r, out, z, fun H' G' v ys sG sH t k hm gm qo q => by
          have h4 := h2.keptL e3 em sG sH t k hm gm qo
          refine w4 H' G' v h4 (((s0.trans s1).trans s2).trans sG) ?_
          cases r with
          | sh d => exact q
          | sl _ => exact q.elim
          | fr ds' =>
            obtain ⟨a, xs, e5, k1, k2, k3, k4⟩ := q
            refine ⟨a, xs, e5, k1, k2, k3, ?_, fun z => h2.lent a z k4, fun i t es' ei => ?_⟩
            · cases z : fr.prot a with
              | none => rfl
              | some o => rw [h2.prot a o z] at k4; cases k4
            · by_cases hi : i = j
              · rw [hi, em]
                intro z
                cases z
                rw [z2] at k4
                cases k4
              · rw [List.getElem?_set_ne (Ne.symm hi)] at ei
                exact h2.notOwn k4 i t es' ei⟩
    · exact w3.elim
end

/-! ### a call that only reads our lists; what it hands back holds none -/
def callB (n : Nat) (g : List PyData → FnR) (Fs : Mo (List Rv)) : Mo Rv := do
  let rs ← Fs
  let ds ← peeks rs
  if ds.length = n then
    match g ds with
    | .ok r => if freeRv r = true then pure r else stuckM
    | _ => stuckM
  else stuckM
/-- the addresses of our own lists -/
noncomputable def ownA (env : Fv) (σ : L2.St) : Addr → Bool := fun b => @decide (∃ (i : Nat) (t : Option Nat) (ds : List PyData), env[i]? = some (.own t ds) ∧ σ[i]? = some (some (.ref b))) (Classical.propDecidable _)
section
variable {K : PySem.W.Frag} {fr : Fr} {env : Fv} {σ : L2.St} {H G H' G' : Hp}
theorem ownA_iff {b : Addr} : ownA env σ b = true ↔ ∃ (i : Nat) (t : Option Nat) (ds : List PyData), env[i]? = some (.own t ds) ∧ σ[i]? = some (some (.ref b)) := by
  unfold ownA
  exact @decide_eq_true_iff _ (Classical.propDecidable _)
theorem SR.ownA_at (h : SR K fr env σ H G) {b : Addr} (hb : ownA env σ b = true) : (∃ xs, H b = some (.lst xs)) ∧ G b = none ∧ fr.prot b = none := by
  obtain ⟨i, t, ds, e1, e2⟩ := ownA_iff.mp hb
  obtain ⟨a, xs, z1, z2, z3, z4, z5, _⟩ := h.ownAt e1
  rw [e2] at z1
  cases z1
  exact ⟨⟨xs, z2⟩, z4, z5⟩
theorem SR.laySub (h : SR K fr env σ H G) : Sub (lay G H (ownA env σ)) H := fun b o e => by
  unfold lay at e
  split at e
  · exact e
  · exact h.sub b o e
theorem SR.subLay (h : SR K fr env σ H G) : Sub G (lay G H (ownA env σ)) := fun b o e => by
  unfold lay
  rw [if_neg (fun z => by rw [(h.ownA_at z).2.1] at e; cases e)]
  exact e
theorem SR.tabLay (h : SR K fr env σ H G) : Tabs fr.tabs H (lay G H (ownA env σ)) := fun P hP => ⟨(h.tab P hP).1, by
  obtain ⟨⟨ps, e, _⟩, g⟩ := h.tab P hP
  unfold lay
  rw [if_neg (fun z => by
    obtain ⟨⟨xs, e2⟩, _⟩ := h.ownA_at z
    rw [e2] at e
    cases e)]
  exact g⟩
theorem peeks_lay (h : SR K fr env σ H G) : ∀ {vs : List V} {rs : List Rv}, RvsOk K σ G vs rs → ∀ {Q : List PyData → Fv → Prop} {E : Nat → Fv → Prop}, wpM (peeks rs) env Q E → ∃ ds, DqAll K (lay G H (ownA env σ)) vs ds ∧ Q ds env
  | [], [], _, _, _, w => ⟨[], .nil, w⟩
  | [], _ :: _, h, _, _, _ => h.elim
  | _ :: _, [], h, _, _, _ => h.elim
  | v :: vs, r :: rs, q, Q, E, w => by
    obtain ⟨q1, q2⟩ := rvsOk_cons.mp q
    unfold peeks at w
    have one : ∃ d, Dq K (lay G H (ownA env σ)) v d ∧ wpM (peeks rs >>= fun ds => pure (d :: ds)) env Q E := by
      have w' := wpM_bind.mp w
      cases r with
      | sh d => exact ⟨d, Sub.dq h.subLay _ _ q1, w'⟩
      | fr ds => exact q1.elim
      | sl i =>
        have q1' : σ[i]? = some (some v) := q1
        unfold wpM peek at w'
        cases e : env[i]? with
        | none => simp [e] at w'
        | some sl =>
          cases sl with
          | un => simp [e] at w'
          | sh d =>
            simp only [e] at w'
            obtain ⟨x, e1, e2⟩ := h.shAt e
            rw [q1'] at e1; cases e1
            exact ⟨d, Sub.dq h.subLay _ _ e2, w'⟩
          | own t ds =>
            simp only [e] at w'
            obtain ⟨a, xs, e1, e2, e3, _⟩ := h.ownAt e
            rw [q1'] at e1; cases e1
            refine ⟨.list ds, .lst ?_ (Sub.dqAll h.subLay _ _ e3), w'⟩
            unfold lay
            rw [if_pos (ownA_iff.mpr ⟨i, t, ds, e, q1'⟩)]
            exact e2
    obtain ⟨d, h1, w1⟩ := one
    obtain ⟨ds, h2, w2⟩ := peeks_lay h q2 (wpM_bind.mp w1)
    exact ⟨d :: ds, .cons h1 h2, w2⟩
theorem SR.keptB (h : SR K fr env σ H G) (s : Sub (lay G H (ownA env σ)) G') (s' : Sub G' H') (t : Tabs fr.tabs H' G') (k : Kept fr.tabs (fun _ => False) H (lay G H (ownA env σ)) H' G') :
    SR K fr env σ H' (drop G' (ownA env σ)) ∧ Sub G (drop G' (ownA env σ)) := by
  have sG : Sub G (drop G' (ownA env σ)) := fun b o e => by
    unfold drop
    rw [if_neg (fun z => by rw [(h.ownA_at z).2.1] at e; cases e)]
    exact s b o (h.subLay b o e)
  have nl : ∀ b o, fr.prot b = some o → lay G H (ownA env σ) b = none := fun b o e => by
    unfold lay
    rw [if_neg (fun z => by rw [(h.ownA_at z).2.2] at e; cases e)]
    exact h.dj b (ne_none_of e)
  refine ⟨⟨fun b o e => ?_, fun b o e => (k b o (h.prot b o e) (nl b o e) (fun z => by rw [h.pt b z] at e; cases e) id).1, fun b e => ?_, fun P hP => ⟨(t P hP).1, by unfold drop; split; rfl; exact (t P hP).2⟩, h.pt, fun a ha z => ?_, h.len, fun i sl e => ?_, h.dist⟩, sG⟩
  · unfold drop at e
    split at e
    · cases e
    · exact s' b o e
  · cases q : fr.prot b with
    | none => exact absurd q e
    | some o =>
      unfold drop
      split
      · rfl
      · exact (k b o (h.prot b o q) (nl b o q) (fun z => by rw [h.pt b z] at q; cases q) id).2
  · cases q : H a with
    | none => exact h.lent a ha q
    | some o =>
      cases q2 : lay G H (ownA env σ) a with
      | some o2 => rw [s' _ _ (s _ _ q2)] at z; cases z
      | none =>
        by_cases hT : a ∈ fr.tabs
        · obtain ⟨⟨ps, e, _⟩, _⟩ := t a hT
          rw [e] at z
          cases z
        · rw [(k a o q q2 hT id).1] at z
          cases z
  · cases sl with
    | un => trivial
    | sh d =>
      obtain ⟨x, e1, e2⟩ := h.slots i _ e
      exact ⟨x, e1, Sub.dq sG _ _ e2⟩
    | own t' ds =>
      obtain ⟨a, xs, e1, k1, k2, k3, k4, k5⟩ := h.ownAt e
      have ha : ownA env σ a = true := ownA_iff.mpr ⟨i, t', ds, e, e1⟩
      have hl : lay G H (ownA env σ) a = some (.lst xs) := by unfold lay; rw [if_pos ha]; exact k1
      exact ⟨a, xs, by rw [e1]; rfl, s' _ _ (s _ _ hl), Sub.dqAll sG _ _ k2, by unfold drop; rw [if_pos ha], k4, k5⟩
theorem keptB_val (h : SR K fr env σ H G) (s : Sub (lay G H (ownA env σ)) G') {v : V} {r : Rv} (hf : freeRv r = true) (q : RetOk K H H' G' v r) : RvOk K fr env σ H' (drop G' (ownA env σ)) v r := by
  have hA : ∀ b, ownA env σ b = true → ∀ xs, Rd G' b (.tup xs) → False := fun b hb xs z => by
    obtain ⟨⟨ys, e⟩, _⟩ := h.ownA_at hb
    have hl : lay G H (ownA env σ) b = some (.lst ys) := by unfold lay; rw [if_pos hb]; exact e
    have e2 := s _ _ hl
    rcases z with z | ⟨o, z⟩
    · rw [e2] at z; cases z
    · rw [e2] at z; cases z
  cases r with
  | sh d => exact noList_drop hA d hf _ q
  | sl _ => exact q.elim
  | fr ds =>
    obtain ⟨a, xs, e, k1, k2, k3, k4⟩ := q
    refine ⟨a, xs, e, k1, noLists_drop hA ds hf _ k2, ?_, ?_, fun z => h.lent a z k4, h.notOwn k4⟩
    · unfold drop
      split
      · rfl
      · exact k3
    · cases z : fr.prot a with
      | none => rfl
      | some o => rw [h.prot a o z] at k4; cases k4
end
section
variable {X : Cx} {fr : Fr} {e : Expr} {es : List Expr} {Fs : Mo (List Rv)} {x : Str} {p pos : Pos} {k n : Nat} {f : Addr} {fd : FuncData} {ps : List Str} {g : List PyData → FnR}
theorem ev_callBw (F : FnOk X.prog X.w X.K X.mg X.base CX0 k f fd ps (sp0 X.K fr.tabs n g)) (hr : Room k X.A) (hg : Gl X x) (hm : X.mg x = some (.ref f)) (hk : PySem.W.keepIn X.K (.ref f) = true) (hb : Binds X.K fd ps [])
    (ha : PAv X fr (e :: es) Fs) (hdb : (x == ("__debug__" : Str)) = false := by decide) (he : starEach (e :: es) X.env = (false, eval e X.env) :: starEach es X.env := by rfl) (hpl : (backTo pos (starEach es X.env)).any (·.1) = false := by rfl) :
    PEv X fr (.Call (.Name x p) (e :: es) [] pos) (callB n g Fs) :=
  weakE (pe_call F hr hg hm hk hb .nil (pass0) ha hdb he hpl) fun σ H Q ⟨env, G, h, w⟩ => by
    unfold callB at w
    refine tA_then h w (fun rs env1 H1 G1 vs h1 s1 q1 w1 => ?_) fun c e1 E1 H1 G1 h1 s1 => E1 H1 G1 h1 s1
    obtain ⟨ds, d2, w2⟩ := peeks_lay h1 q1 (wpM_bind.mp w1)
    rw [List.append_nil]
    split at w2
    · rename_i len
      cases z : g ds with
      | exc c => rw [z] at w2; exact w2.elim
      | stuck => rw [z] at w2; exact w2.elim
      | ok r =>
        rw [z] at w2
        simp only at w2
        split at w2
        · rename_i hf
          exact ⟨_, ds, h1.laySub, h1.tabLay, len, d2, r, z, fun H' G' v sG sH t k q => by
            obtain ⟨h3, s3⟩ := h1.keptB sG sH t k
            exact w2 H' _ v h3 (s1.trans s3) (keptB_val h1 sG hf q)⟩
        · exact w2.elim
    · exact w2.elim
end
end Cf
/-! Cf, part J: comprehensions. -/
namespace Cf
open PySem PySem.Spec PyProof.Rows L2

def wipeE : List Nat → Fv → Fv
  | [], e => e
  | v :: vs, e => (wipeE vs e).set v .un
def restE (e : Fv) : List Nat → Fv → Fv
  | [], e' => e'
  | v :: vs, e' => (restE e vs e').set v ((e[v]?).getD .un)
def noOwn (vs : List Nat) (e : Fv) : Bool := vs.all fun v => match e[v]? with
  | some (.own _ _) => false
  | _ => true
theorem wipeE_length : ∀ (vs : List Nat) (e : Fv), (wipeE vs e).length = e.length
  | [], e => rfl
  | v :: vs, e => by unfold wipeE; rw [List.length_set, wipeE_length vs e]
theorem restE_length (e : Fv) : ∀ (vs : List Nat) (e' : Fv), (restE e vs e').length = e'.length
  | [], _ => rfl
  | v :: vs, e' => by unfold restE; rw [List.length_set, restE_length e vs e']
theorem wipeE_out {i : Nat} : ∀ {vs : List Nat} {e : Fv}, i ∉ vs → (wipeE vs e)[i]? = e[i]?
  | [], _, _ => rfl
  | v :: vs, e, h => by
    unfold wipeE
    rw [List.getElem?_set_ne (fun z => h (by simp [z]))]
    exact wipeE_out fun z => h (List.mem_cons_of_mem _ z)
theorem wipeE_in {i : Nat} : ∀ {vs : List Nat} {e : Fv}, i ∈ vs → i < e.length → (wipeE vs e)[i]? = some .un
  | v :: vs, e, h, hl => by
    unfold wipeE
    by_cases hv : v = i
    · subst hv
      rw [List.getElem?_set_self (by rw [wipeE_length]; exact hl)]
    · rw [List.getElem?_set_ne hv]
      exact wipeE_in ((List.mem_cons.mp h).resolve_left fun z => hv z.symm) hl
theorem restE_out {e : Fv} {i : Nat} : ∀ {vs : List Nat} {e' : Fv}, i ∉ vs → (restE e vs e')[i]? = e'[i]?
  | [], _, _ => rfl
  | v :: vs, e', h => by
    unfold restE
    rw [List.getElem?_set_ne (fun z => h (by simp [z]))]
    exact restE_out fun z => h (List.mem_cons_of_mem _ z)
theorem restE_in {e : Fv} {i : Nat} : ∀ {vs : List Nat} {e' : Fv}, i ∈ vs → i < e'.length → (restE e vs e')[i]? = some ((e[i]?).getD .un)
  | v :: vs, e', h, hl => by
    unfold restE
    by_cases hv : v = i
    · subst hv
      rw [List.getElem?_set_self (by rw [restE_length]; exact hl)]
    · rw [List.getElem?_set_ne hv]
      exact restE_in ((List.mem_cons.mp h).resolve_left fun z => hv z.symm) hl
theorem wipe_at {σ : L2.St} {i : Nat} {vs : List Nat} (h : i ∉ vs) : (wipe σ vs)[i]? = σ[i]? := wipe_out h

theorem wipe_in {σ : L2.St} {i : Nat} : ∀ {vs : List Nat}, i ∈ vs → i < σ.length → (L2.wipe σ vs)[i]? = some none
  | v :: vs, h, hl => by
    unfold L2.wipe
    by_cases hv : v = i
    · subst hv
      rw [List.getElem?_set_self (by rw [wipe_length]; exact hl)]
    · rw [List.getElem?_set_ne hv]
      exact wipe_in ((List.mem_cons.mp h).resolve_left fun z => hv z.symm) hl
theorem wipe_off {σ σ' : L2.St} {vs ws : List Nat} (h : Off ws (L2.wipe σ vs) σ') (s : ∀ i ∈ ws, i ∈ vs) : L2.wipe σ' vs = L2.wipe σ vs := by
  have hl : σ'.length = σ.length := by have := h.1; rw [wipe_length] at this; exact this
  refine List.ext_getElem? fun i => ?_
  by_cases hi : i ∈ vs
  · by_cases hlt : i < σ.length
    · rw [wipe_in hi hlt, wipe_in hi (by omega)]
    · rw [List.getElem?_eq_none (by rw [wipe_length]; omega), List.getElem?_eq_none (by rw [wipe_length]; omega)]
  · rw [wipe_at hi, h.2 i (fun z => hi (s i z))]
theorem restE_own {vs : List Nat} {env env' : Fv} (no : noOwn vs env = true) {i : Nat} {t : Option Nat} {es : List PyData} (e : (restE env vs env')[i]? = some (.own t es)) : i ∉ vs ∧ (wipeE vs env')[i]? = some (.own t es) := by
  have hi : i ∉ vs := fun hi => by
    have hlt : i < env'.length := by
      have := (List.getElem?_eq_some_iff.mp e).1
      rw [restE_length] at this
      exact this
    rw [restE_in hi hlt] at e
    have q := List.all_eq_true.mp no i hi
    cases z : env[i]? with
    | none => rw [z] at e; cases e
    | some sl =>
      rw [z] at e q
      cases e
      cases q
  rw [restE_out hi] at e
  exact ⟨hi, by rw [wipeE_out hi]; exact e⟩
section
variable {K : PySem.W.Frag} {fr : Fr} {env env' : Fv} {σ : L2.St} {H G H' G' : Hp}
/-- the slots of vs forgotten -/
theorem SR.wipe (h : SR K fr env σ H G) (vs : List Nat) : SR K fr (wipeE vs env) (L2.wipe σ vs) H G := by
  have n : ∀ (i : Nat) (sl : Sl), (wipeE vs env)[i]? = some sl → sl = .un ∨ (i ∉ vs ∧ env[i]? = some sl) := fun i sl e => by
    by_cases hi : i ∈ vs
    · by_cases hl : i < env.length
      · rw [wipeE_in hi hl] at e; cases e; exact .inl rfl
      · rw [List.getElem?_eq_none (by rw [wipeE_length]; omega)] at e; cases e
    · rw [wipeE_out hi] at e; exact .inr ⟨hi, e⟩
  refine ⟨h.sub, h.prot, h.dj, h.tab, h.pt, h.lent, by rw [wipeE_length, wipe_length]; exact h.len, fun i sl e => ?_, fun i j t t' es es' a hij ei ej => ?_⟩
  · rcases n i sl e with rfl | ⟨hi, e⟩
    · trivial
    · rw [wipe_at hi]; exact h.slots i sl e
  · rcases n i _ ei with z | ⟨hi, ei⟩
    · cases z
    · rcases n j _ ej with z | ⟨hj, ej⟩
      · cases z
      · rw [wipe_at hi, wipe_at hj]; exact h.dist i j t t' es es' a hij ei ej
/-- behind a block: the slots of vs as they were -/
theorem SR.rest {vs : List Nat} (h : SR K fr env σ H G) (h' : SR K fr (wipeE vs env') (L2.wipe σ vs) H' G') (s : Sub G G') (no : noOwn vs env = true) : SR K fr (restE env vs env') σ H' G' := by
  have hl : env'.length = σ.length := by have := h'.len; rw [wipeE_length, wipe_length] at this; exact this
  have hl2 := h.len
  have n : ∀ (i : Nat) (sl : Sl), (restE env vs env')[i]? = some sl → (i ∈ vs ∧ (sl = .un ∨ ∃ d, sl = .sh d ∧ env[i]? = some (.sh d))) ∨ (i ∉ vs ∧ (wipeE vs env')[i]? = some sl) := fun i sl e => by
    by_cases hi : i ∈ vs
    · by_cases hlt : i < env'.length
      · rw [restE_in hi hlt] at e
        cases e
        have q := List.all_eq_true.mp no i hi
        cases z : env[i]? with
        | none => exact .inl ⟨hi, .inl rfl⟩
        | some sl =>
          cases sl with
          | un => exact .inl ⟨hi, .inl rfl⟩
          | sh d => exact .inl ⟨hi, .inr ⟨d, rfl, rfl⟩⟩
          | own t ds => rw [z] at q; cases q
      · rw [List.getElem?_eq_none (by rw [restE_length]; omega)] at e; cases e
    · rw [restE_out hi] at e
      exact .inr ⟨hi, by rw [wipeE_out hi]; exact e⟩
  refine ⟨h'.sub, h'.prot, h'.dj, h'.tab, h'.pt, h'.lent, by rw [restE_length]; exact hl, fun i sl e => ?_, fun i j t t' es es' a hij ei ej => ?_⟩
  · rcases n i sl e with ⟨_, rfl | ⟨d, rfl, e2⟩⟩ | ⟨hi, e2⟩
    · trivial
    · obtain ⟨x, e3, e4⟩ := h.slots i _ e2
      exact ⟨x, e3, Sub.dq s _ _ e4⟩
    · have q := h'.slots i sl e2
      rw [wipe_at hi] at q
      exact q
  · rcases n i _ ei with ⟨_, z | ⟨d, z, _⟩⟩ | ⟨hi, e2⟩
    · cases z
    · cases z
    · rcases n j _ ej with ⟨_, z | ⟨d, z, _⟩⟩ | ⟨hj, e3⟩
      · cases z
      · cases z
      · have q := h'.dist i j t t' es es' a hij e2 e3
        rw [wipe_at hi, wipe_at hj] at q
        exact q
/-- a thing of our own that no slot holds is to stay -/
theorem SR.guard (h : SR K fr env σ H G) {D : Addr} {o : HO} (e : H D = some o) (g : G D = none) (nt : D ∉ fr.tabs) (no : ∀ (i : Nat) (t : Option Nat) (es : List PyData), env[i]? = some (.own t es) → σ[i]? ≠ some (some (.ref D))) (W : Nat → Hp → Prop) : SR K ⟨upd fr.prot D o, fr.muts, fr.tabs, W⟩ env σ H G := by
  refine ⟨h.sub, fun b x q => ?_, fun b q => ?_, h.tab, fun P hP => ?_, h.lent, h.len, fun i sl q => ?_, h.dist⟩
  · have q' : upd fr.prot D o b = some x := q
    by_cases hb : b = D
    · rw [hb, upd_same] at q'; cases q'; rw [hb]; exact e
    · rw [upd_ne hb] at q'; exact h.prot b x q'
  · have q' : upd fr.prot D o b ≠ none := q
    by_cases hb : b = D
    · rw [hb]; exact g
    · rw [upd_ne hb] at q'; exact h.dj b q'
  · show upd fr.prot D o P = none
    rw [upd_ne (fun z => nt (by rw [← z]; exact hP))]
    exact h.pt P hP
  · have z := h.slots i sl q
    cases sl with
    | un => trivial
    | sh d => exact z
    | own t es =>
      obtain ⟨a, xs, e1, k1, k2, k3, k4, k5⟩ := h.ownAt q
      refine ⟨a, xs, by rw [e1]; rfl, k1, k2, k3, ?_, k5⟩
      show upd fr.prot D o a = none
      rw [upd_ne (fun z => no i t es q (by rw [← z]; exact e1))]
      exact k4
theorem SR.unguard {D : Addr} {o : HO} {W : Nat → Hp → Prop} (hD : fr.prot D = none) (h : SR K ⟨upd fr.prot D o, fr.muts, fr.tabs, W⟩ env σ H G) : SR K fr env σ H G ∧ H D = some o ∧ G D = none ∧ ∀ (i : Nat) (t : Option Nat) (es : List PyData), env[i]? = some (.own t es) → σ[i]? ≠ some (some (.ref D)) := by
  have at_ : ∀ b, b ≠ D → upd fr.prot D o b = fr.prot b := fun b hb => upd_ne hb
  refine ⟨⟨h.sub, fun b x q => ?_, fun b q => ?_, h.tab, fun P hP => ?_, h.lent, h.len, fun i sl q => ?_, h.dist⟩, h.prot D o upd_same, h.dj D (by show upd fr.prot D o D ≠ none; rw [upd_same]; simp), fun i t es q z => ?_⟩
  · refine h.prot b x ?_
    show upd fr.prot D o b = some x
    rw [at_ b (fun z => by rw [z, hD] at q; cases q)]
    exact q
  · refine h.dj b ?_
    show upd fr.prot D o b ≠ none
    rw [at_ b (fun z => q (by rw [z]; exact hD))]
    exact q
  · have q : upd fr.prot D o P = none := h.pt P hP
    by_cases hb : P = D
    · rw [hb]; exact hD
    · rw [at_ P hb] at q; exact q
  · have z := h.slots i sl q
    cases sl with
    | un => trivial
    | sh d => exact z
    | own t es =>
      obtain ⟨a, xs, e1, k1, k2, k3, k4, k5⟩ := h.ownAt q
      have k4' : upd fr.prot D o a = none := k4
      have na : a ≠ D := fun y => by rw [y, upd_same] at k4'; cases k4'
      rw [at_ a na] at k4'
      exact ⟨a, xs, by rw [e1]; rfl, k1, k2, k3, k4', k5⟩
  · obtain ⟨a, xs, e1, k1, k2, k3, k4, k5⟩ := h.ownAt q
    rw [e1] at z
    cases z
    have k4' : upd fr.prot D o D = none := k4
    rw [upd_same] at k4'
    cases k4'
/-- such a thing is changed -/
theorem SR.poke (h : SR K fr env σ H G) {D : Addr} {o o' : HO} (e : H D = some o) (hD : fr.prot D = none) (g : G D = none) (nt : D ∉ fr.tabs) (no : ∀ (i : Nat) (t : Option Nat) (es : List PyData), env[i]? = some (.own t es) → σ[i]? ≠ some (some (.ref D))) : SR K fr env σ (upd H D o') G := by
  refine ⟨fun b x q => ?_, fun b x q => ?_, h.dj, fun P hP => ?_, h.pt, fun a ha => ?_, h.len, fun i sl q => ?_, h.dist⟩
  · rw [upd_ne (ne_of_none q g)]; exact h.sub b x q
  · rw [upd_ne (ne_of_none q hD)]; exact h.prot b x q
  · obtain ⟨⟨ps, e2, r⟩, g⟩ := h.tab P hP
    exact ⟨⟨ps, by rw [upd_ne (fun z => nt (by rw [← z]; exact hP))]; exact e2, r⟩, g⟩
  · by_cases hb : a = D
    · rw [hb, upd_same]; simp
    · rw [upd_ne hb]; exact h.lent a ha
  · have z := h.slots i sl q
    cases sl with
    | un => trivial
    | sh d => exact z
    | own t es =>
      obtain ⟨a, xs, e1, k1, k2⟩ := h.ownAt q
      exact ⟨a, xs, by rw [e1]; rfl, by rw [upd_ne (fun z => no i t es q (by rw [← z]; exact e1))]; exact k1, k2⟩
end

/-! ### [e for x in xs if t] -/
def lcLoop (vs : List Nat) (T : PyData → Mo Unit) (C : Mo Bool) (F : Mo Rv) : List PyData → List PyData → Mo (List PyData)
  | [], acc => pure acc
  | d :: ds, acc => fun e => (thenU (T d) do
      let b ← C
      if b = true then do
        let r ← F
        let x ← force r
        if acc.length < sizeLine then lcLoop vs T C F ds (acc ++ [x]) else stuckM
      else lcLoop vs T C F ds acc) (wipeE vs e)
def block {α : Type} (vs : List Nat) (m : Mo α) : Mo α := fun e => if noOwn vs e = true then
    match m e with
    | .ok a e' => .ok a (restE e vs e')
    | .exc _ _ => .stuck
    | .stuck => .stuck
  else .stuck
def lcF (vs : List Nat) (I : Mo (List PyData)) (T : PyData → Mo Unit) (C : Mo Bool) (F : Mo Rv) : Mo Rv := do
  let ds ← I
  let acc ← block vs (lcLoop vs T C F ds [])
  pure (.fr acc)
theorem wpM_block {α β : Type} {vs : List Nat} {m : Mo α} {k : α → Mo β} {env : Fv} {Q : β → Fv → Prop} {E : Nat → Fv → Prop} (w : wpM (block vs m >>= k) env Q E) : noOwn vs env = true ∧ wpM m env (fun a e' => wpM (k a) (restE env vs e') Q E) (fun _ _ => False) := by
  rw [wpM_bind] at w
  unfold wpM block at w
  by_cases h : noOwn vs env = true
  · rw [if_pos h] at w
    refine ⟨h, ?_⟩
    unfold wpM
    cases z : (m env : Res α) <;> simp only [z] at w ⊢
    exact w
  · rw [if_neg h] at w
    exact w.elim
def PTsv (X : Cx) (fr : Fr) (ifs : List Expr) (C : Mo Bool) : Prop := PTs X ifs (tT X.K fr C)
def yesF : Mo Bool := pure true
section
variable {X : Cx} {fr : Fr} {c : Expr} {C : Mo Bool}
theorem ets_nil : PTsv X fr [] yesF := ⟨fun pins s σ H Q I ⟨env, G, h, w⟩ => pts_nil.run pins s σ H Q I (w H G h .refl)⟩
theorem ets_one (h : PTv X fr c C) : PTsv X fr [c] C := pts_one h
end
abbrev Fr.in (fr : Fr) (p : Hp) : Fr := ⟨p, fr.muts, fr.tabs, fun _ _ => False⟩
section
variable {X : Cx} {fr : Fr} {elt tg iter : Expr} {ifs : List Expr} {scope : Scope} {own : List (Str × Nat)} {pos : Pos} {I : Mo (List PyData)} {T : PyData → Mo Unit} {C : Mo Bool} {F : Mo Rv} {ws : List Nat}
theorem lc_reads (hws : ∀ i ∈ ws, i ∈ own.map (·.2)) : ∀ σ H Q, tE X.K fr (lcF (own.map (·.2)) I T C F) σ H Q → tLc (tI X.K fr I) (fun v σ H Q => ∃ p, tG X.K (fr.in p) ws T v σ H Q) (fun σ H Q => ∃ p, tT X.K (fr.in p) C σ H Q) (fun σ H Q => ∃ p, tE X.K (fr.in p) F σ H Q) (own.map (·.2)) σ H Q := fun σ H Q ⟨env, G, h, w⟩ => by
  unfold lcF at w
  generalize own.map (·.2) = vs at hws w ⊢
  refine ⟨env, G, h, wpM_mono (wpM_bind.mp w) (fun ds env1 w1 H1 G1 J h1 s1 io => ?_) fun c e1 E1 => E1⟩
  obtain ⟨no, w2⟩ := wpM_block w1
  intro D hD
  have pD : fr.prot D = none := by
    cases z : fr.prot D with
    | none => rfl
    | some o => rw [h1.prot D o z] at hD; cases hD
  have nT : D ∉ fr.tabs := fun z => by
    obtain ⟨⟨ps, e, _⟩, _⟩ := h1.tab D z
    rw [hD] at e
    cases e
  have stD := Stp.lay (o := .lst []) h1.sub hD
  have hw := (h1.stp stD).wipe vs
  refine ⟨fun i m H' => ∃ env' G' acc accV, SR X.K fr (wipeE vs env') (wipe σ vs) H' G' ∧ Sub G1 G' ∧ H' D = some (.lst accV) ∧ DqAll X.K G' accV acc ∧ G' D = none ∧
      (∀ (i : Nat) (t : Option Nat) (es : List PyData), (wipeE vs env')[i]? = some (.own t es) → (wipe σ vs)[i]? ≠ some (some (.ref D))) ∧ m = ds.length - i ∧ i ≤ ds.length ∧
      wpM (lcLoop vs T C F (ds.drop i) acc) env' (fun acc e' => ∀ H' G' v, SR X.K fr (restE env1 vs e') σ H' G' → Sub G1 G' → RvOk X.K fr (restE env1 vs e') σ H' G' v (.fr acc) → Q v H') (fun _ _ => False),
    ⟨ds.length, env1, G1, [], [], hw, .refl, upd_same, .nil, sub_none h1.sub hD, (h1.wipe vs).notOwn hD, by omega, by omega, wpM_mono w2 (fun acc e' q H' G' v h' s' r => q H' G' v h' (s1.trans s') r) fun _ _ z => z⟩, ?_⟩
  rintro i m H2 ⟨env2, G2, acc, accV, h2, s2, hA, qA, gA, nA, rfl, hi2, w3⟩
  by_cases hlt : i < ds.length
  · have hd : ds.drop i = ds[i] :: ds.drop (i + 1) := by rw [List.drop_eq_getElem_cons hlt]
    rw [hd] at w3
    unfold lcLoop at w3
    refine .inr ⟨io.go i H2 G2 s2 h2.sub hlt, fun H3 => ∃ env' G' acc accV, SR X.K fr (wipeE vs env') (wipe σ vs) H3 G' ∧ Sub G1 G' ∧ H3 D = some (.lst accV) ∧ DqAll X.K G' accV acc ∧ G' D = none ∧
      (∀ (i : Nat) (t : Option Nat) (es : List PyData), (wipeE vs env')[i]? = some (.own t es) → (wipe σ vs)[i]? ≠ some (some (.ref D))) ∧
      wpM (lcLoop vs T C F (ds.drop (i + 1)) acc) env' (fun acc e' => ∀ H' G' v, SR X.K fr (restE env1 vs e') σ H' G' → Sub G1 G' → RvOk X.K fr (restE env1 vs e') σ H' G' v (.fr acc) → Q v H') (fun _ _ => False), ?_, fun x H' y => ?_⟩
    · rintro H3 ⟨env', G', acc', accV', a1, a2, a3, a4, a5, a6, a7⟩
      exact ⟨ds.length - (i + 1), by omega, env', G', acc', accV', a1, a2, a3, a4, a5, a6, rfl, by omega, a7⟩
    · obtain ⟨G3, d, e3, st, q3⟩ := io.yld i H2 G2 x H' s2 h2.sub hlt y
      rw [List.getElem?_eq_getElem hlt] at e3
      cases e3
      have h3 := h2.stp st
      have gA3 : G3 D = none := by
        cases z : G3 D with
        | none => rfl
        | some o =>
          rcases st.new D (ne_none_of z) with q | q
          · exact absurd gA q
          · rw [hA] at q; cases q
      have h3g := h3.guard (st.ext _ _ hA) gA3 nT nA (fun _ _ => False)
      refine ⟨_, wipeE vs env2, G3, _, h3g, q3, wpM_mono (wpM_T (w3 : wpM (thenU _ _) (wipeE vs env2) _ _)) (fun _ env4 w4 σ4 G4 o4 h4 s4 => ?_) fun _ _ z => z⟩
      have e4 := wipe_off o4 hws
      refine ⟨e4, upd fr.prot D (.lst accV), env4, G4, h4, wpM_mono (wpM_bind.mp w4) (fun b env5 w5 H5 G5 h5 s5 => ?_) fun _ _ z => z.elim⟩
      have back : ∀ {env6 : Fv} {H6 G6 : Hp}, SR X.K (fr.in (upd fr.prot D (.lst accV))) env6 σ4 H6 G6 → SR X.K fr (wipeE vs env6) (wipe σ vs) H6 G6 ∧ H6 D = some (.lst accV) ∧ G6 D = none ∧ ∀ (i : Nat) (t : Option Nat) (es : List PyData), (wipeE vs env6)[i]? = some (.own t es) → (wipe σ vs)[i]? ≠ some (some (.ref D)) := fun h6 => by
        have h7 := h6.wipe vs
        rw [e4] at h7
        exact SR.unguard pD h7
      cases b with
      | false =>
        rw [if_neg Bool.false_ne_true] at w5
        refine iteF ?_
        obtain ⟨b1, b2, b3, b4⟩ := back h5
        have s25 := (st.mono.trans s4).trans s5
        exact ⟨env5, G5, acc, accV, b1, s2.trans s25, b2, Sub.dqAll s25 _ _ qA, b3, b4, w5⟩
      | true =>
        rw [if_pos rfl] at w5
        refine iteT ?_
        refine ⟨upd fr.prot D (.lst accV), env5, G5, h5, wpM_mono (wpM_bind.mp w5) (fun r env6 w6 H6 G6 v h6 s6 q6 => ?_) fun _ _ z => z.elim⟩
        obtain ⟨x6, env7, G7, h7, s7, d7, w7⟩ := force_ok h6 q6 (wpM_bind.mp w6)
        split at w7
        · rename_i hz
          obtain ⟨b1, b2, b3, b4⟩ := back h7
          have s27 := (((st.mono.trans s4).trans s5).trans s6).trans s7
          have qA7 := Sub.dqAll s27 _ _ qA
          exact ⟨accV, b2, by rw [qA.length]; exact hz, env7, G7, _, _, b1.poke b2 pD b3 nT b4, s2.trans s27, upd_same, qA7.append (.cons d7 .nil), b3, b4, w7⟩
        · exact w7.elim
  · have e : i = ds.length := by omega
    subst e
    rw [List.drop_length] at w3
    refine .inl ⟨io.stop H2 G2 s2 h2.sub, ?_⟩
    have h5 := h1.rest h2 s2 no
    exact w3 H2 G2 (.ref D) h5 s2 ⟨D, accV, rfl, hA, qA, gA, pD, fun z => h1.lent D z hD, fun i t es e1 e2 => by
      obtain ⟨hi, e3⟩ := restE_own no e1
      exact nA i t es e3 (by rw [wipe_at hi]; exact e2)⟩
/-- in the block of a comprehension -/
abbrev InBlk (X : Cx) (fr : Fr) (scope : Scope) (J : Cx → Fr → Prop) : Prop := ∀ (p : Hp) (s : Shared) (H : Hp) (C : Addr) (cl : List (Str × Addr)) (fp : List Addr), J (X.blk s H scope (compEnvC scope cl C X.env) fp) (fr.in p)
theorem ev_lc (hws : ∀ i ∈ ws, i ∈ own.map (·.2)) (hc : X.calm = true) (hN : X.N.Nodup) (hi : PIv X fr tg iter I) (ok : BlkOk X.N X.env.scope scope own) (hg : InBlk X fr scope fun X fr => PGv X fr tg ws T)
    (ht : InBlk X fr scope fun X fr => PTsv X fr ifs C) (he : InBlk X fr scope fun X fr => PEv X fr elt F) (hs : ∀ x, foldedSetIterable iter X.env x = pure x := by intro _; rfl) :
    PEv X fr (.ListComp elt [⟨tg, iter, ifs, 0⟩] scope pos) (lcF (own.map (·.2)) I T C F) :=
  weakE (pe_lc hc hN hi ok (fun s H C cl fp => ⟨fun pins s' σ H' v u Q I r ⟨p, q⟩ => (hg p s H C cl fp).run pins s' σ H' v u Q I r q⟩)
    (fun s H C cl fp => ⟨fun pins s' σ H' Q I ⟨p, q⟩ => (ht p s H C cl fp).run pins s' σ H' Q I q⟩)
    (fun s H C cl fp => ⟨fun pins s' σ H' Q I ⟨p, q⟩ => (he p s H C cl fp).run pins s' σ H' Q I q⟩) hs) (lc_reads hws)
theorem es_setLc {i : Nat} {y : Str} {py spos : Pos} (hws : ∀ i ∈ ws, i ∈ own.map (·.2)) (hc : X.calm = true) (hN : X.N.Nodup) (hy : X.N[i]? = some y) (hyl : X.env.scope.names.lookup y = some .local)
    (hsw : swapsWith (.ListComp elt [⟨tg, iter, ifs, 0⟩] scope pos) (some (.Name y py)) spos.line X.env = pure true) (hi : PIv X fr tg iter I) (ok : BlkOk X.N X.env.scope scope own) (hg : InBlk X fr scope fun X fr => PGv X fr tg ws T)
    (ht : InBlk X fr scope fun X fr => PTsv X fr ifs C) (he : InBlk X fr scope fun X fr => PEv X fr elt F) (hs : ∀ x, foldedSetIterable iter X.env x = pure x := by intro _; rfl) :
    PSv X fr (.Assign [.Name y py] (.ListComp elt [⟨tg, iter, ifs, 0⟩] scope pos) spos) (setF i (lcF (own.map (·.2)) I T C F)) :=
  weakS (ps_setLc (g := fun v σ H Q => ∃ p, tG X.K (fr.in p) ws T v σ H Q) (tt := fun σ H Q => ∃ p, tT X.K (fr.in p) C σ H Q) (te := fun σ H Q => ∃ p, tE X.K (fr.in p) F σ H Q) hc hN hy hyl hsw hi ok (fun s H C cl fp => ⟨fun pins s' σ H' v u Q I r ⟨p, q⟩ => (hg p s H C cl fp).run pins s' σ H' v u Q I r q⟩)
    (fun s H C cl fp => ⟨fun pins s' σ H' Q I ⟨p, q⟩ => (ht p s H C cl fp).run pins s' σ H' Q I q⟩)
    (fun s H C cl fp => ⟨fun pins s' σ H' Q I ⟨p, q⟩ => (he p s H C cl fp).run pins s' σ H' Q I q⟩) hs) fun D σ H ⟨env, G, h, w⟩ => by
    refine lc_reads hws σ H _ ?_
    unfold setF at w
    refine tE_then h w (fun r env1 H1 G1 v h1 s1 q1 w1 => ?_) fun c e1 E1 H1 G1 h1 s1 => E1 σ H1 G1 h1 s1
    obtain ⟨env2, G2, h2, s2, w2⟩ := store_ok3 h1 q1 (wpM_bind.mp w1)
    exact w2 _ H1 G2 h2 (s1.trans s2)
end
end Cf
/-! Cf, part K: list(reversed(x)), items stored, several targets. -/
namespace Cf
open PySem PySem.Spec PyProof.Rows L2 RT

section
variable {prog : Program} {w : World} {A : Around} {E : Value → Shared → Prop} {s : Shared}
theorem extend_rev {R : Result → Shared → Prop} {it l S : Addr} {items : Array Value} {res : Value} {c₀ : Nat} (hh : A.handled = none) (hit : s.heap.IsRevIter it l ((items.size : Int) - 1)) (hl : s.heap.IsList l items) (hne : l ≠ it) (hn : items.size ≤ sizeLine) (hSl : S ≠ l)
    (hS : s.heap.get? S = some { cls := .type "list", data := .seq #[] c₀ })
    (hR : ∀ s' acc' c', Moved [S, it] (fun a b => b = a) s s' → s'.heap.get? S = some { cls := .type "list", dict := none, data := .seq acc' c', slots := #[] } → ItemsOf (fun i v => items[items.size - 1 - i]? = some v) acc' items.size → R (.ok (.ret res)) s') :
    wpAny (model prog w) A.in1 (Builtin.List.listExtendWith (.ref S) (.ref it) res)
      (fun fin s' => match fin with | .done f => R (.ok f) s' | .again c' => c'.quiet = true ∧ codeAny (model prog w) A c' R s') (fun e s' => R (.error e) s') s := by
  have W := (Walks.listRev (prog := prog) (w := w) (A := A.in1) hh it l hne items).toS
  have hSi : S ≠ it := fun z => by
    obtain ⟨o, ho, hc, _⟩ := hit
    rw [z, ho] at hS
    cases hS
    exact absurd (show Value.type "list" = Value.type "list_reverseiterator" from hc) (by decide)
  have hSf : S ∉ [it, l] := by simp [hSi, hSl]
  unfold Builtin.List.listExtendWith
  refine wpAny_bind (wpAny_typeOf (Heap.IsRevIter.typeIs hit) ?_)
  have hsame : Builtin.List.listSameRef (.ref S) (.ref it) = false := by simp [Builtin.List.listSameRef, hSi]
  rw [if_neg (by rw [hsame]; decide)]
  refine wpAny_bind (wpAny_pyIter_revIter hit (wpAny_bind (wpAny_holding ?_)))
  unfold Builtin.List.listLengthHint
  refine wpAny_bind (wpAny_specialOf (Heap.IsRevIter.typeIs hit) nolen_lri ?_)
  show wpAny _ A.in1 (specialOf (Value.ref it) (Str.ofString "__length_hint__") >>= _) _ _ _
  refine wpAny_bind (wpAny_specialOf (Heap.IsRevIter.typeIs hit) hint_lri ?_)
  generalize hid : ("list_reverseiterator.__length_hint__" : String) = id0
  wp_delta
  rw [show splitId id0 = some ("list_reverseiterator", "__length_hint__") from by subst hid; decide +kernel]
  subst hid
  refine wpAny_bind (wpAny_isInstance (b := true) (Heap.IsRevIter.typeIs hit) (by rw [isSubtype_type]; kernel_rfl) (wpAny_pure ?_))
  rw [if_neg (by decide)]
  have e0 : ((items.size : Nat) : Int) - 1 - ((0 : Nat) : Int) = (items.size : Int) - 1 := by omega
  exact wpAny_pure ⟨plainId_quiet F.plain_extend_loop _, codeAny_extend_loopS W hn _ hSf _ items.size 0 _ _ _ rfl (Nat.zero_le _) ⟨Nat.zero_le _, by rw [e0]; exact hit, hl⟩ hS (ItemsOf.nil _) fun s' acc' c' hm hS' hacc => hR s' acc' c' hm hS' hacc⟩
theorem call_listRev {it l : Addr} {items : Array Value} {Q : Value → Shared → Prop} (hh : A.handled = none) (hit : s.heap.IsRevIter it l ((items.size : Int) - 1)) (hl : s.heap.IsList l items) (hne : l ≠ it) (hn : items.size ≤ sizeLine)
    (hQ : ∀ (h' : Heap) (tk : Nat) (acc : Array Value) (c : Nat), (∀ b o, b ≠ it → s.heap.get? b = some o → h'.get? b = some o) → h'.get? s.heap.objs.size = some { cls := .type "list", dict := none, data := .seq acc c, slots := #[] } →
      ItemsOf (fun i v => items[items.size - 1 - i]? = some v) acc items.size → Q (.ref s.heap.objs.size) { s with heap := h', toks := tk }) :
    wpAny (model prog w) A (call (.type "list") [.ref it]) Q E s := by
  have lt_it : it < s.heap.objs.size := let ⟨_, e, _⟩ := hit; Heap.lt_size e
  have lt_l : l < s.heap.objs.size := let ⟨_, e, _⟩ := hl; Heap.lt_size e
  refine callType_codes (Q₁ := fun obj s₁ => obj = .ref s.heap.objs.size ∧ s₁ = { s with heap := s.heap.push { cls := .type "list", data := .seq #[] } }) F.called_list (F.typeCall_list_1 _) F.entry_list_init
    (code_list_new _ ⟨rfl, rfl⟩) fun obj s₁ h₁ => ?_
  obtain ⟨rfl, rfl⟩ := h₁
  have hS : (s.heap.push { cls := .type "list", data := .seq #[] }).get? s.heap.objs.size = some { cls := .type "list", data := .seq #[] } := Heap.get?_push_size _ rfl
  refine ⟨⟨_, hS, rfl⟩, F.args_list_init_2 _ _, ?_⟩
  show wpAny _ A.in1.in1 (do let old ← Builtin.List.listItems (.ref s.heap.objs.size); Builtin.List.listUpdate (.ref s.heap.objs.size) (fun _ => #[]); letGo old.toList.reverse; Builtin.List.listExtendWith (.ref s.heap.objs.size) (.ref it) .none) _ _ _
  refine wpAny_bind ?_
  unfold Builtin.List.listItems
  refine wpAny_bind (wpAny_seqItems hS rfl (wpAny_pure ?_))
  show wpAny _ A.in1.in1 (updateSeq s.heap.objs.size (fun _ => #[]) >>= fun _ => letGo (#[] : Array Value).toList.reverse >>= fun _ => Builtin.List.listExtendWith (.ref s.heap.objs.size) (.ref it) .none) _ _ _
  refine wpAny_bind (wpAny_updateSeq hS rfl ?_)
  have hS₂ := Heap.get?_update_self (Obj.mapSeq (fun _ => (#[] : Array Value))) hS rfl
  have oth : ∀ b o, b ≠ s.heap.objs.size → s.heap.get? b = some o → ((s.heap.push { cls := .type "list", data := .seq #[] }).update s.heap.objs.size (Obj.mapSeq (fun _ => (#[] : Array Value)))).get? b = some o :=
    fun b o hb e => (Heap.get?_update_other _ _ (Ne.symm hb)).trans (Heap.get?_push_of_some _ e)
  refine wpAny_bind (wpAny_letGo ?_)
  refine extend_rev (A := A.in1) hh (hit.at fun o e => oth it o (Nat.ne_of_lt lt_it) e) (let ⟨o, e, r⟩ := hl; ⟨o, oth l o (Nat.ne_of_lt lt_l) e, r⟩) hne hn (Nat.ne_of_gt lt_l) hS₂ fun s' acc' c' hm hS' hacc => ⟨rfl, ?_⟩
  rw [Moved.eq_with hm]
  refine hQ s'.heap s'.toks acc' c' (fun b o hb e => ?_) hS' hacc
  have nb : b ≠ s.heap.objs.size := Nat.ne_of_lt (Heap.lt_size e)
  exact hm.heap b o (by simp [nb, hb]) (oth b o nb e)
end
/-- list(reversed(x)) -/
def revL (F : Mo Rv) : Mo Rv := do
  let r ← F
  let d ← peek r
  match d with
  | .list ds => pure (.fr ds.reverse)
  | _ => stuckM
section
variable {X : Cx} {fr : Fr} {e : Expr} {F : Mo Rv} {p p2 pos pos2 : Pos}
theorem pe_listRev {te : TE} (hc : X.calm = true) (hg : Gl X "list") (hm : X.mg "list" = none) (hg2 : Gl X "reversed") (hm2 : X.mg "reversed" = none) (he : PE X e te)
    (hs : starEach [e] X.env = (false, eval e X.env) :: starEach [] X.env := by rfl)
    (hs2 : starEach [.Call (.Name "reversed" p2) [e] [] pos2] X.env = (false, eval (.Call (.Name "reversed" p2) [e] [] pos2) X.env) :: starEach [] X.env := by rfl) :
    PE X (.Call (.Name "list" p) [.Call (.Name "reversed" p2) [e] [] pos2] [] pos) (fun σ H Q => te σ H fun v H1 => ∃ a xs, v = .ref a ∧ SqL X.K H1 a xs ∧ ∀ q, H1 q = none → Q (.ref q) (upd H1 q (.lst xs.reverse))) := by
  refine ⟨fun pins s σ H Q I h => ?_⟩
  refine Call_ (ld_blt I hg hm boot_list (PyProof.Rows.callWith_type1 (args_cons (Call_ (ld_blt I hg2 hm2 PyProof.Rows.boot_reversed (PyProof.Rows.callWith_type1 (args_cons (thn (he.run pins s σ H _ I h) fun u s1 ⟨v, H1, I1, r1, q1⟩ => args_nil ?_) hs) hs rfl))) hs2) hs2 rfl))
  obtain ⟨a, xs, ev, hq, q⟩ := q1
  subst ev
  obtain rfl : u = Value.ref a := r1
  obtain ⟨its, rv, pl, hz⟩ := I1.list hq
  refine call_reversed_list pl.isList (args_nil ?_)
  have kp : ∀ b o, s1.heap.get? b = some o → (s1.heap.push (revObj a ((its.toArray.size : Int) - 1))).get? b = some o := fun b o e => Heap.get?_push_of_some _ e
  have I2 : Inv X pins σ H1 { s1 with heap := s1.heap.push (revObj a ((its.toArray.size : Int) - 1)) } := I1.kept (t' := s1.toks) kp
  obtain ⟨f0, f1, f2, f3, f4, f5⟩ := I1.fpOk (H' := H1) (b := s1.heap.objs.size) (Nat.le_refl _) (I1.hok.fresh (Nat.le_refl _))
  have hl := pl.isList
  have hne : a ≠ s1.heap.objs.size := by
    obtain ⟨ol, hol, _⟩ := id hl
    exact Nat.ne_of_lt (Heap.lt_size hol)
  have hn : its.toArray.size ≤ sizeLine := by rw [List.size_toArray, ← rv.length]; exact hz
  have hsz : (s1.heap.push (revObj a ((its.toArray.size : Int) - 1))).objs.size = s1.heap.objs.size + 1 := Heap.size_push ..
  refine call_listRev (s := { s1 with heap := s1.heap.push (revObj a ((its.toArray.size : Int) - 1)) }) (I1.ok.hd hc) ⟨_, Heap.get?_push_size _ rfl, rfl, rfl⟩ (hl.push _) hne hn fun h' tk acc c hk hS hi => ?_
  have kp3 : ∀ b o, s1.heap.get? b = some o → h'.get? b = some o := fun b o z => hk b o (Nat.ne_of_lt (Heap.lt_size z)) (kp b o z)
  have I3 : Inv X pins σ (upd H1 (s1.heap.push (revObj a ((its.toArray.size : Int) - 1))).objs.size (.lst xs.reverse)) { s1 with heap := h', toks := tk } :=
    I1.laid (t' := tk) kp3 (by rw [hsz]; omega) (show ObjOk X.prog X.w _ h' _ (.lst xs.reverse) from ⟨by rw [List.length_reverse]; exact hz, acc.toList, c, vals_rev rv hi, by rw [Array.toArray_toList]; exact hS⟩)
  exact ⟨.ref (s1.heap.push (revObj a ((its.toArray.size : Int) - 1))).objs.size, _, I3, rfl, q _ (I2.hok.fresh (Nat.le_refl _))⟩
theorem ev_listRev (hc : X.calm = true) (hg : Gl X "list") (hm : X.mg "list" = none) (hg2 : Gl X "reversed") (hm2 : X.mg "reversed" = none) (he : PEv X fr e F)
    (hs : starEach [e] X.env = (false, eval e X.env) :: starEach [] X.env := by rfl)
    (hs2 : starEach [.Call (.Name "reversed" p2) [e] [] pos2] X.env = (false, eval (.Call (.Name "reversed" p2) [e] [] pos2) X.env) :: starEach [] X.env := by rfl) :
    PEv X fr (.Call (.Name "list" p) [.Call (.Name "reversed" p2) [e] [] pos2] [] pos) (revL F) :=
  weakE (pe_listRev hc hg hm hg2 hm2 he hs hs2) fun σ H Q ⟨env, G, h, w⟩ => by
    unfold revL at w
    refine tE_then h w (fun r env1 H1 G1 v h1 s1 q1 w1 => ?_) fun c e1 E1 H1 G1 h1 s1 => E1 H1 G1 h1 s1
    obtain ⟨d, p, w2⟩ := peek_ok h1 q1 (wpM_bind.mp w1)
    cases d with
    | list ds =>
      obtain ⟨a, xs, rfl, k1, k2⟩ := p
      refine ⟨a, xs, rfl, .of k1, fun q hq => ?_⟩
      have := rvFresh h1.sub hq k2.reverse
      exact w2 _ _ _ (h1.stp this.1) (s1.trans this.1.mono) (this.2.ok h1)
    | _ => exact w2.elim
end

/-! ### x[i] = e -/
def setItemF (i : Nat) (Fi : Mo Rv) (F : Mo Rv) : Mo Out := do
  let r ← F
  let d ← force r
  needOwn i
  let rj ← Fi
  let dj ← peek rj
  let ds ← getOwn i
  match dj with
  | .int k => match ixN ds.length k with
    | some j => do
      putOwn i (ds.set j d)
      pure .nx
    | none => stuckM
  | _ => stuckM
section
variable {X : Cx} {fr : Fr} {o ix e : Expr} {i : Nat} {F Fi : Mo Rv} {pos tpos : Pos}
theorem es_setItem (ho : PEv X fr o (readF i)) (hi : PEv X fr ix Fi) (he : PEv X fr e F)
    (ha : ∀ v, assign (.Subscript o ix tpos) X.env v = (do
      let ov ← holding [v] (eval o X.env)
      let iv ← holding [v, ov] (eval ix X.env)
      standAt tpos
      holding [v, ov, iv] (setItem ov iv v)
      release [v, ov, iv] []) := by intro _; rfl)
    (hs : swapsWithSole [.Subscript o ix tpos] e pos.line X.env = pure false := by rfl) (hw : swappedStores [.Subscript o ix tpos] e X.env = pure none := by rfl)
    (h1 : (assignEach [.Subscript o ix tpos] X.env).map (·.2) = [assign (.Subscript o ix tpos) X.env] := by rfl) : PSv X fr (.Assign [.Subscript o ix tpos] e pos) (setItemF i Fi F) :=
  weakS (ps_asg he (pg_sub ho hi set_list ha) hs hw h1) fun D σ H ⟨env, G, h, w⟩ => by
    unfold setItemF at w
    refine tE_then h w (fun r env1 H1 G1 v h1 s1 q1 w1 => ?_) fun c e1 E1 H1 G1 h1 s1 => E1 σ H1 G1 h1 s1
    obtain ⟨d, env2, G2, h2, s2, d2, w2⟩ := force_ok h1 q1 (wpM_bind.mp w1)
    obtain ⟨t3, ds3, e3, w3⟩ := wpM_need w2
    refine tE_read h2 e3 fun a H4 G4 xs4 h4 s4 z4 _ _ => ?_
    refine tE_then h4 w3 (fun rj env5 H5 G5 vj h5 s5 q5 w5 => ?_) fun c e1 E1 H5 G5 h5 s5 => E1 σ H5 G5 h5 (((s1.trans s2).trans s4).trans s5)
    obtain ⟨dj, p5, w6⟩ := peek_ok h5 q5 (wpM_bind.mp w5)
    obtain ⟨t7, ds7, e7, w7⟩ := wpM_own w6
    obtain ⟨a', xs7, y1, y2, y3, _⟩ := h5.ownAt e7
    rw [z4] at y1
    cases y1
    cases dj with
    | int k =>
      simp only at w7
      cases z : ixN ds7.length k with
      | none => rw [z] at w7; exact w7.elim
      | some j =>
        rw [z] at w7
        have w8 := wpM_put e7 w7
        have hd := Sub.dq (s4.trans s5) _ _ d2
        refine ⟨a, xs7, k, j, rfl, dq_int p5, y2, by rw [y3.length]; exact z, ?_⟩
        exact w8 σ _ G5 (h5.write e7 z4 (y3.set hd j)) (((s1.trans s2).trans s4).trans s5)
    | _ => exact w7.elim
end

/-! ### a, b = x, y -/
/-- a list of values; new lists wait as they are -/
def consU (F : Mo Rv) (Fs : Mo (List Rv)) : Mo (List Rv) := do
  let r ← F
  let rs ← Fs
  pure (r :: rs)
/-- the values, each new list guarded from the others -/
def RvsU (K : PySem.W.Frag) (fr : Fr) (env : Fv) (σ : L2.St) (H G : Hp) : List V → List Rv → Prop
  | [], [] => True
  | v :: vs, r :: rs => RvOk K fr env σ H G v r ∧ RvsU K fr env σ H G vs rs ∧ ∀ ds a, r = .fr ds → v = .ref a → ∀ v' r', (v', r') ∈ vs.zip rs → ∀ ds', r' = .fr ds' → v' ≠ .ref a
  | _, _ => False
def tU (K : PySem.W.Frag) (fr : Fr) (F : Mo (List Rv)) : TA := fun σ H Q => ∃ env G, SR K fr env σ H G ∧
  wpM F env (fun rs env' => ∀ H' G' vs, SR K fr env' σ H' G' → Sub G G' → RvsU K fr env' σ H' G' vs rs → Q vs H') (fun c env' => ∀ H' G', SR K fr env' σ H' G' → Sub G G' → fr.W c H')
def PUv (X : Cx) (fr : Fr) (es : List Expr) (F : Mo (List Rv)) : Prop := ∀ p : Hp, PA X es (tU X.K ⟨p, fr.muts, fr.tabs, fr.W⟩ F)
section
variable {X : Cx} {fr : Fr} {e : Expr} {es : List Expr} {F : Mo Rv} {Fs : Mo (List Rv)}
theorem eu_nil : PUv X fr [] nilF := fun p => weakA pa_nil fun σ H Q ⟨env, G, h, w⟩ => w H G [] h .refl trivial
theorem RvsU.weaken {K : PySem.W.Frag} {fr : Fr} {env : Fv} {σ : L2.St} {H G : Hp} {D : Addr} {o : HO} (hD : fr.prot D = none) : ∀ {vs : List V} {rs : List Rv}, RvsU K ⟨upd fr.prot D o, fr.muts, fr.tabs, fr.W⟩ env σ H G vs rs →
    RvsU K fr env σ H G vs rs ∧ ∀ v' r', (v', r') ∈ vs.zip rs → ∀ ds', r' = .fr ds' → v' ≠ .ref D
  | [], [], _ => ⟨trivial, fun _ _ z => by simp at z⟩
  | [], _ :: _, h => h.elim
  | _ :: _, [], h => h.elim
  | v :: vs, r :: rs, ⟨h1, h2, h3⟩ => by
    obtain ⟨k1, k2⟩ := RvsU.weaken hD h2
    have one : RvOk K fr env σ H G v r ∧ ∀ ds', r = .fr ds' → v ≠ .ref D := by
      cases r with
      | sh d => exact ⟨h1, fun _ z => by cases z⟩
      | sl i => exact ⟨h1, fun _ z => by cases z⟩
      | fr ds =>
        obtain ⟨a, xs, e, m1, m2, m3, m4, m5⟩ := h1
        have m4' : upd fr.prot D o a = none := m4
        have na : a ≠ D := fun z => by rw [z, upd_same] at m4'; cases m4'
        rw [upd_ne na] at m4'
        exact ⟨⟨a, xs, e, m1, m2, m3, m4', m5⟩, fun _ _ z => na (by rw [e] at z; cases z; rfl)⟩
    refine ⟨⟨one.1, k1, h3⟩, fun v' r' z ds' e' => ?_⟩
    rw [List.zip_cons_cons, List.mem_cons] at z
    rcases z with z | z
    · cases z; exact one.2 ds' e'
    · exact k2 v' r' z ds' e'
theorem eu_cons (he : ∀ p : Hp, PEv X ⟨p, fr.muts, fr.tabs, fr.W⟩ e F) (hr : PUv X fr es Fs) (hs : starEach (e :: es) X.env = (false, eval e X.env) :: starEach es X.env := by rfl) : PUv X fr (e :: es) (consU F Fs) := fun p => by
  refine weakA (pa_cons (t := fun σ H Q => ∃ p', tU X.K ⟨p', fr.muts, fr.tabs, fr.W⟩ Fs σ H Q) (he p) ⟨fun pos pins s σ H Q I ⟨p', q⟩ => (hr p').run pos pins s σ H Q I q⟩ hs) fun σ H Q ⟨env, G, h, w⟩ => ?_
  unfold consU at w
  refine tE_then h w (fun r env1 H1 G1 v h1 s1 q1 w1 => ?_) fun c e1 E1 H1 G1 h1 s1 => E1 H1 G1 h1 s1
  cases r with
  | sh d =>
    refine ⟨p, env1, G1, h1, wpM_mono (wpM_bind.mp w1) (fun rs env2 w2 H2 G2 vs h2 s2 q2 => ?_) fun c e' E' H2 G2 h2 s2 => E' H2 G2 h2 (s1.trans s2)⟩
    exact w2 H2 G2 _ h2 (s1.trans s2) ⟨Sub.dq s2 _ _ q1, q2, fun _ _ z => by cases z⟩
  | sl i =>
    refine ⟨p, env1, G1, h1, wpM_mono (wpM_bind.mp w1) (fun rs env2 w2 H2 G2 vs h2 s2 q2 => ?_) fun c e' E' H2 G2 h2 s2 => E' H2 G2 h2 (s1.trans s2)⟩
    exact w2 H2 G2 _ h2 (s1.trans s2) ⟨q1, q2, fun _ _ z => by cases z⟩
  | fr ds =>
    obtain ⟨a, xs, rfl, k1, k2, k3, k4, k5, k6⟩ := q1
    have nt : a ∉ fr.tabs := fun z => by
      obtain ⟨⟨ps, e, _⟩, _⟩ := h1.tab a z
      rw [e] at k1
      cases k1
    refine ⟨upd p a (.lst xs), env1, G1, SR.guard (fr := ⟨p, fr.muts, fr.tabs, fr.W⟩) h1 k1 k3 nt k6 fr.W, wpM_mono (wpM_bind.mp w1) (fun rs env2 w2 H2 G2 vs h2 s2 q2 => ?_) fun c e' E' H2 G2 h2 s2 => ?_⟩
    · obtain ⟨b1, b2, b3, b4⟩ := SR.unguard (fr := ⟨p, fr.muts, fr.tabs, fr.W⟩) (W := fr.W) k4 h2
      obtain ⟨c1, c2⟩ := RvsU.weaken (fr := ⟨p, fr.muts, fr.tabs, fr.W⟩) k4 q2
      exact w2 H2 G2 _ b1 (s1.trans s2) ⟨⟨a, xs, rfl, b2, Sub.dqAll s2 _ _ k2, b3, k4, k5, b4⟩, c1, fun ds' a' z z' v' r' m => by
        cases z
        cases z'
        exact c2 v' r' m⟩
    · exact E' H2 G2 (SR.unguard (fr := ⟨p, fr.muts, fr.tabs, fr.W⟩) (W := fr.W) k4 h2).1 (s1.trans s2)
end
end Cf
/-! Cf, part L: several targets at once; the end of a law. -/
namespace Cf
open PySem PySem.Spec PyProof.Rows L2

def settle1 (r : Rv) : Mo Rv := match r with
  | .sl i => do
    let d ← force (.sl i)
    pure (.sh d)
  | r => pure r
@[simp] def settle : List Rv → Mo (List Rv)
  | [] => pure []
  | r :: rs => do
    let x ← settle1 r
    let xs ← settle rs
    pure (x :: xs)
@[simp] def storeAll : List Nat → List Rv → Mo Unit
  | [], [] => pure ()
  | i :: is, r :: rs => do
    storeF i r
    storeAll is rs
  | _, _ => stuckM
def parF (is : List Nat) (Fs : Mo (List Rv)) : Mo Out := do
  let rs ← Fs
  let rs ← settle rs
  storeAll is rs
  pure .nx
def setAll (σ : L2.St) : List Nat → List V → L2.St
  | i :: is, v :: vs => setAll (σ.set i (some v)) is vs
  | _, _ => σ
def isSl : Rv → Bool
  | .sl _ => true
  | _ => false
section
variable {K : PySem.W.Frag} {fr : Fr} {H : Hp}
/-- values that wait, behind a step that freezes -/
theorem RvsU.frz {env env' : Fv} {σ : L2.St} {G G' : Hp} (s : Sub G G') (hf : ∀ a xs, H a = some (.lst xs) → G a = none → (∀ (i : Nat) (t : Option Nat) (es : List PyData), env[i]? = some (.own t es) → σ[i]? ≠ some (some (.ref a))) → G' a = none)
    (ho : ∀ (i : Nat) (t : Option Nat) (es : List PyData), env'[i]? = some (.own t es) → ∃ t' es', env[i]? = some (.own t' es')) : ∀ {vs : List V} {rs : List Rv}, RvsU K fr env σ H G vs rs → RvsU K fr env' σ H G' vs rs
  | [], [], _ => trivial
  | [], _ :: _, h => h.elim
  | _ :: _, [], h => h.elim
  | v :: vs, r :: rs, ⟨h1, h2, h3⟩ => by
    refine ⟨?_, RvsU.frz s hf ho h2, h3⟩
    cases r with
    | sh d => exact Sub.dq s _ _ h1
    | sl i => exact h1
    | fr ds =>
      obtain ⟨a, xs, e, m1, m2, m3, m4, m5, m6⟩ := h1
      exact ⟨a, xs, e, m1, Sub.dqAll s _ _ m2, hf a xs m1 m3 m6, m4, m5, fun i t es z => let ⟨t', es', z'⟩ := ho i t es z; m6 i t' es' z'⟩
theorem freeze2 {env : Fv} {σ : L2.St} {G : Hp} (h : SR K fr env σ H G) {i : Nat} {ds : List PyData} (e : env[i]? = some (.own none ds)) : ∃ G', SR K fr (env.set i (.sh (.list ds))) σ H G' ∧ Sub G G' ∧ (∀ v, σ[i]? = some (some v) → Dq K G' v (.list ds)) ∧
    (∀ a xs, H a = some (.lst xs) → G a = none → (∀ (i : Nat) (t : Option Nat) (es : List PyData), env[i]? = some (.own t es) → σ[i]? ≠ some (some (.ref a))) → G' a = none) ∧
    (∀ (j : Nat) (t : Option Nat) (es : List PyData), (env.set i (.sh (.list ds)))[j]? = some (.own t es) → ∃ t' es', env[j]? = some (.own t' es')) := by
  obtain ⟨a, xs, e1, h1, h2, h3, h4, h5⟩ := h.ownAt e
  have sG : Sub G (upd G a (.lst xs)) := fun b o e => by rw [upd_ne (ne_of_none e h3)]; exact e
  obtain ⟨G', k1, k2, k3⟩ := freeze h e
  have hi : i < env.length := (List.getElem?_eq_some_iff.mp e).1
  have hd : Dq K (upd G a (.lst xs)) (.ref a) (.list ds) := .lst upd_same (Sub.dqAll sG _ _ h2)
  have ho : ∀ (j : Nat) (t : Option Nat) (es : List PyData), (env.set i (.sh (.list ds)))[j]? = some (.own t es) → j ≠ i ∧ env[j]? = some (.own t es) := fun j t es z => by
    by_cases hj : j = i
    · subst hj; rw [List.getElem?_set_self hi] at z; cases z
    · rw [List.getElem?_set_ne (Ne.symm hj)] at z; exact ⟨hj, z⟩
  refine ⟨upd G a (.lst xs), ⟨fun b o q => ?_, h.prot, fun b q => ?_, tab_upd h.tab h1, h.pt, h.lent, by simpa using h.len, fun j sl ej => ?_, k1.dist⟩, sG, fun v q => by rw [e1] at q; cases q; exact hd, fun b ys z1 z2 z3 => ?_, fun j t es z => ⟨t, es, (ho j t es z).2⟩⟩
  · by_cases hb : b = a
    · subst hb; rw [upd_same] at q; cases q; exact h1
    · rw [upd_ne hb] at q; exact h.sub b o q
  · by_cases hb : b = a
    · subst hb; exact absurd h4 q
    · rw [upd_ne hb]; exact h.dj b q
  · by_cases hj : j = i
    · subst hj
      rw [List.getElem?_set_self hi] at ej
      cases ej
      exact ⟨.ref a, by rw [e1]; rfl, hd⟩
    · rw [List.getElem?_set_ne (Ne.symm hj)] at ej
      have q := h.slots j sl ej
      cases sl with
      | un => trivial
      | sh d => obtain ⟨x, e1, e2⟩ := q; exact ⟨x, e1, Sub.dq sG _ _ e2⟩
      | own t es =>
        obtain ⟨b, ys, e1', e2, e3, e4, e5, e6⟩ := h.ownAt ej
        have hb : b ≠ a := fun z => h.dist i j none t ds es a (Ne.symm hj) e ej e1 (by rw [← z]; exact e1')
        exact ⟨b, ys, by rw [e1']; rfl, e2, Sub.dqAll sG _ _ e3, by rw [upd_ne hb]; exact e4, e5, e6⟩
  · have nb : b ≠ a := fun z => z3 i none ds e (by rw [z]; exact e1)
    rw [upd_ne nb]
    exact z2
theorem settle_ok : ∀ {vs : List V} {rs : List Rv} {env : Fv} {σ : L2.St} {G : Hp} (h : SR K fr env σ H G), RvsU K fr env σ H G vs rs → ∀ {Q : List Rv → Fv → Prop} {E : Nat → Fv → Prop}, wpM (settle rs) env Q E →
    ∃ rs' env' G', SR K fr env' σ H G' ∧ Sub G G' ∧ RvsU K fr env' σ H G' vs rs' ∧ rs'.all (fun r => !isSl r) = true ∧
      (∀ a xs, H a = some (.lst xs) → G a = none → (∀ (i : Nat) (t : Option Nat) (es : List PyData), env[i]? = some (.own t es) → σ[i]? ≠ some (some (.ref a))) → G' a = none) ∧
      (∀ (j : Nat) (t : Option Nat) (es : List PyData), env'[j]? = some (.own t es) → ∃ t' es', env[j]? = some (.own t' es')) ∧
      (∀ v' r', (v', r') ∈ vs.zip rs' → ∀ ds', r' = .fr ds' → (v', r') ∈ vs.zip rs) ∧ Q rs' env'
  | [], [], env, σ, G, h, _, Q, E, w => ⟨[], env, G, h, .refl, trivial, rfl, fun _ _ _ z _ => z, fun j t es z => ⟨t, es, z⟩, fun _ _ z => by simp at z, w⟩
  | [], _ :: _, _, _, _, _, h, _, _, _ => h.elim
  | _ :: _, [], _, _, _, _, h, _, _, _ => h.elim
  | v :: vs, r :: rs, env, σ, G, h, ⟨h1, h2, h3⟩, Q, E, w => by
    unfold settle at w
    have w1 := wpM_bind.mp w
    cases r with
    | sl i =>
      unfold settle1 at w1
      simp only at w1
      have w2 := wpM_bind.mp w1
      have q' : σ[i]? = some (some v) := h1
      have alt : ∃ d env1 G1, SR K fr env1 σ H G1 ∧ Sub G G1 ∧ Dq K G1 v d ∧ (∀ a xs, H a = some (.lst xs) → G a = none → (∀ (i : Nat) (t : Option Nat) (es : List PyData), env[i]? = some (.own t es) → σ[i]? ≠ some (some (.ref a))) → G1 a = none) ∧
          (∀ (j : Nat) (t : Option Nat) (es : List PyData), env1[j]? = some (.own t es) → ∃ t' es', env[j]? = some (.own t' es')) ∧ wpM (settle rs >>= fun xs => pure (.sh d :: xs)) env1 Q E := by
        unfold wpM force at w2
        cases e : env[i]? with
        | none => simp [e] at w2
        | some sl =>
          cases sl with
          | un => simp [e] at w2
          | sh d =>
            simp only [e] at w2
            obtain ⟨x, e1, e2⟩ := h.shAt e
            rw [q'] at e1
            cases e1
            exact ⟨d, env, G, h, .refl, e2, fun _ _ _ z _ => z, fun j t es z => ⟨t, es, z⟩, w2⟩
          | own t ds =>
            cases t with
            | some k => simp [e] at w2
            | none =>
              simp only [e] at w2
              obtain ⟨G1, k1, k2, k3, k4, k5⟩ := freeze2 h e
              exact ⟨.list ds, _, G1, k1, k2, k3 v q', k4, k5, w2⟩
      obtain ⟨d, env1, G1, k1, k2, k3, k4, k5, w3⟩ := alt
      obtain ⟨rs', env2, G2, m1, m2, m3, m4, m5, m6, m7, m8⟩ := settle_ok k1 (RvsU.frz k2 k4 k5 h2) (wpM_bind.mp w3)
      refine ⟨.sh d :: rs', env2, G2, m1, k2.trans m2, ⟨Sub.dq m2 _ _ k3, m3, fun _ _ z => by cases z⟩, by rw [List.all_cons, m4]; rfl, fun a xs z1 z2 z3 => m5 a xs z1 (k4 a xs z1 z2 z3) fun j t es z => let ⟨t', es', z'⟩ := k5 j t es z; z3 j t' es' z', fun j t es z => let ⟨t', es', z'⟩ := m6 j t es z; k5 j t' es' z', fun v' r' z ds' e' => ?_, m8⟩
      rw [List.zip_cons_cons, List.mem_cons] at z ⊢
      rcases z with z | z
      · cases z; cases e'
      · exact .inr (m7 v' r' z ds' e')
    | sh d =>
      have w2 : wpM (settle rs >>= fun xs => pure (.sh d :: xs)) env Q E := w1
      obtain ⟨rs', env2, G2, m1, m2, m3, m4, m5, m6, m7, m8⟩ := settle_ok h h2 (wpM_bind.mp w2)
      refine ⟨.sh d :: rs', env2, G2, m1, m2, ⟨Sub.dq m2 _ _ h1, m3, fun _ _ z => by cases z⟩, by rw [List.all_cons, m4]; rfl, m5, m6, fun v' r' z ds' e' => ?_, m8⟩
      rw [List.zip_cons_cons, List.mem_cons] at z ⊢
      rcases z with z | z
      · cases z; cases e'
      · exact .inr (m7 v' r' z ds' e')
    | fr ds =>
      have w2 : wpM (settle rs >>= fun xs => pure (.fr ds :: xs)) env Q E := w1
      obtain ⟨rs', env2, G2, m1, m2, m3, m4, m5, m6, m7, m8⟩ := settle_ok h h2 (wpM_bind.mp w2)
      obtain ⟨a, xs, e, n1, n2, n3, n4, n5, n6⟩ := h1
      refine ⟨.fr ds :: rs', env2, G2, m1, m2, ⟨⟨a, xs, e, n1, Sub.dqAll m2 _ _ n2, m5 a xs n1 n3 n6, n4, n5, fun j t es z => let ⟨t', es', z'⟩ := m6 j t es z; n6 j t' es' z'⟩, m3, fun ds0 a0 z1 z2 v' r' z ds' e' => h3 ds0 a0 z1 z2 v' r' (m7 v' r' z ds' e') ds' e'⟩, by rw [List.all_cons, m4]; rfl, m5, m6, fun v' r' z ds' e' => ?_, m8⟩
      rw [List.zip_cons_cons, List.mem_cons] at z ⊢
      rcases z with z | z
      · exact .inl z
      · exact .inr (m7 v' r' z ds' e')
theorem RvsU.stored {env : Fv} {σ : L2.St} {G : Hp} {i : Nat} {v : V} {r : Rv} {sl : Sl} (hsl : ∀ t es, sl = .own t es → r = .fr es) : ∀ {vs : List V} {rs : List Rv}, RvsU K fr env σ H G vs rs → rs.all (fun r => !isSl r) = true →
    (∀ ds a, r = .fr ds → v = .ref a → ∀ v' r', (v', r') ∈ vs.zip rs → ∀ ds', r' = .fr ds' → v' ≠ .ref a) → RvsU K fr (env.set i sl) (σ.set i (some v)) H G vs rs
  | [], [], _, _, _ => trivial
  | [], _ :: _, h, _, _ => h.elim
  | _ :: _, [], h, _, _ => h.elim
  | u :: vs, x :: rs, ⟨h1, h2, h3⟩, c, d => by
    simp only [List.all_cons, Bool.and_eq_true] at c
    refine ⟨?_, RvsU.stored hsl h2 c.2 fun ds a e1 e2 v' r' z => d ds a e1 e2 v' r' (by rw [List.zip_cons_cons]; exact List.mem_cons_of_mem _ z), h3⟩
    cases x with
    | sh y => exact h1
    | sl j => simp [isSl] at c
    | fr ds =>
      obtain ⟨a, xs, e, n1, n2, n3, n4, n5, n6⟩ := h1
      refine ⟨a, xs, e, n1, n2, n3, n4, n5, fun j t es z => ?_⟩
      by_cases hj : j = i
      · subst hj
        by_cases hl : j < env.length
        · rw [List.getElem?_set_self hl] at z
          cases z
          have hr := hsl t es rfl
          by_cases hs : j < σ.length
          · rw [List.getElem?_set_self hs]
            intro q
            cases q
            exact d es a hr rfl u (.fr ds) (by rw [List.zip_cons_cons]; exact List.mem_cons_self) ds rfl e
          · rw [List.getElem?_eq_none (by simpa using hs)]
            simp
        · rw [List.getElem?_eq_none (by simpa using hl)] at z
          cases z
      · rw [List.getElem?_set_ne (Ne.symm hj)] at z ⊢
        exact n6 j t es z
theorem stores_ok : ∀ {is : List Nat} {vs : List V} {rs : List Rv} {env : Fv} {σ : L2.St} {G : Hp} (h : SR K fr env σ H G), RvsU K fr env σ H G vs rs → rs.all (fun r => !isSl r) = true → ∀ {Q : Unit → Fv → Prop} {E : Nat → Fv → Prop}, wpM (storeAll is rs) env Q E →
    ∃ env', SR K fr env' (setAll σ is vs) H G ∧ is.length = vs.length ∧ Q () env'
  | [], [], [], env, σ, G, h, _, _, Q, E, w => ⟨env, h, rfl, w⟩
  | [], _ :: _, [], _, _, _, _, h, _, _, _, _ => h.elim
  | _ :: _, [], [], _, _, _, _, _, _, _, _, w => w.elim
  | _ :: _, _ :: _, [], _, _, _, _, h, _, _, _, _ => h.elim
  | [], _, _ :: _, _, _, _, _, _, _, _, _, w => w.elim
  | _ :: _, [], _ :: _, _, _, _, _, h, _, _, _, _ => h.elim
  | i :: is, v :: vs, r :: rs, env, σ, G, h, ⟨h1, h2, h3⟩, c, Q, E, w => by
    unfold storeAll at w
    simp only [List.all_cons, Bool.and_eq_true] at c
    have w1 := wpM_bind.mp w
    cases r with
    | sl j => simp [isSl] at c
    | sh d =>
      obtain ⟨env', k1, k2, k3⟩ := stores_ok (is := is) (h.setSh (i := i) h1) (RvsU.stored (r := .sh d) (fun t es z => by cases z) h2 c.2 h3) c.2 w1
      exact ⟨env', k1, by simp [k2], k3⟩
    | fr ds =>
      obtain ⟨env', k1, k2, k3⟩ := stores_ok (is := is) (h.setOwn (i := i) h1) (RvsU.stored (r := .fr ds) (fun t es z => by cases z; rfl) h2 c.2 h3) c.2 w1
      exact ⟨env', k1, by simp [k2], k3⟩
end
section
variable {X : Cx} {fr : Fr} {Fs : Mo (List Rv)} {pos : Pos}
theorem par_core {is : List Nat} {D : Ends} {σ : L2.St} {H : Hp} {env : Fv} {G : Hp} (h : SR X.K fr env σ H G) (w : wpM (parF is Fs) env (SPost X.K fr D G) (SExc X.K fr G)) :
    tU X.K fr Fs σ H fun vs H1 => is.length = vs.length ∧ ∃ env2 G2, SR X.K fr env2 (setAll σ is vs) H1 G2 ∧ ∀ H' G', SR X.K fr env2 (setAll σ is vs) H' G' → Sub G2 G' → D.nx (setAll σ is vs) H' := by
  unfold parF at w
  refine ⟨env, G, h, wpM_mono (wpM_bind.mp w) (fun rs env1 w1 H1 G1 vs h1 s1 q1 => ?_) fun c e1 E1 H1 G1 h1 s1 => E1 σ H1 G1 h1 s1⟩
  obtain ⟨rs', env2, G2, k1, k2, k3, k4, _, _, _, w2⟩ := settle_ok h1 q1 (wpM_bind.mp w1)
  obtain ⟨env3, m1, m2, w3⟩ := stores_ok k1 k3 k4 (wpM_bind.mp w2)
  exact ⟨m2, env3, G2, m1, fun H' G' h' s' => w3 _ H' G' h' ((s1.trans k2).trans s')⟩
/-- a, b = x, y with two plain local names -/
theorem es_par2 {i j : Nat} {x y : Str} {a b : Expr} {px py pt : Pos} {kt k2 pt2} (hc : X.calm = true) (hN : X.N.Nodup) (hi : X.N[i]? = some x) (hj : X.N[j]? = some y) (hij : i ≠ j)
    (hx : X.env.scope.names.lookup x = some .local) (hy : X.env.scope.names.lookup y = some .local) (ha : PUv X fr [a, b] Fs)
    (hw : swappedStores [.Tuple [.Name x px, .Name y py] kt pt] (.Tuple [a, b] k2 pt2) X.env = pure (some [x, y]) := by rfl)
    (hs : swapsWithSole [.Tuple [.Name x px, .Name y py] kt pt] (.Tuple [a, b] k2 pt2) pos.line X.env = pure false := by rfl) :
    PSv X fr (.Assign [.Tuple [.Name x px, .Name y py] kt pt] (.Tuple [a, b] k2 pt2) pos) (parF [i, j] Fs) :=
  weakS (ps_par hc hN hi hj hij hx hy (ha fr.prot) hw hs) fun D σ H ⟨env, G, h, w⟩ => by
    obtain ⟨env1, G1, h1, w1⟩ := par_core (X := X) h w
    refine ⟨env1, G1, h1, wpM_mono w1 (fun rs env2 w2 H2 G2 vs h2 s2 q2 => ?_) fun _ _ z => z⟩
    obtain ⟨z, env3, G3, h3, k⟩ := w2 H2 G2 vs h2 s2 q2
    match vs, z with
    | [v, u], _ => exact ⟨v, u, rfl, k H2 G3 h3 .refl⟩
theorem es_par3 {i j l : Nat} {x y z : Str} {a b c : Expr} {px py pz pt : Pos} {kt k2 pt2} (hc : X.calm = true) (hN : X.N.Nodup) (hi : X.N[i]? = some x) (hj : X.N[j]? = some y) (hl : X.N[l]? = some z) (hij : i ≠ j) (hil : i ≠ l) (hjl : j ≠ l)
    (hx : X.env.scope.names.lookup x = some .local) (hy : X.env.scope.names.lookup y = some .local) (hz : X.env.scope.names.lookup z = some .local) (ha : PUv X fr [a, b, c] Fs)
    (hw : swappedStores [.Tuple [.Name x px, .Name y py, .Name z pz] kt pt] (.Tuple [a, b, c] k2 pt2) X.env = pure (some [x, y, z]) := by rfl)
    (hs : swapsWithSole [.Tuple [.Name x px, .Name y py, .Name z pz] kt pt] (.Tuple [a, b, c] k2 pt2) pos.line X.env = pure false := by rfl) :
    PSv X fr (.Assign [.Tuple [.Name x px, .Name y py, .Name z pz] kt pt] (.Tuple [a, b, c] k2 pt2) pos) (parF [i, j, l] Fs) :=
  weakS (ps_par3 hc hN hi hj hl hij hil hjl hx hy hz (ha fr.prot) hw hs) fun D σ H ⟨env, G, h, w⟩ => by
    obtain ⟨env1, G1, h1, w1⟩ := par_core (X := X) h w
    refine ⟨env1, G1, h1, wpM_mono w1 (fun rs env2 w2 H2 G2 vs h2 s2 q2 => ?_) fun _ _ z => z⟩
    obtain ⟨z, env3, G3, h3, k⟩ := w2 H2 G2 vs h2 s2 q2
    match vs, z with
    | [v, u, t], _ => exact ⟨v, u, t, rfl, k H2 G3 h3 .refl⟩
def tgsOf : List Nat → TGs
  | [] => gNil
  | i :: is => gCons (gName i) (tgsOf is)
theorem tgsOf_all : ∀ {is : List Nat} {vs : List V} {σ : L2.St} {H : Hp} {Q : L2.St → Hp → Prop}, is.length = vs.length → Q (setAll σ is vs) H → tgsOf is vs σ H Q
  | [], [], _, _, _, _, q => ⟨rfl, q⟩
  | i :: is, v :: vs, σ, H, Q, l, q => ⟨v, vs, rfl, tgsOf_all (is := is) (by simpa using l) q⟩
/-- .. with names of any kind: the tuple is made and taken apart -/
theorem es_parN {is : List Nat} {tgs es : List Expr} {kt k2 : Nat} {pt pt2 : Pos} {n : Nat} (hc : X.calm = true) (ha : PUv X fr es Fs) (hg : PGs X tgs (tgsOf is)) (hl : is.length = n)
    (hn : (assignEach tgs X.env).length = n := by rfl) (hst : (assignEach tgs X.env).findIdx? (·.1) = none := by rfl)
    (hs : swapsWithSole [.Tuple tgs kt pt] (.Tuple es k2 pt2) pos.line X.env = pure false := by rfl) (hw : swappedStores [.Tuple tgs kt pt] (.Tuple es k2 pt2) X.env = pure none := by rfl)
    (h1 : (assignEach [.Tuple tgs kt pt] X.env).map (·.2) = [assign (.Tuple tgs kt pt) X.env] := by rfl) (hz : n ≤ sizeLine := by decide) : PSv X fr (.Assign [.Tuple tgs kt pt] (.Tuple es k2 pt2) pos) (parF is Fs) :=
  weakS (ps_asg (pe_tup (ha fr.prot)) (pg_tup hc hg hn hst) hs hw h1) fun D σ H ⟨env, G, h, w⟩ => by
    obtain ⟨env1, G1, h1, w1⟩ := par_core (X := X) h w
    refine ⟨env1, G1, h1, wpM_mono w1 (fun rs env2 w2 H2 G2 vs h2 s2 q2 => ?_) fun _ _ z => z⟩
    obtain ⟨z, env3, G3, h3, k⟩ := w2 H2 G2 vs h2 s2 q2
    refine ⟨by rw [← z, hl]; exact hz, fun p hp => ⟨p, vs, rfl, .of upd_same, by rw [← z, hl], tgsOf_all z ?_⟩⟩
    have st := Stp.lay (o := .tup vs) h3.sub hp
    exact k _ G3 (h3.stp st) .refl
end
end Cf
/-! Cf, part M: tests, the end of a law. -/
namespace Cf
open PySem PySem.Spec PyProof.Rows L2

theorem hu100 {k : Nat} {A : Around} (hr : Room k A) : A.units + 100 < cLine := by
  have := hr.un
  omega
@[simp] def truthD : PyData → Option Bool
  | .none => some false
  | .bool b => some b
  | .int i => some (i != 0)
  | .str x => if x.length ≤ sizeLine then some ((x.length : Int) != 0) else none
  | .list ds => some (!ds.isEmpty)
  | .tuple ds => some (!ds.isEmpty)
  | .dict _ => none
def truthF (F : Mo Rv) : Mo Bool := do
  let r ← F
  let d ← peek r
  liftO (truthD d)
theorem empty_dq {K : PySem.W.Frag} {G : Hp} {xs : List V} {ds : List PyData} (h : DqAll K G xs ds) : xs.isEmpty = ds.isEmpty := by
  cases h <;> rfl
section
variable {X : Cx} {fr : Fr} {a b c : Expr} {Fa Fb Fc : Mo Rv} {pos : Pos}
theorem tT_bool {F : Mo Rv} {σ : L2.St} {H : Hp} {Q : Bool → Hp → Prop} (h : tT X.K fr (boolF F) σ H Q) : tE X.K fr F σ H fun x H' => ∃ k, x = .bl k ∧ Q k H' := by
  obtain ⟨env, G, h, w⟩ := h
  have w' := wpM_boolF (k := fun b => pure b) (wpM_bind.mpr (wpM_mono w (fun b e' q => (wpM_pure (a := b)).mpr q) fun _ _ q => q))
  refine tE_then h w' (fun r env1 H1 G1 v h1 s1 q1 w1 => ?_) fun c e1 E1 H1 G1 h1 s1 => E1 H1 G1 h1 s1
  cases r with
  | sh d =>
    cases d with
    | bool k => exact ⟨k, dq_bl q1, w1 H1 G1 h1 s1⟩
    | _ => exact w1.elim
  | _ => exact w1.elim
theorem et_cmp {op : CmpOp} {g : PyData → PyData → Option Rv} (ho : Op2 X (compareOp op) g) (ha : PEv X fr a Fa) (hb : PEv X fr b Fb) (hm : behindInMarks op b = false := by first | exact nomark _ | rfl) : PTv X fr (.Compare a [op] [b] pos) (boolF (binF g Fa Fb)) :=
  let ⟨_, hr, hg⟩ := ho
  weakT (pt_cmpR hr ha hb hm) fun σ H Q h => bin_reads hg σ H _ (tT_bool h)
theorem et_chain {op op' : CmpOp} {g g' : PyData → PyData → Option Rv} (ho : Op2 X (compareOp op) g) (ho' : Op2 X (compareOp op') g') (ha : PEv X fr a Fa) (hb : PEv X fr b Fb) (hc : PEv X fr c Fc)
    (hm : lastMarks [op, op'] [b, c] = false := by with_unfolding_all rfl)
    (he : ∀ whole, isTrue (.Compare a [op, op'] [b, c] pos) X.env whole = (do let v ← whole; standAt pos; holding [v] (truthy v)) := by intro _; rfl) : PTv X fr (.Compare a [op, op'] [b, c] pos) (boolF (chainF g g' Fa Fb Fc)) :=
  et_val (ev_toB (ev_chain ho ho' ha hb hc hm)) he
theorem et_truth {e : Expr} {F : Mo Rv} (h : PEv X fr e F) (he : ∀ whole, isTrue e X.env whole = (do let v ← whole; standAt e.pos; holding [v] (truthy v)) := by intro _; rfl) : PTv X fr e (truthF F) :=
  weakT (pt_truth h he) fun σ H Q ⟨env, G, h, w⟩ => by
    unfold truthF at w
    refine tE_then h w (fun r env1 H1 G1 v h1 s1 q1 w1 => ?_) fun c e1 E1 H1 G1 h1 s1 => E1 H1 G1 h1 s1
    obtain ⟨d, p, w2⟩ := peek_ok h1 q1 (wpM_bind.mp w1)
    obtain ⟨k, e, qf⟩ := wpM_lift w2
    refine ⟨k, ?_, qf H1 G1 h1 s1⟩
    cases d with
    | none => cases e; cases dq_non p; rfl
    | bool b => cases e; cases dq_bl p; rfl
    | int i => cases e; cases dq_int p; rfl
    | str x =>
      simp only [truthD] at e
      split at e <;> cases e
      cases dq_str p
      exact ⟨by assumption, rfl⟩
    | list ds =>
      cases e
      obtain ⟨a, xs, rfl, k1, k2⟩ := p
      exact .inl ⟨xs, .of k1, by rw [empty_dq k2]⟩
    | tuple ds =>
      cases e
      obtain ⟨a, xs, rfl, k1, k2⟩ := dq_tup p
      exact .inr (.inl ⟨xs, h1.sub.sqT k1, by rw [empty_dq k2]⟩)
    | dict _ => cases e
end

theorem ev_globI {X : Cx} {fr : Fr} {x : Str} {pos : Pos} {i : Int} (hg : Gl X x) (hm : ∃ t, X.mg x = some (.int i t)) (hdb : (x == ("__debug__" : Str)) = false := by decide) : PEv X fr (.Name x pos) (constF (.int i)) :=
  let ⟨t, h⟩ := hm
  ev_glob (v := .int i) hg h ⟨t, rfl⟩ (.int i) hdb
/-- a def that is never come to -/
theorem fn_stuck {P : Program} {w : World} {K : PySem.W.Frag} {mg : Str → Option Value} {base : Heap} {tabs : List Addr} {k n : Nat} {f : Addr} {fd : FuncData} {ps : List Str} {g : List PyData → FnR} (h : ∀ ds, g ds = .stuck) : FnOk P w K mg base CX0 k f fd ps (sp0 K tabs n g) :=
  ⟨fun vs H Q E ⟨G, ds, _, _, _, _, r, e, _⟩ => (by rw [h] at e; cases e), fun A outer s H args us vs Q E _ _ _ _ ⟨G, ds, _, _, _, _, r, e, _⟩ => (by rw [h] at e; cases e)⟩
theorem bt_len : bootBuiltins "len" = some (.builtin "len") := by decide +kernel
theorem bt_abs : bootBuiltins "abs" = some (.builtin "abs") := by decide +kernel
theorem bt_min : bootBuiltins "min" = some (.builtin "min") := by decide +kernel
theorem bt_max : bootBuiltins "max" = some (.builtin "max") := by decide +kernel
theorem bt_sum : bootBuiltins "sum" = some (.builtin "sum") := by decide +kernel
theorem bt_sorted : bootBuiltins "sorted" = some (.builtin "sorted") := by decide +kernel
theorem bt_all : bootBuiltins "all" = some (.builtin "all") := by decide +kernel
theorem bt_any : bootBuiltins "any" = some (.builtin "any") := by decide +kernel
theorem bt_int : bootBuiltins "int" = some (.type "int") := by decide +kernel
theorem bt_bool : bootBuiltins "bool" = some (.type "bool") := by decide +kernel
theorem bt_str : bootBuiltins "str" = some (.type "str") := by decide +kernel
theorem bt_list : bootBuiltins "list" = some (.type "list") := by decide +kernel
theorem bt_tuple : bootBuiltins "tuple" = some (.type "tuple") := by decide +kernel

/-! ### the law itself -/
/-- the law's own list -/
def scrD (ns : List Int) : PyData := .dict [(.none, .list (ns.map .int))]
theorem dq_ints {K : PySem.W.Frag} {G : Hp} : ∀ ns : List Int, DqAll K G (ns.map V.int) (ns.map PyData.int)
  | [] => .nil
  | n :: ns => .cons (.int n) (dq_ints ns)
def noTbl (H : Hp) : Hp := fun b => match H b with
  | some (.tbl _) => none
  | x => x
theorem noTbl_sub (H : Hp) : Sub (noTbl H) H := fun b o e => by
  unfold noTbl at e
  split at e
  · cases e
  · exact e
theorem law_sp {K : PySem.W.Frag} {tabs : List Addr} {g : List PyData → FnR} {ns : List Int} {H : Hp} {a : Addr} {E : XK} (hg : g [scrD ns] = .ok (.sh (.bool true))) (hS : SqL K H a (ns.map V.int)) (hT : ∀ P ∈ tabs, H P = some (.tbl #[])) :
    sp0 K tabs 1 g [.ref a] H (fun v _ => v = .bl true) E := by
  have hS' : SqL K (noTbl H) a (ns.map V.int) := by
    rcases hS with (h | ⟨o, h⟩) | h
    · exact .inl (.inl (by unfold noTbl; rw [h]))
    · exact .inl (.inr ⟨o, by unfold noTbl; rw [h]⟩)
    · exact .inr h
  exact ⟨noTbl H, [scrD ns], noTbl_sub H, fun P hP => ⟨⟨#[], hT P hP, trivial⟩, by unfold noTbl; rw [hT P hP]⟩, rfl, .cons (.scr hS' (dq_ints ns)) .nil, _, hg, fun H' G' v _ _ _ _ q => dq_bl q⟩
/-! ### hidden parts -/
section
variable {X : Cx} {fr : Fr} {P : Program} {w : World} {K : PySem.W.Frag} {mg : Str → Option Value} {base : Heap} {k : Nat} {fa : Addr} {fd : FuncData} {ps : List Str} {tabs : List Addr} {n : Nat}
theorem hid_b {st : List Stmt} {F : Mo Out} (h : PBs X fr st F) : PBs X fr st (hide F) := by
  rw [hide_eq]
  exact h
theorem hid_s {st : Stmt} {F : Mo Out} (h : PSv X fr st F) : PSv X fr st (hide F) := by
  rw [hide_eq]
  exact h
theorem hid_e {e : Expr} {F : Mo Rv} (h : PEv X fr e F) : PEv X fr e (hide F) := by
  rw [hide_eq]
  exact h
theorem hid_set {st : Stmt} {i : Nat} {F : Mo Rv} (h : PSv X fr st (setF i F)) : PSv X fr st (setF i (hide F)) := by
  rw [hide_eq]
  exact h
theorem hid_f {g : List PyData → FnR} (h : FnOk P w K mg base CX0 k fa fd ps (sp0 K tabs n g)) : FnOk P w K mg base CX0 k fa fd ps (sp0 K tabs n (hide g)) := by
  rw [hide_eq]
  exact h
theorem hid_l {g : List PyData → List PyData → FnL} (h : FnOk P w K mg base CX0 k fa fd ps (spL K tabs n g)) : FnOk P w K mg base CX0 k fa fd ps (spL K tabs n (hide g)) := by
  rw [hide_eq]
  exact h
end
end Cf
/-! Cf, part N: how the functions of data are reckoned. -/
namespace Cf
open PySem PySem.Spec PyProof.Rows L2

section
variable {α β : Type}
@[simp ↓] theorem bind_app (m : Mo α) (k : α → Mo β) (e : Fv) : (m >>= k) e = match m e with
    | .ok a e' => k a e'
    | .exc c e' => .exc c e'
    | .stuck => .stuck := Eq.trans rfl rfl
@[simp ↓] theorem pure_app (a : α) (e : Fv) : (pure a : Mo α) e = .ok a e := Eq.trans rfl rfl
@[simp] theorem stuck_app (e : Fv) : (stuckM : Mo α) e = .stuck := Eq.trans rfl rfl
@[simp] theorem lift_some (a : α) (e : Fv) : (liftO (some a) : Mo α) e = .ok a e := Eq.trans rfl rfl
@[simp] theorem lift_none (e : Fv) : (liftO none : Mo α) e = .stuck := Eq.trans rfl rfl
@[simp ↓] theorem ite_app (c : Prop) [Decidable c] (a b : Mo α) (e : Fv) : (if c then a else b) e = if c then a e else b e := by
  split <;> rfl
@[simp ↓] theorem peek_app (r : Rv) (e : Fv) : peek r e = (fun e => match r with
  | .sh d => .ok d e
  | .fr ds => .ok (.list ds) e
  | .sl i => match e[i]? with
    | some (.sh d) => .ok d e
    | some (.own _ ds) => .ok (.list ds) e
    | _ => .stuck : Mo PyData) e := Eq.trans rfl rfl
@[simp ↓] theorem force_app (r : Rv) (e : Fv) : force r e = (fun e => match r with
  | .sh d => .ok d e
  | .fr ds => .ok (.list ds) e
  | .sl i => match e[i]? with
    | some (.sh d) => .ok d e
    | some (.own none ds) => .ok (.list ds) (e.set i (.sh (.list ds)))
    | _ => .stuck : Mo PyData) e := Eq.trans rfl rfl
@[simp ↓] theorem readF_app (i : Nat) (e : Fv) : readF i e = (fun e => match e[i]? with
  | some (.sh d) => .ok (.sh d) e
  | some (.own _ _) => .ok (.sl i) e
  | _ => .stuck : Mo Rv) e := Eq.trans rfl rfl
@[simp ↓] theorem constF_app (d : PyData) (e : Fv) : constF d e = (pure (.sh d) : Mo Rv) e := Eq.trans rfl rfl
@[simp ↓] theorem binF_app (g : PyData → PyData → Option Rv) (F1 F2 : Mo Rv) (e : Fv) : binF g F1 F2 e = (do
  let r1 ← F1
  let r2 ← F2
  let d1 ← peek (hold r1)
  let d2 ← peek r2
  liftO (g d1 d2) : Mo Rv) e := Eq.trans rfl rfl
@[simp ↓] theorem chainF_app (g g' : PyData → PyData → Option Rv) (F1 F2 F3 : Mo Rv) (e : Fv) : chainF g g' F1 F2 F3 e = (do
  let r1 ← F1
  let r2 ← F2
  let d1 ← peek (hold r1)
  let d2 ← peek (hold r2)
  match g d1 d2 with
  | some (.sh (.bool k)) => (if k = true then (do
      let r3 ← F3
      let d2' ← peek (hold r2)
      let d3 ← peek r3
      liftO (g' d2' d3)) else pure (.sh (.bool false)) : Mo Rv)
  | _ => stuckM : Mo Rv) e := Eq.trans rfl rfl
@[simp ↓] theorem boolF_app (F : Mo Rv) (e : Fv) : boolF F e = (do
  let r ← F
  match r with
  | .sh (.bool b) => pure b
  | _ => stuckM : Mo Bool) e := Eq.trans rfl rfl
@[simp ↓] theorem ofB_app (F : Mo Bool) (e : Fv) : ofB F e = (do
  let b ← F
  pure (.sh (.bool b)) : Mo Rv) e := Eq.trans rfl rfl
@[simp ↓] theorem andF_app (F1 F2 : Mo Bool) (e : Fv) : andF F1 F2 e = (do
  let b ← F1
  if b = true then F2 else pure false : Mo Bool) e := Eq.trans rfl rfl
@[simp ↓] theorem orF_app (F1 F2 : Mo Bool) (e : Fv) : orF F1 F2 e = (do
  let b ← F1
  if b = true then pure true else F2 : Mo Bool) e := Eq.trans rfl rfl
@[simp ↓] theorem notF_app (F : Mo Bool) (e : Fv) : notF F e = (do
  let b ← F
  pure (!b) : Mo Bool) e := Eq.trans rfl rfl
@[simp ↓] theorem ifF_app {α : Type} (T : Mo Bool) (F1 F2 : Mo α) (e : Fv) : ifF T F1 F2 e = (do
  let b ← T
  if b = true then F1 else F2 : Mo α) e := Eq.trans rfl rfl
@[simp ↓] theorem consF_app (F : Mo Rv) (Fs : Mo (List Rv)) (e : Fv) : consF F Fs e = (do
  let r ← F
  let rs ← Fs
  pure (hold r :: rs) : Mo (List Rv)) e := Eq.trans rfl rfl
@[simp ↓] theorem nilF_app (e : Fv) : nilF  e = (pure [] : Mo (List Rv)) e := Eq.trans rfl rfl
@[simp ↓] theorem tupF_app (Fs : Mo (List Rv)) (e : Fv) : tupF Fs e = (do
  let rs ← Fs
  let ds ← forces rs
  if ds.length ≤ sizeLine then pure (.sh (.tuple ds)) else stuckM : Mo Rv) e := Eq.trans rfl rfl
@[simp ↓] theorem lstF_app (Fs : Mo (List Rv)) (e : Fv) : lstF Fs e = (do
  let rs ← Fs
  let ds ← forces rs
  if ds.length ≤ sizeLine then pure (.fr ds) else stuckM : Mo Rv) e := Eq.trans rfl rfl
@[simp ↓] theorem unF_app (g : PyData → Option Rv) (F : Mo Rv) (e : Fv) : unF g F e = (do
  let r ← F
  let d ← peek r
  liftO (g d) : Mo Rv) e := Eq.trans rfl rfl
@[simp ↓] theorem sliceF_app (F : Mo Rv) (lo hi : Option (Mo Rv)) (e : Fv) : sliceF F lo hi e = (do
  let r ← F
  let l ← partF lo
  let h ← partF hi
  let d ← peek (hold r)
  liftO (sliceG l h d) : Mo Rv) e := Eq.trans rfl rfl
@[simp ↓] theorem callBF_app (g : List PyData → Option Rv) (Fs : Mo (List Rv)) (e : Fv) : callBF g Fs e = (do
  let rs ← Fs
  let ds ← peeks rs
  liftO (g ds) : Mo Rv) e := Eq.trans rfl rfl
@[simp ↓] theorem isF_app (T : String) (F : Mo Rv) (e : Fv) : isF T F e = (do
  let r ← F
  let d ← peek r
  pure (isTy T d) : Mo Bool) e := Eq.trans rfl rfl
@[simp ↓] theorem getOwn_app (i : Nat) (e : Fv) : getOwn i e = (fun e => match e[i]? with
  | some (.own _ ds) => .ok ds e
  | _ => .stuck : Mo (List PyData)) e := Eq.trans rfl rfl
@[simp ↓] theorem putOwn_app (i : Nat) (ds : List PyData) (e : Fv) : putOwn i ds e = (fun e => match e[i]? with
  | some (.own t _) => .ok () (e.set i (.own t ds))
  | _ => .stuck : Mo Unit) e := Eq.trans rfl rfl
@[simp ↓] theorem needOwn_app (i : Nat) (e : Fv) : needOwn i e = (fun e => match e[i]? with
  | some (.own _ _) => .ok () e
  | _ => .stuck : Mo Unit) e := Eq.trans rfl rfl
@[simp ↓] theorem appendF_app (i : Nat) (F : Mo Rv) (e : Fv) : appendF i F e = (do
  needOwn i
  let r ← F
  let d ← force r
  let ds ← getOwn i
  if ds.length < sizeLine then do
    putOwn i (ds ++ [d])
    pure (.sh .none)
  else stuckM : Mo Rv) e := Eq.trans rfl rfl
@[simp ↓] theorem popF_app (i : Nat) (e : Fv) : popF i e = (do
  let ds ← getOwn i
  match ds.getLast? with
  | some d => do
    putOwn i ds.dropLast
    pure (.sh d)
  | none => stuckM : Mo Rv) e := Eq.trans rfl rfl
@[simp ↓] theorem skipF_app (e : Fv) : skipF  e = (pure .nx : Mo Out) e := Eq.trans rfl rfl
@[simp ↓] theorem seqF_app (F1 F2 : Mo Out) (e : Fv) : seqF F1 F2 e = (do
  match ← F1 with
  | .nx => F2
  | o => pure o : Mo Out) e := Eq.trans rfl rfl
@[simp ↓] theorem storeF_app (i : Nat) (r : Rv) (e : Fv) : storeF i r e = (fun e => match r with
  | .sh d => .ok () (e.set i (.sh d))
  | .fr ds => .ok () (e.set i (.own none ds))
  | .sl j => match e[j]? with
    | some (.sh d) => .ok () (e.set i (.sh d))
    | some (.own none ds) => .ok () ((e.set j (.sh (.list ds))).set i (.sh (.list ds)))
    | _ => .stuck : Mo Unit) e := Eq.trans rfl rfl
@[simp ↓] theorem setF_app (i : Nat) (F : Mo Rv) (e : Fv) : setF i F e = (do
  let r ← F
  storeF i r
  pure .nx : Mo Out) e := Eq.trans rfl rfl
@[simp ↓] theorem dropF_app (F : Mo Rv) (e : Fv) : dropF F e = (do
  let _ ← F
  pure .nx : Mo Out) e := Eq.trans rfl rfl
@[simp ↓] theorem retF_app (F : Mo Rv) (e : Fv) : retF F e = (do
  let r ← F
  pure (.rt r) : Mo Out) e := Eq.trans rfl rfl
@[simp ↓] theorem augF_app (i : Nat) (g : PyData → PyData → Option Rv) (F : Mo Rv) (e : Fv) : augF i g F e = (do
  let r ← readF i
  let r2 ← F
  let d1 ← peek r
  let d2 ← peek r2
  let res ← liftO (g d1 d2)
  storeF i res
  pure .nx : Mo Out) e := Eq.trans rfl rfl
@[simp ↓] theorem toSlot_app (i : Nat) (d : PyData) (e : Fv) : toSlot i d e = (storeF i (.sh d) : Mo Unit) e := Eq.trans rfl rfl
@[simp ↓] theorem toNil_app (ds : List PyData) (e : Fv) : toNil ds e = (match ds with
  | [] => pure ()
  | _ => stuckM : Mo Unit) e := Eq.trans rfl rfl
@[simp ↓] theorem toCons_app (T : PyData → Mo Unit) (Ts : List PyData → Mo Unit) (ds : List PyData) (e : Fv) : toCons T Ts ds e = (match ds with
  | d :: r => do
    T d
    Ts r
  | [] => stuckM : Mo Unit) e := Eq.trans rfl rfl
@[simp ↓] theorem toTup_app (n : Nat) (Ts : List PyData → Mo Unit) (d : PyData) (e : Fv) : toTup n Ts d e = (match d with
  | .tuple ds => if ds.length = n then Ts ds else stuckM
  | _ => stuckM : Mo Unit) e := Eq.trans rfl rfl
@[simp ↓] theorem thenU_app {α : Type} (T : Mo Unit) (k : Mo α) (e : Fv) : thenU T k e = (fun e => match T e with
  | .ok _ e' => k e'
  | .exc _ _ => .stuck
  | .stuck => .stuck : Mo α) e := Eq.trans rfl rfl
@[simp ↓] theorem setT_app (T : PyData → Mo Unit) (F : Mo Rv) (e : Fv) : setT T F e = (do
  let r ← F
  let d ← force r
  thenU (T d) (pure .nx) : Mo Out) e := Eq.trans rfl rfl
@[simp ↓] theorem seqI_app (F : Mo Rv) (e : Fv) : seqI F e = (do
  let r ← F
  let d ← force r
  liftO (itemsG d) : Mo (List PyData)) e := Eq.trans rfl rfl
@[simp ↓] theorem forF_app (I : Mo (List PyData)) (T : PyData → Mo Unit) (B : Mo Out) (e : Fv) : forF I T B e = (do
  let ds ← I
  loopF T B ds : Mo Out) e := Eq.trans rfl rfl
@[simp ↓] theorem endF_app (o : FnR) (e : Fv) : endF o e = (match o with
  | .ok r => pure r
  | .exc _ => stuckM
  | .stuck => stuckM : Mo Rv) e := Eq.trans rfl rfl
@[simp ↓] theorem callF_app (n : Nat) (g : List PyData → FnR) (Fs : Mo (List Rv)) (e : Fv) : callF n g Fs e = (do
  let rs ← Fs
  let ds ← forces rs
  if ds.length = n then endF (g ds) else stuckM : Mo Rv) e := Eq.trans rfl rfl
@[simp ↓] theorem callL_app (n : Nat) (g : List PyData → List PyData → FnL) (j : Nat) (Fs : Mo (List Rv)) (e : Fv) : callL n g j Fs e = (do
  needOwn j
  let rs ← Fs
  let ds ← forces rs
  let es ← getOwn j
  if ds.length + 1 = n then
    match g es ds with
    | .ok r out => do
      putOwn j out
      pure r
    | .stuck => stuckM
  else stuckM : Mo Rv) e := Eq.trans rfl rfl
@[simp ↓] theorem callB_app (n : Nat) (g : List PyData → FnR) (Fs : Mo (List Rv)) (e : Fv) : callB n g Fs e = (do
  let rs ← Fs
  let ds ← peeks rs
  if ds.length = n then
    match g ds with
    | .ok r => if freeRv r = true then pure r else stuckM
    | _ => stuckM
  else stuckM : Mo Rv) e := Eq.trans rfl rfl
@[simp ↓] theorem yesF_app (e : Fv) : yesF  e = (pure true : Mo Bool) e := Eq.trans rfl rfl
@[simp ↓] theorem revL_app (F : Mo Rv) (e : Fv) : revL F e = (do
  let r ← F
  let d ← peek r
  match d with
  | .list ds => pure (.fr ds.reverse)
  | _ => stuckM : Mo Rv) e := Eq.trans rfl rfl
@[simp ↓] theorem setItemF_app (i : Nat) (Fi : Mo Rv) (F : Mo Rv) (e : Fv) : setItemF i Fi F e = (do
  let r ← F
  let d ← force r
  needOwn i
  let rj ← Fi
  let dj ← peek rj
  let ds ← getOwn i
  match dj with
  | .int k => match ixN ds.length k with
    | some j => do
      putOwn i (ds.set j d)
      pure .nx
    | none => stuckM
  | _ => stuckM : Mo Out) e := Eq.trans rfl rfl
@[simp ↓] theorem consU_app (F : Mo Rv) (Fs : Mo (List Rv)) (e : Fv) : consU F Fs e = (do
  let r ← F
  let rs ← Fs
  pure (r :: rs) : Mo (List Rv)) e := Eq.trans rfl rfl
@[simp ↓] theorem settle1_app (r : Rv) (e : Fv) : settle1 r e = (match r with
  | .sl i => do
    let d ← force (.sl i)
    pure (.sh d)
  | r => pure r : Mo Rv) e := Eq.trans rfl rfl
@[simp ↓] theorem parF_app (is : List Nat) (Fs : Mo (List Rv)) (e : Fv) : parF is Fs e = (do
  let rs ← Fs
  let rs ← settle rs
  storeAll is rs
  pure .nx : Mo Out) e := Eq.trans rfl rfl
@[simp ↓] theorem truthF_app (F : Mo Rv) (e : Fv) : truthF F e = (do
  let r ← F
  let d ← peek r
  liftO (truthD d) : Mo Bool) e := Eq.trans rfl rfl
@[simp] theorem szl0 : (0 < sizeLine) = True := by simp [sizeLine]
@[simp] theorem sz1 : (1 ≤ sizeLine) = True := by simp [sizeLine]
@[simp] theorem szl1 : (1 < sizeLine) = True := by simp [sizeLine]
@[simp] theorem sz2 : (2 ≤ sizeLine) = True := by simp [sizeLine]
@[simp] theorem szl2 : (2 < sizeLine) = True := by simp [sizeLine]
@[simp] theorem sz3 : (3 ≤ sizeLine) = True := by simp [sizeLine]
@[simp] theorem szl3 : (3 < sizeLine) = True := by simp [sizeLine]
@[simp] theorem sz4 : (4 ≤ sizeLine) = True := by simp [sizeLine]
@[simp] theorem szl4 : (4 < sizeLine) = True := by simp [sizeLine]
@[simp] theorem sz5 : (5 ≤ sizeLine) = True := by simp [sizeLine]
@[simp] theorem szl5 : (5 < sizeLine) = True := by simp [sizeLine]
@[simp] theorem sz6 : (6 ≤ sizeLine) = True := by simp [sizeLine]
@[simp] theorem szl6 : (6 < sizeLine) = True := by simp [sizeLine]
@[simp] theorem sz7 : (7 ≤ sizeLine) = True := by simp [sizeLine]
@[simp] theorem szl7 : (7 < sizeLine) = True := by simp [sizeLine]
@[simp] theorem sz8 : (8 ≤ sizeLine) = True := by simp [sizeLine]
@[simp] theorem szl8 : (8 < sizeLine) = True := by simp [sizeLine]
@[simp] theorem sz9 : (9 ≤ sizeLine) = True := by simp [sizeLine]
@[simp] theorem szl9 : (9 < sizeLine) = True := by simp [sizeLine]
@[simp] theorem sz10 : (10 ≤ sizeLine) = True := by simp [sizeLine]
@[simp] theorem szl10 : (10 < sizeLine) = True := by simp [sizeLine]
@[simp] theorem sz11 : (11 ≤ sizeLine) = True := by simp [sizeLine]
@[simp] theorem szl11 : (11 < sizeLine) = True := by simp [sizeLine]
@[simp] theorem sz12 : (12 ≤ sizeLine) = True := by simp [sizeLine]
@[simp] theorem szl12 : (12 < sizeLine) = True := by simp [sizeLine]
@[simp] theorem sz13 : (13 ≤ sizeLine) = True := by simp [sizeLine]
@[simp] theorem szl13 : (13 < sizeLine) = True := by simp [sizeLine]
@[simp] theorem sz14 : (14 ≤ sizeLine) = True := by simp [sizeLine]
@[simp] theorem szl14 : (14 < sizeLine) = True := by simp [sizeLine]
@[simp] theorem sz15 : (15 ≤ sizeLine) = True := by simp [sizeLine]
@[simp] theorem szl15 : (15 < sizeLine) = True := by simp [sizeLine]
@[simp] theorem sz16 : (16 ≤ sizeLine) = True := by simp [sizeLine]
@[simp] theorem szl16 : (16 < sizeLine) = True := by simp [sizeLine]
@[simp] theorem sz17 : (17 ≤ sizeLine) = True := by simp [sizeLine]
@[simp] theorem szl17 : (17 < sizeLine) = True := by simp [sizeLine]
@[simp] theorem sz18 : (18 ≤ sizeLine) = True := by simp [sizeLine]
@[simp] theorem szl18 : (18 < sizeLine) = True := by simp [sizeLine]
@[simp] theorem sz19 : (19 ≤ sizeLine) = True := by simp [sizeLine]
@[simp] theorem szl19 : (19 < sizeLine) = True := by simp [sizeLine]
@[simp] theorem sz20 : (20 ≤ sizeLine) = True := by simp [sizeLine]
@[simp] theorem szl20 : (20 < sizeLine) = True := by simp [sizeLine]
@[simp] theorem sz21 : (21 ≤ sizeLine) = True := by simp [sizeLine]
@[simp] theorem szl21 : (21 < sizeLine) = True := by simp [sizeLine]
@[simp] theorem sz22 : (22 ≤ sizeLine) = True := by simp [sizeLine]
@[simp] theorem szl22 : (22 < sizeLine) = True := by simp [sizeLine]
@[simp] theorem sz23 : (23 ≤ sizeLine) = True := by simp [sizeLine]
@[simp] theorem szl23 : (23 < sizeLine) = True := by simp [sizeLine]
@[simp] theorem sz24 : (24 ≤ sizeLine) = True := by simp [sizeLine]
@[simp] theorem szl24 : (24 < sizeLine) = True := by simp [sizeLine]
@[simp] theorem sz25 : (25 ≤ sizeLine) = True := by simp [sizeLine]
@[simp] theorem szl25 : (25 < sizeLine) = True := by simp [sizeLine]
@[simp] theorem sz26 : (26 ≤ sizeLine) = True := by simp [sizeLine]
@[simp] theorem szl26 : (26 < sizeLine) = True := by simp [sizeLine]
@[simp] theorem sz27 : (27 ≤ sizeLine) = True := by simp [sizeLine]
@[simp] theorem szl27 : (27 < sizeLine) = True := by simp [sizeLine]
@[simp] theorem sz28 : (28 ≤ sizeLine) = True := by simp [sizeLine]
@[simp] theorem szl28 : (28 < sizeLine) = True := by simp [sizeLine]
@[simp] theorem sz29 : (29 ≤ sizeLine) = True := by simp [sizeLine]
@[simp] theorem szl29 : (29 < sizeLine) = True := by simp [sizeLine]
@[simp] theorem sz30 : (30 ≤ sizeLine) = True := by simp [sizeLine]
@[simp] theorem szl30 : (30 < sizeLine) = True := by simp [sizeLine]
@[simp] theorem sz31 : (31 ≤ sizeLine) = True := by simp [sizeLine]
@[simp] theorem szl31 : (31 < sizeLine) = True := by simp [sizeLine]
@[simp] theorem sz32 : (32 ≤ sizeLine) = True := by simp [sizeLine]
@[simp] theorem szl32 : (32 < sizeLine) = True := by simp [sizeLine]
theorem wpM_ok {m : Mo α} {e e' : Fv} {a : α} {Q : α → Fv → Prop} {E : Nat → Fv → Prop} (h : m e = .ok a e') (q : Q a e') : wpM m e Q E := by
  unfold wpM
  rw [h]
  exact q
theorem ok_of_wp {m : Mo α} {e e' : Fv} {a : α} (h : wpM m e (fun b f => b = a ∧ f = e') (fun _ _ => False)) : m e = .ok a e' := by
  unfold wpM at h
  cases q : (m e : Res α) with
  | ok b f => rw [q] at h; obtain ⟨rfl, rfl⟩ := h; rfl
  | exc c f => rw [q] at h; exact h.elim
  | stuck => rw [q] at h; exact h.elim
end
end Cf
/-! Cf, part O: reckoning with the functions of data. -/
namespace Cf
open PySem PySem.Spec PyProof.Rows L2

theorem seq_nx {F1 F2 : Mo Out} {e e' : Fv} (h : F1 e = .ok .nx e') : seqF F1 F2 e = F2 e' := by
  simp [h]
theorem seq_rt {F1 F2 : Mo Out} {e e' : Fv} {r : Rv} (h : F1 e = .ok (.rt r) e') : seqF F1 F2 e = .ok (.rt r) e' := by
  simp [h]
/-- ints -/
def I (n : Int) : PyData := .int n
theorem mulOk_left {i j : Int} (h : i.natAbs < 2 ^ 64) : mulOk i j = true := by
  have : Builtin.Int.intBits i ≤ shortFactorBits := by
    unfold Builtin.Int.intBits shortFactorBits
    split
    · omega
    · have : i.natAbs.log2 < 64 := by
        rename_i z
        have : i.natAbs ≠ 0 := by simpa using z
        exact (Nat.log2_lt this).mpr h
      omega
  simp [mulOk, Nat.not_lt.mpr this]
theorem mulOk_right {i j : Int} (h : j.natAbs < 2 ^ 64) : mulOk i j = true := by
  have : Builtin.Int.intBits j ≤ shortFactorBits := by
    unfold Builtin.Int.intBits shortFactorBits
    split
    · omega
    · have : j.natAbs.log2 < 64 := by
        rename_i z
        have : j.natAbs ≠ 0 := by simpa using z
        exact (Nat.log2_lt this).mpr h
      omega
  simp [mulOk, Nat.not_lt.mpr this]
theorem mulG_left {i j : Int} (h : i.natAbs < 2 ^ 64) : mulG (.int i) (.int j) = some (.sh (.int (i * j))) := by
  simp [mulG, mulOk_left h]
theorem mulG_right {i j : Int} (h : j.natAbs < 2 ^ 64) : mulG (.int i) (.int j) = some (.sh (.int (i * j))) := by
  simp [mulG, mulOk_right h]
theorem fdivG_small {i j : Int} (h0 : j ≠ 0) (h : j.natAbs < 1073741824) : fdivG (.int i) (.int j) = some (.sh (.int (i.fdiv j))) := by
  simp [fdivG, h0, PyProof.noPylong_small h]

/-! ### equality -/
theorem canLayAll_iff : ∀ {ds : List PyData}, PyData.canLayAll0 ds = true ↔ ∀ d ∈ ds, d.canLay0 = true
  | [] => by simp [PyData.canLayAll0]
  | d :: ds => by simp [PyData.canLayAll0, canLayAll_iff (ds := ds)]
theorem depthAll_le : ∀ {ds : List PyData} {n : Nat}, PyData.depthAll ds ≤ n ↔ ∀ d ∈ ds, d.depth ≤ n
  | [], n => by simp [PyData.depthAll]
  | d :: ds, n => by simp [PyData.depthAll, depthAll_le (ds := ds), Nat.max_le]
theorem eqvAll_eq : ∀ {xs ys : List PyData}, (∀ x ∈ xs, ∀ y ∈ ys, PyData.eqv x y = true ↔ x = y) → (PyData.eqvAll xs ys = true ↔ xs = ys)
  | [], [], _ => by simp [PyData.eqvAll]
  | [], _ :: _, _ => by simp [PyData.eqvAll]
  | _ :: _, [], _ => by simp [PyData.eqvAll]
  | x :: xs, y :: ys, h => by
    simp only [PyData.eqvAll, Bool.and_eq_true, List.cons.injEq]
    rw [h x (by simp) y (by simp), eqvAll_eq fun a ha b hb => h a (by simp [ha]) b (by simp [hb])]
theorem eqv_int {i j : Int} : PyData.eqv (.int i) (.int j) = decide (i = j) := by
  simp [PyData.eqv]
  rfl
/-- data of ints: no bool, no text, no table; at most n levels -/
inductive Plain : Nat → PyData → Prop
  | int {n : Nat} (i : Int) : Plain n (.int i)
  | non {n : Nat} : Plain n .none
  | tup {n : Nat} {ds : List PyData} : (∀ d ∈ ds, Plain n d) → Plain (n + 1) (.tuple ds)
  | lst {n : Nat} {ds : List PyData} : (∀ d ∈ ds, Plain n d) → Plain (n + 1) (.list ds)
theorem Plain.lay : ∀ {n : Nat} {d : PyData}, Plain n d → d.canLay0 = true
  | _, _, .int _ => rfl
  | _, _, .non => rfl
  | _, _, .tup h => by
    simp only [PyData.canLay0]
    exact canLayAll_iff.mpr fun d hd => (h d hd).lay
  | _, _, .lst h => by
    simp only [PyData.canLay0]
    exact canLayAll_iff.mpr fun d hd => (h d hd).lay
theorem Plain.dep : ∀ {n : Nat} {d : PyData}, Plain n d → d.depth ≤ n
  | _, _, .int _ => Nat.zero_le _
  | _, _, .non => Nat.zero_le _
  | _, _, .tup h => by
    simp only [PyData.depth]
    exact Nat.succ_le_succ (depthAll_le.mpr fun d hd => (h d hd).dep)
  | _, _, .lst h => by
    simp only [PyData.depth]
    exact Nat.succ_le_succ (depthAll_le.mpr fun d hd => (h d hd).dep)
theorem Plain.eqv : ∀ {n m : Nat} {a b : PyData}, Plain n a → Plain m b → (PyData.eqv a b = true ↔ a = b)
  | _, _, _, _, .int i, .int j => by simp [eqv_int]
  | _, _, _, _, .int i, .non => by simp [PyData.eqv]
  | _, _, _, _, .int i, .tup _ => by simp [PyData.eqv]
  | _, _, _, _, .int i, .lst _ => by simp [PyData.eqv]
  | _, _, _, _, .non, .int i => by simp [PyData.eqv]
  | _, _, _, _, .non, .non => by simp [PyData.eqv]
  | _, _, _, _, .non, .tup _ => by simp [PyData.eqv]
  | _, _, _, _, .non, .lst _ => by simp [PyData.eqv]
  | _, _, _, _, .tup h, .int i => by simp [PyData.eqv]
  | _, _, _, _, .tup h, .non => by simp [PyData.eqv]
  | _, _, _, _, .tup h, .tup k => by
    simp only [PyData.eqv, PyData.tuple.injEq]
    exact eqvAll_eq fun x hx y hy => (h x hx).eqv (k y hy)
  | _, _, _, _, .tup h, .lst _ => by simp [PyData.eqv]
  | _, _, _, _, .lst h, .int i => by simp [PyData.eqv]
  | _, _, _, _, .lst h, .non => by simp [PyData.eqv]
  | _, _, _, _, .lst h, .tup _ => by simp [PyData.eqv]
  | _, _, _, _, .lst h, .lst k => by
    simp only [PyData.eqv, PyData.list.injEq]
    exact eqvAll_eq fun x hx y hy => (h x hx).eqv (k y hy)
noncomputable instance decEq : DecidableEq PyData := fun a b => Classical.propDecidable _
theorem eqG_plain {n m : Nat} {a b : PyData} (ha : Plain n a) (hb : Plain m b) (h : min n m ≤ 64) : eqG a b = some (.sh (.bool (decide (a = b)))) := by
  have h1 := ha.dep
  have h2 := hb.dep
  have e : PyData.eqv a b = decide (a = b) := by
    by_cases z : a = b
    · rw [(ha.eqv hb).mpr z, decide_eq_true z]
    · rw [decide_eq_false z]
      exact Bool.eq_false_iff.mpr fun y => z ((ha.eqv hb).mp y)
  unfold eqG eqOk
  rw [ha.lay, hb.lay, e]
  simp
  omega
theorem neG_plain {n m : Nat} {a b : PyData} (ha : Plain n a) (hb : Plain m b) (h : min n m ≤ 64) : neG a b = some (.sh (.bool (!decide (a = b)))) := by
  have e := eqG_plain ha hb h
  unfold eqG at e
  unfold neG
  split at e
  · rename_i c
    rw [if_pos c]
    have := Option.some.inj e
    simp only [Rv.sh.injEq, PyData.bool.injEq] at this
    rw [this]
  · cases e
theorem eqG_int {i j : Int} : eqG (.int i) (.int j) = some (.sh (.bool (decide (i = j)))) := by
  rw [eqG_plain (.int (n := 0) i) (.int (n := 0) j) (by decide)]
  simp
theorem neG_int {i j : Int} : neG (.int i) (.int j) = some (.sh (.bool (!decide (i = j)))) := by
  rw [neG_plain (.int (n := 0) i) (.int (n := 0) j) (by decide)]
  simp
theorem eqG_bool {a b : Bool} : eqG (.bool a) (.bool b) = some (.sh (.bool (a == b))) := by
  simp [eqG, eqOk, PyData.canLay0, PyData.depth, PyData.eqv]
theorem neG_bool {a b : Bool} : neG (.bool a) (.bool b) = some (.sh (.bool (a != b))) := by
  simp [neG, eqOk, PyData.canLay0, PyData.depth, PyData.eqv, bne]
theorem eqG_nil {ds : List PyData} (h : ∀ d ∈ ds, d.canLay0 = true) : eqG (.list ds) (.list []) = some (.sh (.bool ds.isEmpty)) := by
  unfold eqG eqOk
  have : PyData.canLay0 (.list ds) = true := by simpa only [PyData.canLay0] using canLayAll_iff.mpr h
  rw [this]
  have e : PyData.eqv (.list ds) (.list []) = ds.isEmpty := by
    cases ds <;> simp [PyData.eqv, PyData.eqvAll]
  rw [e]
  simp [PyData.canLay0, PyData.canLayAll0, PyData.depth, PyData.depthAll]
theorem eqG_nil0 : eqG (.list []) (.list []) = some (.sh (.bool true)) := eqG_nil (by simp)
theorem in_any {n : Nat} {a : PyData} {ds : List PyData} (ha : Plain n a) (hn : n ≤ 60) (h : ∀ d ∈ ds, Plain 60 d) : inOk a ds = true ∧ (ds.any fun z => PyData.eqv z a) = decide (a ∈ ds) := by
  constructor
  · have := ha.dep
    simp [inOk, ha.lay, canLayAll_iff.mpr fun d hd => (h d hd).lay]
    omega
  · rw [Bool.eq_iff_iff]
    simp only [List.any_eq_true, decide_eq_true_eq]
    constructor
    · rintro ⟨x, hx, e⟩
      rw [← ((h x hx).eqv ha).mp e]
      exact hx
    · exact fun hx => ⟨a, hx, ((h a hx).eqv ha).mpr rfl⟩
section
variable {n : Nat} {a : PyData} {ds : List PyData} (ha : Plain n a) (hn : n ≤ 60) (h : ∀ d ∈ ds, Plain 60 d)
include ha hn h
theorem inG_tup : inG a (.tuple ds) = some (.sh (.bool (decide (a ∈ ds)))) := by
  simp [inG, (in_any ha hn h).1, (in_any ha hn h).2]
theorem inG_lst : inG a (.list ds) = some (.sh (.bool (decide (a ∈ ds)))) := by
  simp [inG, (in_any ha hn h).1, (in_any ha hn h).2]
theorem notInG_tup : notInG a (.tuple ds) = some (.sh (.bool (!decide (a ∈ ds)))) := by
  simp [notInG, (in_any ha hn h).1, (in_any ha hn h).2]
theorem notInG_lst : notInG a (.list ds) = some (.sh (.bool (!decide (a ∈ ds)))) := by
  simp [notInG, (in_any ha hn h).1, (in_any ha hn h).2]
end

/-! ### items -/
theorem atI_nat {α : Type} {xs : List α} {i : Int} (h0 : 0 ≤ i) (h : i < xs.length) : atI xs i = xs[i.toNat]? := by
  simp [atI, ixN, h0, h]
theorem atI_cons {α : Type} {x : α} {xs : List α} : atI (x :: xs) 0 = some x := by
  rw [atI_nat (by omega) (by simp only [List.length_cons]; omega)]
  rfl
theorem atI_map {α β : Type} {f : α → β} {xs : List α} {i : Int} : atI (xs.map f) i = (atI xs i).map f := by
  unfold atI
  rw [List.length_map]
  cases ixN xs.length i <;> simp

/-! ### ranges (the bound is a big number: the kernel must not reckon with it) -/
theorem range1_ok {Fs : Mo (List Rv)} {e e' : Fv} {j : Int} (h : Fs e = .ok [.sh (.int j)] e') (h0 : -(2 ^ 62) ≤ j) (h1 : j < 2 ^ 62) : range1I Fs e = .ok (rangeD 0 j.toNat) e' := by
  unfold range1I
  rw [bind_app, h]
  show (if _ then _ else _ : Mo _) e' = _
  rw [if_pos (rangeOk_iff.mpr ⟨h0, h1⟩)]
  rfl
theorem range2_ok {Fs : Mo (List Rv)} {e e' : Fv} {i j : Int} (h : Fs e = .ok [.sh (.int i), .sh (.int j)] e') (g0 : -(2 ^ 62) ≤ i) (g1 : i < 2 ^ 62) (h0 : -(2 ^ 62) ≤ j) (h1 : j < 2 ^ 62) : range2I Fs e = .ok (rangeD i (j - i).toNat) e' := by
  unfold range2I
  rw [bind_app, h]
  show (if _ then _ else _ : Mo _) e' = _
  rw [if_pos ⟨rangeOk_iff.mpr ⟨g0, g1⟩, rangeOk_iff.mpr ⟨h0, h1⟩⟩]
  rfl
theorem for_ok {Io : Mo (List PyData)} {T : PyData → Mo Unit} {B : Mo Out} {ds : List PyData} {e e' : Fv} (h : Io e = .ok ds e') : forF Io T B e = loopF T B ds e' := by
  simp [h]

/-! ### comprehensions that change nothing -/
theorem lcLoop_one {v : Nat} {C : Mo Bool} {F : Mo Rv} {e : Fv} (hv : v < e.length) {p : PyData → Bool} {g : PyData → PyData} :
    ∀ (ds acc : List PyData) (e' : Fv), e'.set v .un = e.set v .un → acc.length + ds.length ≤ sizeLine →
    (∀ d ∈ ds, C (e.set v (.sh d)) = .ok (p d) (e.set v (.sh d))) →
    (∀ d ∈ ds, p d = true → (F >>= force) (e.set v (.sh d)) = .ok (g d) (e.set v (.sh d))) →
    ∃ e'', e''.set v .un = e.set v .un ∧ lcLoop [v] (toSlot v) C F ds acc e' = .ok (acc ++ (ds.filter p).map g) e''
  | [], acc, e', he, _, _, _ => ⟨e', he, by simp [lcLoop]⟩
  | d :: ds, acc, e', he, hl, hC, hF => by
    have e1 : (e.set v Sl.un).set v (.sh d) = e.set v (.sh d) := by rw [List.set_set]
    unfold lcLoop
    simp only [wipeE, he, thenU, toSlot, storeF, e1, bind_app, hC d (by simp)]
    have hl' : acc.length + (ds.length + 1) ≤ sizeLine := by simpa using hl
    by_cases hp : p d = true
    · have f := hF d (by simp) hp
      simp only [hp, if_true]
      rw [bind_app] at f
      rw [bind_app]
      cases z : (F (e.set v (.sh d)) : Res Rv) with
      | exc c e2 => rw [z] at f; simp at f
      | stuck => rw [z] at f; simp at f
      | ok r e2 =>
        rw [z] at f
        simp only [f, bind_app] at f ⊢
        rw [if_pos (by omega)]
        obtain ⟨e'', h1, h2⟩ := lcLoop_one hv ds (acc ++ [g d]) (e.set v (.sh d)) (by rw [List.set_set]) (by simp; omega) (fun x hx => hC x (by simp [hx])) (fun x hx => hF x (by simp [hx]))
        exact ⟨e'', h1, by rw [h2]; simp [hp]⟩
    · simp only [hp, if_false]
      obtain ⟨e'', h1, h2⟩ := lcLoop_one hv ds acc (e.set v (.sh d)) (by rw [List.set_set]) (by omega) (fun x hx => hC x (by simp [hx])) (fun x hx => hF x (by simp [hx]))
      exact ⟨e'', h1, by simp [h2, hp]⟩
theorem lc_one {v : Nat} {Io : Mo (List PyData)} {C : Mo Bool} {F : Mo Rv} {e0 e : Fv} {ds : List PyData} (p : PyData → Bool) (g : PyData → PyData) (hI : Io e0 = .ok ds e) (hv : v < e.length) (no : noOwn [v] e = true) (hl : ds.length ≤ sizeLine)
    (hC : ∀ d ∈ ds, C (e.set v (.sh d)) = .ok (p d) (e.set v (.sh d)))
    (hF : ∀ d ∈ ds, p d = true → (F >>= force) (e.set v (.sh d)) = .ok (g d) (e.set v (.sh d))) : lcF [v] Io (toSlot v) C F e0 = .ok (.fr ((ds.filter p).map g)) e := by
  obtain ⟨e'', h1, h2⟩ := lcLoop_one hv ds [] e rfl (by simpa using hl) hC hF
  have hb : restE e [v] e'' = e := by
    simp only [restE]
    have : ∀ x, e''.set v x = e.set v x := fun x => by
      have := congrArg (fun l : Fv => l.set v x) h1
      simpa [List.set_set] using this
    rw [this, List.getElem?_eq_getElem hv]
    simp
  unfold lcF
  simp only [bind_app, hI]
  unfold block
  rw [if_pos no, h2]
  simp only [hb, pure_app, List.nil_append]
end Cf
/-! Cf, part P: loops; the helpers that every law has. -/
namespace Cf
open PySem PySem.Spec PyProof.Rows L2

@[simp] theorem loop_nil {T : PyData → Mo Unit} {B : Mo Out} {e : Fv} : loopF T B [] e = .ok .nx e := rfl
theorem loop_cons {T : PyData → Mo Unit} {B : Mo Out} {d : PyData} {ds : List PyData} {e : Fv} : loopF T B (d :: ds) e = match thenU (T d) B e with
    | .ok .nx e' => loopF T B ds e'
    | .ok .ct e' => loopF T B ds e'
    | .ok .bk e' => .ok .nx e'
    | .ok (.rt r) e' => .ok (.rt r) e'
    | .exc c e' => .exc c e'
    | .stuck => .stuck := by
  show thenU (T d) _ e = _
  simp only [thenU]
  cases (T d e : Res Unit) with
  | exc c e' => rfl
  | stuck => rfl
  | ok u e' =>
    simp only [bind_app]
    cases (B e' : Res Out) with
    | exc c e' => rfl
    | stuck => rfl
    | ok o e2 => cases o <;> rfl
/-- a loop that goes to its end, with what holds after k turns -/
theorem loop_inv {T : PyData → Mo Unit} {B : Mo Out} {J : Nat → Fv → Prop} : ∀ {ds : List PyData} {k : Nat} {e : Fv},
    (∀ d ∈ ds, ∀ j e, j < k + ds.length → J j e → ∃ e', (thenU (T d) B e = .ok .nx e' ∨ thenU (T d) B e = .ok .ct e') ∧ J (j + 1) e') → J k e → ∃ e', loopF T B ds e = .ok .nx e' ∧ J (k + ds.length) e'
  | [], k, e, _, h => ⟨e, rfl, h⟩
  | d :: ds, k, e, hs, h => by
    obtain ⟨e1, h1, h2⟩ := hs d (by simp) k e (by simp) h
    obtain ⟨e2, h3, h4⟩ := loop_inv (ds := ds) (k := k + 1) (fun x hx j e hj => hs x (by simp [hx]) j e (by simp at hj ⊢; omega)) h2
    refine ⟨e2, ?_, by rw [List.length_cons, show k + (ds.length + 1) = k + 1 + ds.length by omega]; exact h4⟩
    rw [loop_cons]
    rcases h1 with h1 | h1 <;> rw [h1] <;> exact h3
theorem rangeD_length {lo : Int} {n : Nat} : (rangeD lo n).length = n := by simp [rangeD]
theorem mem_rangeD {lo : Int} {n : Nat} {d : PyData} : d ∈ rangeD lo n ↔ ∃ k : Nat, k < n ∧ d = .int (lo + k) := by
  simp only [rangeD, List.mem_map, List.mem_range]
  exact ⟨fun ⟨k, h, e⟩ => ⟨k, h, e.symm⟩, fun ⟨k, h, e⟩ => ⟨k, h, e.symm⟩⟩
theorem rangeD_succ {lo : Int} {n : Nat} : rangeD lo (n + 1) = .int lo :: rangeD (lo + 1) n := by
  unfold rangeD
  rw [List.range_succ_eq_map, List.map_cons, List.map_map]
  congr 1
  · simp
  · exact List.map_congr_left fun k _ => by
      simp
      omega
theorem rangeD_zero {lo : Int} : rangeD lo 0 = [] := rfl
theorem rangeD_concat {lo : Int} {n : Nat} : rangeD lo (n + 1) = rangeD lo n ++ [.int (lo + n)] := by
  unfold rangeD
  rw [List.range_succ, List.map_append]
  rfl

/-! ### draws -/
noncomputable section
abbrev drawsL1 : Mo Out := ifF (boolF (binF gtG (readF 3) (constF (.int 0)))) (seqF (dropF (appendF 1 (binF modG (callBF intG (consF (readF 3) (nilF))) (constF (.int 997)))))
    (setF 3 (binF fdivG (readF 3) (constF (.int 997))))) (skipF)
def drawsF1 : Mo Out := forF (range1I (consF (constF (.int 60)) (nilF))) (toSlot 5) drawsL1
def drawsL2g (pw : Mo Rv) (F : Mo Out) : Mo Out :=
  seqF (setF 3 (callBF absG (consF (readF 2) (nilF))))
    (seqF (ifF (boolF (binF ltG (readF 3) pw)) (seqF (setF 4 (binF modG (callBF intG (consF (binF addG (binF mulG (readF 3) (constF (.int 48271))) (constF (.int 11))) (nilF))) (constF (.int 2147483647))))
    (seqF (dropF (appendF 1 (binF modG (callBF intG (consF (binF addG (binF mulG (readF 4) (constF (.int 69621))) (readF 3)) (nilF))) (constF (.int 2147483629)))))
    (seqF (dropF (appendF 1 (binF modG (callBF intG (consF (binF addG (readF 4) (binF fdivG (readF 3) (constF (.int 7)))) (nilF))) (constF (.int 1000003)))))
    (setF 3 (constF (.int 0)))))) (skipF))
    F)
abbrev drawsL2 : Mo Out := drawsL2g (binF powG (constF (.int 10)) (constF (.int 18))) drawsF1
abbrev drawsL3 : Mo Out :=
  seqF (setF 6 (binF modG (callBF intG (consF (binF addG (binF mulG (readF 6) (constF (.int 48271))) (constF (.int 69621))) (nilF))) (constF (.int 2147483647))))
    (dropF (appendF 1 (binF fdivG (readF 6) (constF (.int 5)))))
def drawsB : Mo Out :=
  seqF (setF 1 (lstF (nilF)))
    (seqF (forF (seqI (readF 0)) (toSlot 2) drawsL2)
    (seqF (setF 6 (constF (.int 1)))
    (seqF (ifF (boolF (binF gtG (callBF lenG (consF (readF 0) (nilF))) (constF (.int 0)))) (setF 6 (binF addG (constF (.int 1)) (callBF absG (consF (binF itemG (readF 0) (constF (.int 0))) (nilF))))) (skipF))
    (seqF (forF (range1I (consF (constF (.int 900)) (nilF))) (toSlot 5) drawsL3)
    (retF (revL (readF 1)))))))
def takeB : Mo Out :=
  seqF (ifF (boolF (binF eqG (callBF lenG (consF (readF 0) (nilF))) (constF (.int 0)))) (retF (constF (.int 0))) (skipF))
    (retF (binF modG (callBF intG (consF (popF 0) (nilF))) (readF 1)))
def saysB : Mo Out :=
  retF (ofB (andF (isF "bool" (readF 0)) (boolF (binF eqG (readF 0) (readF 1)))))
def alikeQ (self : List PyData → FnR) : Mo Rv := lcF [2] (range1I (consF (callBF lenG (consF (readF 1) (nilF))) (nilF))) (toSlot 2) (notF (truthF (callF 2 self (consF (binF itemG (readF 0) (readF 2)) (consF (binF itemG (readF 1) (readF 2)) (nilF)))))) (readF 2)
def alikeG (Q : Mo Rv) : Mo Out :=
  seqF (ifF (orF (isF "list" (readF 1)) (isF "tuple" (readF 1))) (seqF (ifF (orF (boolF (binF neG (ofB (isF "list" (readF 0))) (ofB (isF "list" (readF 1))))) (boolF (binF neG (ofB (isF "tuple" (readF 0))) (ofB (isF "tuple" (readF 1)))))) (retF (constF (.bool false))) (skipF))
    (retF (ofB (andF (boolF (binF eqG (callBF lenG (consF (readF 0) (nilF))) (callBF lenG (consF (readF 1) (nilF))))) (boolF (binF eqG Q (lstF (nilF)))))))) (skipF))
    (seqF (ifF (boolF (binF isG (readF 1) (constF .none))) (retF (binF isG (readF 0) (constF .none))) (skipF))
    (seqF (ifF (orF (isF "bool" (readF 1)) (isF "bool" (readF 0))) (retF (ofB (andF (isF "bool" (readF 0)) (andF (isF "bool" (readF 1)) (boolF (binF eqG (readF 0) (readF 1))))))) (skipF))
    (seqF (ifF (isF "int" (readF 1)) (retF (ofB (andF (isF "int" (readF 0)) (boolF (binF eqG (readF 0) (readF 1)))))) (skipF))
    (retF (ofB (andF (isF "str" (readF 0)) (boolF (binF eqG (readF 0) (readF 1)))))))))
def alikeB (self : List PyData → FnR) : Mo Out := alikeG (alikeQ self)
def alikeF : Nat → List PyData → FnR
  | 0 => fun _ => .stuck
  | n + 1 => runF 3 (alikeB (alikeF n))

def iL (ns : List Int) : List PyData := ns.map .int
theorem iL_length {ns : List Int} : (iL ns).length = ns.length := List.length_map _
theorem pow18 : powG (.int 10) (.int 18) = some (.sh (.int 1000000000000000000)) := by
  show (if (0 : Int) ≤ 18 ∧ (18 : Int) ≤ 1000000 ∧ (10 : Int).natAbs < 2 ^ 64 then some (Rv.sh (.int (10 ^ (18 : Int).toNat))) else none) = _
  rw [if_pos ⟨by decide, by decide, by decide⟩]
  have : (10 : Int) ^ (18 : Int).toNat = 1000000000000000000 := by decide
  rw [this]
theorem pow18F : binF powG (constF (.int 10)) (constF (.int 18)) = constF (.int 1000000000000000000) := by
  funext e
  simp [pow18]
theorem draws1 {s d2 d3 d4 d5 d6 : Sl} {x : Int} {ms : List Int} (h : ms.length < 2 ^ 20) (hd : d3 = .sh (.int x)) :
    ∃ (ms' : List Int) (y : Int) (e5 : Sl), (drawsF1 [s, .own none (iL ms), d2, d3, d4, d5, d6] : Res Out) = .ok .nx [s, .own none (iL ms'), d2, .sh (.int y), d4, e5, d6] ∧ ms'.length ≤ ms.length + 60 := by
  subst hd
  obtain ⟨e', h1, ms', y, e5, rfl, h2⟩ := loop_inv (T := toSlot 5) (B := drawsL1) (J := fun j e => ∃ (ms' : List Int) (y : Int) (e5 : Sl), e = [s, .own none (iL ms'), d2, .sh (.int y), d4, e5, d6] ∧ ms'.length ≤ ms.length + j) (ds := rangeD 0 60) (k := 0)
    (e := [s, .own none (iL ms), d2, .sh (.int x), d4, d5, d6]) (fun d _ j e hj ⟨ms', y, e5, he, hl⟩ => by
      subst he
      rw [rangeD_length] at hj
      by_cases hy : 0 < y
      · refine ⟨[s, .own none (iL (ms' ++ [y.fmod 997])), d2, .sh (.int (y.fdiv 997)), d4, .sh d, d6], .inl ?_, _, _, _, rfl, by simp; omega⟩
        have : ms'.length < sizeLine := by
          unfold sizeLine
          omega
        simp [drawsL1, hy, this, fdivG_small, iL]
      · refine ⟨[s, .own none (iL ms'), d2, .sh (.int y), d4, .sh d, d6], .inl ?_, _, _, _, rfl, by omega⟩
        simp [drawsL1, hy]) ⟨ms, x, d5, rfl, by omega⟩
  refine ⟨ms', y, e5, ?_, by rw [rangeD_length] at h2; omega⟩
  unfold drawsF1
  generalize hz : drawsL1 = z at h1 ⊢
  exact (for_ok (range1_ok (j := 60) (e' := [s, .own none (iL ms), d2, .sh (.int x), d4, d5, d6]) (by simp) (by omega) (by omega))).trans h1
theorem step_a (F : Mo Out) (pw : Mo Rv) (m : Int) (hp : ∀ e, pw e = .ok (.sh (.int m)) e) {s d2 d3 d4 d5 d6 : Sl} {c : Int} {ms : List Int} (l1 : ms.length < sizeLine) (l2 : ms.length + 1 < sizeLine) (hc : (c.natAbs : Int) < m) : thenU (toSlot 2 (.int c)) (drawsL2g pw F) [s, .own none (iL ms), d2, d3, d4, d5, d6] = F [s, .own none (iL (ms ++ [((((c.natAbs : Int) * 48271 + 11).fmod 2147483647) * 69621 + c.natAbs).fmod 2147483629, ((((c.natAbs : Int) * 48271 + 11).fmod 2147483647) + (c.natAbs : Int).fdiv 7).fmod 1000003])), .sh (.int c), .sh (.int 0), .sh (.int (((c.natAbs : Int) * 48271 + 11).fmod 2147483647)), d5, d6] := by
  simp [drawsL2g, hp, hc, mulG_right, fdivG_small, l1, l2, iL]
theorem step_b (F : Mo Out) (pw : Mo Rv) (m : Int) (hp : ∀ e, pw e = .ok (.sh (.int m)) e) {s d2 d3 d4 d5 d6 : Sl} {c : Int} {ms : List Int} (hc : ¬ (c.natAbs : Int) < m) : thenU (toSlot 2 (.int c)) (drawsL2g pw F) [s, .own none (iL ms), d2, d3, d4, d5, d6] = F [s, .own none (iL ms), .sh (.int c), .sh (.int (c.natAbs : Int)), d4, d5, d6] := by
  simp [drawsL2g, hp, hc]
theorem draws2 {s d2 d3 d4 d5 d6 : Sl} {c : Int} {ms : List Int} (h : ms.length < 2 ^ 19) :
    ∃ (ms' : List Int) (e3 e4 e5 : Sl), (thenU (toSlot 2 (.int c)) drawsL2 [s, .own none (iL ms), d2, d3, d4, d5, d6] : Res Out) = .ok .nx [s, .own none (iL ms'), .sh (.int c), e3, e4, e5, d6] ∧ ms'.length ≤ ms.length + 62 := by
  have l1 : ms.length < sizeLine := by unfold sizeLine; omega
  have l2 : ms.length + 1 < sizeLine := by unfold sizeLine; omega
  by_cases hc : (c.natAbs : Int) < 1000000000000000000
  · obtain ⟨ms', y, e5, h1, h2⟩ := draws1 (s := s) (d2 := .sh (.int c)) (d4 := .sh (.int (((c.natAbs : Int) * 48271 + 11).fmod 2147483647))) (d5 := d5) (d6 := d6) (x := 0)
      (ms := ms ++ [((((c.natAbs : Int) * 48271 + 11).fmod 2147483647) * 69621 + c.natAbs).fmod 2147483629, ((((c.natAbs : Int) * 48271 + 11).fmod 2147483647) + (c.natAbs : Int).fdiv 7).fmod 1000003]) (by simp; omega) rfl
    refine ⟨ms', .sh (.int y), .sh (.int (((c.natAbs : Int) * 48271 + 11).fmod 2147483647)), e5, ?_, by simp at h2; omega⟩
    rw [← h1]
    exact step_a _ _ 1000000000000000000 (fun e => by rw [pow18F]; rfl) l1 l2 hc
  · obtain ⟨ms', y, e5, h1, h2⟩ := draws1 (s := s) (d2 := .sh (.int c)) (d3 := .sh (.int (c.natAbs : Int))) (d4 := d4) (d5 := d5) (d6 := d6) (ms := ms) (by omega) rfl
    refine ⟨ms', .sh (.int y), d4, e5, ?_, by omega⟩
    rw [← h1]
    exact step_b _ _ 1000000000000000000 (fun e => by rw [pow18F]; rfl) hc
theorem draws3 {s d2 d3 d4 d5 : Sl} {x : Int} {d : PyData} {ms : List Int} (h : ms.length < 2 ^ 20) :
    ∃ (ms' : List Int) (y : Int), (thenU (toSlot 5 d) drawsL3 [s, .own none (iL ms), d2, d3, d4, d5, .sh (.int x)] : Res Out) = .ok .nx [s, .own none (iL ms'), d2, d3, d4, .sh d, .sh (.int y)] ∧ ms'.length ≤ ms.length + 1 := by
  have l1 : ms.length < sizeLine := by unfold sizeLine; omega
  refine ⟨ms ++ [((x * 48271 + 69621).fmod 2147483647).fdiv 5], (x * 48271 + 69621).fmod 2147483647, ?_, by simp⟩
  simp [mulG_right, fdivG_small, l1, iL]
theorem draws_ok (ns : List Int) (hl : ns.length ≤ 63) : ∃ ms : List Int, ms.length < 2 ^ 20 ∧ runF 7 drawsB [scrD ns] = .ok (.fr (iL ms)) := by
  obtain ⟨e1, h1, ms1, d2, d3, d4, d5, rfl, l1⟩ := loop_inv (T := toSlot 2) (B := drawsL2) (ds := iL ns) (k := 0)
    (J := fun j e => ∃ (ms : List Int) (d2 d3 d4 d5 : Sl), e = [.sh (scrD ns), .own none (iL ms), d2, d3, d4, d5, .un] ∧ ms.length ≤ j * 62) (e := [.sh (scrD ns), .own none (iL []), .un, .un, .un, .un, .un])
    (fun d hd j e hj ⟨ms, d2, d3, d4, d5, he, hm⟩ => by
      subst he
      obtain ⟨c, -, rfl⟩ := List.mem_map.mp hd
      rw [iL_length] at hj
      obtain ⟨ms', e3, e4, e5, g1, g2⟩ := draws2 (s := .sh (scrD ns)) (d2 := d2) (d3 := d3) (d4 := d4) (d5 := d5) (d6 := .un) (c := c) (ms := ms) (by omega)
      exact ⟨_, .inl g1, ms', _, _, _, _, rfl, by omega⟩) ⟨[], .un, .un, .un, .un, rfl, by simp⟩
  rw [iL_length] at l1
  have hd : ∃ x : Int, (ifF (boolF (binF gtG (callBF lenG (consF (readF 0) (nilF))) (constF (.int 0)))) (setF 6 (binF addG (constF (.int 1)) (callBF absG (consF (binF itemG (readF 0) (constF (.int 0))) (nilF))))) (skipF) : Mo Out)
      [.sh (scrD ns), .own none (iL ms1), d2, d3, d4, d5, .sh (.int 1)] = .ok .nx [.sh (scrD ns), .own none (iL ms1), d2, d3, d4, d5, .sh (.int x)] := by
    cases ns with
    | nil => exact ⟨1, by simp [scrD]⟩
    | cons n ns => exact ⟨1 + n.natAbs, by simp [scrD, atI_cons]⟩
  obtain ⟨x, hx⟩ := hd
  obtain ⟨e2, h2, ms2, y, d7, rfl, l2⟩ := loop_inv (T := toSlot 5) (B := drawsL3) (ds := rangeD 0 900) (k := 0)
    (J := fun j e => ∃ (ms : List Int) (y : Int) (d7 : Sl), e = [.sh (scrD ns), .own none (iL ms), d2, d3, d4, d7, .sh (.int y)] ∧ ms.length ≤ ms1.length + j) (e := [.sh (scrD ns), .own none (iL ms1), d2, d3, d4, d5, .sh (.int x)])
    (fun d hd j e hj ⟨ms, y, d7, he, hm⟩ => by
      subst he
      rw [rangeD_length] at hj
      obtain ⟨ms', z, g1, g2⟩ := draws3 (s := .sh (scrD ns)) (d2 := d2) (d3 := d3) (d4 := d4) (d5 := d7) (x := y) (d := d) (ms := ms) (by omega)
      exact ⟨_, .inl g1, ms', _, _, rfl, by omega⟩) ⟨ms1, x, d5, rfl, by omega⟩
  rw [rangeD_length] at l2
  refine ⟨ms2.reverse, by rw [List.length_reverse]; omega, ?_⟩
  have s1 : (setF 1 (lstF nilF) : Mo Out) (env0 7 ([scrD ns].map .sh)) = .ok .nx [.sh (scrD ns), .own none (iL []), .un, .un, .un, .un, .un] := by simp [iL]
  have s2 : (forF (seqI (readF 0)) (toSlot 2) drawsL2 : Mo Out) [.sh (scrD ns), .own none (iL []), .un, .un, .un, .un, .un] = .ok .nx [.sh (scrD ns), .own none (iL ms1), d2, d3, d4, d5, .un] := by
    rw [← h1]
    rfl
  have s3 : (setF 6 (constF (.int 1)) : Mo Out) [.sh (scrD ns), .own none (iL ms1), d2, d3, d4, d5, .un] = .ok .nx [.sh (scrD ns), .own none (iL ms1), d2, d3, d4, d5, .sh (.int 1)] := by simp
  have s5 : (forF (range1I (consF (constF (.int 900)) (nilF))) (toSlot 5) drawsL3 : Mo Out) [.sh (scrD ns), .own none (iL ms1), d2, d3, d4, d5, .sh (.int x)] = .ok .nx [.sh (scrD ns), .own none (iL ms2), d2, d3, d4, d7, .sh (.int y)] :=
    (for_ok (range1_ok (j := 900) (e' := [.sh (scrD ns), .own none (iL ms1), d2, d3, d4, d5, .sh (.int x)]) (by simp) (by omega) (by omega))).trans h2
  unfold runF drawsB
  rw [seq_nx s1, seq_nx s2, seq_nx s3, seq_nx hx, seq_nx s5]
  simp [iL]
theorem take_ok (ms : List Int) (b : Int) (hb : b ≠ 0) : ∃ (r : Int) (ms' : List Int), runL 2 takeB (iL ms) [.int b] = .ok (.sh (.int r)) (iL ms') ∧ (0 < b → 0 ≤ r ∧ r < b) := by
  cases hm : ms.getLast? with
  | none =>
    have : ms = [] := List.getLast?_eq_none_iff.mp hm
    subst this
    exact ⟨0, [], by simp [runL, takeB, iL, eqG_int], fun h => ⟨by omega, h⟩⟩
  | some x =>
    refine ⟨x.fmod b, ms.dropLast, ?_, fun h => ⟨Int.fmod_nonneg_of_pos _ h, Int.fmod_lt_of_pos _ h⟩⟩
    have hne : ms ≠ [] := fun z => by rw [z] at hm; cases hm
    simp [runL, takeB, iL, eqG_int, hne, hm, hb]
/-- a draw within a bound -/
theorem take_ex (ms : List Int) (b : Int) (hb : 0 < b) : ∃ (r : Int) (ms' : List Int), runL 2 takeB (iL ms) [.int b] = .ok (.sh (.int r)) (iL ms') ∧ 0 ≤ r ∧ r < b := by
  obtain ⟨r, ms', h, k⟩ := take_ok ms b (by omega)
  exact ⟨r, ms', h, k hb⟩
theorem says_ok (a b : Bool) : runF 2 saysB [.bool a, .bool b] = .ok (.sh (.bool (a == b))) := by
  simp [runF, saysB, eqG_bool]
/-- data that _law_alike can go through: no table; n levels -/
inductive Deepn : Nat → PyData → Prop
  | int {n : Nat} (i : Int) : Deepn (n + 1) (.int i)
  | bool {n : Nat} (b : Bool) : Deepn (n + 1) (.bool b)
  | str {n : Nat} (x : Str) (h : PyData.strOk x = true) : Deepn (n + 1) (.str x)
  | non {n : Nat} : Deepn (n + 1) .none
  | tup {n : Nat} {ds : List PyData} : ds.length < 2 ^ 24 → (∀ d ∈ ds, Deepn n d) → Deepn (n + 1) (.tuple ds)
  | lst {n : Nat} {ds : List PyData} : ds.length < 2 ^ 24 → (∀ d ∈ ds, Deepn n d) → Deepn (n + 1) (.list ds)
theorem alike_t {ds : List PyData} (Q : Mo Rv) (hq : Q [.sh (.tuple ds), .sh (.tuple ds), .un] = .ok (.fr []) [.sh (.tuple ds), .sh (.tuple ds), .un]) : runF 3 (alikeG Q) [.tuple ds, .tuple ds] = .ok (.sh (.bool true)) := by
  simp [runF, alikeG, neG_bool, hq, eqG_int, eqG_nil0]
theorem alike_l {ds : List PyData} (Q : Mo Rv) (hq : Q [.sh (.list ds), .sh (.list ds), .un] = .ok (.fr []) [.sh (.list ds), .sh (.list ds), .un]) : runF 3 (alikeG Q) [.list ds, .list ds] = .ok (.sh (.bool true)) := by
  simp [runF, alikeG, neG_bool, hq, eqG_int, eqG_nil0]
theorem alike_list {f : List PyData → FnR} {n : Nat} {w : List PyData → PyData} (hw : w = .tuple ∨ w = .list) {ds : List PyData} (hl : ds.length < 2 ^ 24) (h : ∀ d ∈ ds, f [d, d] = .ok (.sh (.bool true))) : runF 3 (alikeB f) [w ds, w ds] = .ok (.sh (.bool true)) := by
  have hq : alikeQ f [.sh (w ds), .sh (w ds), .un] = .ok (.fr []) [.sh (w ds), .sh (w ds), .un] := by
    have := lc_one (v := 2) (Io := range1I (consF (callBF lenG (consF (readF 1) (nilF))) (nilF))) (C := notF (truthF (callF 2 f (consF (binF itemG (readF 0) (readF 2)) (consF (binF itemG (readF 1) (readF 2)) (nilF)))))) (F := readF 2)
      (e := [.sh (w ds), .sh (w ds), .un]) (ds := rangeD 0 ds.length) (fun _ => false) id (by
        have := range1_ok (Fs := consF (callBF lenG (consF (readF 1) (nilF))) (nilF)) (e := [.sh (w ds), .sh (w ds), .un]) (e' := [.sh (w ds), .sh (w ds), .un]) (j := ds.length) (by rcases hw with rfl | rfl <;> simp) (by omega) (by omega)
        rw [this]
        rfl) (by simp) rfl (by rw [rangeD_length]; unfold sizeLine; omega)
      (fun d hd => by
        obtain ⟨k, hk, rfl⟩ := mem_rangeD.mp hd
        have e : atI ds (0 + (k : Int)) = some ds[k] := by
          rw [atI_nat (by omega) (by omega)]
          simp [List.getElem?_eq_getElem hk]
        rcases hw with rfl | rfl <;> simp [e, h ds[k] (List.getElem_mem hk)]
        · simp at e
          simp [e, h ds[k] (List.getElem_mem hk)]
        · simp at e
          simp [e, h ds[k] (List.getElem_mem hk)]) (fun _ _ z => by cases z)
    rw [List.filter_eq_nil_iff.mpr (by simp)] at this
    exact this
  rcases hw with rfl | rfl
  · exact alike_t _ hq
  · exact alike_l _ hq
theorem alike_refl : ∀ (n : Nat) (d : PyData), Deepn n d → alikeF n [d, d] = .ok (.sh (.bool true))
  | _, _, .int i => by simp [alikeF, runF, alikeB, alikeG, eqG_int]
  | _, _, .bool b => by simp [alikeF, runF, alikeB, alikeG, eqG_bool]
  | _, _, .str x h => by simp [alikeF, runF, alikeB, alikeG, eqG, eqOk, PyData.canLay0, PyData.depth, PyData.eqv, h]
  | _, _, .non => by simp [alikeF, runF, alikeB, alikeG]
  | n + 1, _, .tup hl h => alike_list (n := n) (.inl rfl) hl fun d hd => alike_refl n d (h d hd)
  | n + 1, _, .lst hl h => alike_list (n := n) (.inr rfl) hl fun d hd => alike_refl n d (h d hd)
end
end Cf
/-! Cf, part Q: generator expressions that all, any consume. -/
namespace Cf
open PySem PySem.Spec PyProof.Rows L2 GenW

/-! ### the generator's context -/
abbrev genC (X : Cx) (A1 : Around) (s : Shared) (H : Hp) (scope : Scope) (N : List Str) (cenv : Env) (fp : List Addr) (pn : List (Addr × Obj)) : Cx :=
  { X with A := A1.deeper cenv, N := N, s_0 := s, H_0 := H, env := cenv, outer := X.stack, stack := cenv :: X.stack, ex := fp, fn := fun _ => false, calm := true, pn := pn, xe := fun _ _ => False }
structure GenOk (M : List Str) (sc scope : Scope) (N : List Str) (ixs : List Nat) (m : Nat) : Prop where
  kind : scope.kind = .function
  co : scope.isCoroutine = false
  cell : ∀ y ∈ scope.names, y.2 ≠ .cell
  dot : scope.names.lookup (".0" : Str) = some NameKind.local
  uniq : ∀ y ∈ scope.names, scope.names.lookup y.1 = some y.2
  free : ∀ y ∈ scope.names, y.2 = .free → sc.names.lookup y.1 = some .cell ∨ sc.names.lookup y.1 = some .free
  len : N.length = ixs.length + m
  cap : ∀ (j i : Nat), ixs[j]? = some i → ∃ x, M[i]? = some x ∧ N[j]? = some x ∧ scope.names.lookup x = some .free
def genOkB (M : List Str) (sc scope : Scope) (N : List Str) (ixs : List Nat) (m : Nat) : Bool :=
  (match scope.kind with | .function => true | _ => false) && !scope.isCoroutine && (scope.names.all fun y => match y.2 with | .cell => false | _ => true) && decide (scope.names.lookup (".0" : Str) = some NameKind.local) &&
    (scope.names.all fun y => decide (scope.names.lookup y.1 = some y.2)) &&
    (scope.names.all fun y => match y.2 with
      | .free => (match sc.names.lookup y.1 with | some .cell => true | some .free => true | _ => false)
      | _ => true) && decide (N.length = ixs.length + m) &&
    ((List.range ixs.length).all fun j => match ixs[j]? with
      | some i => (match M[i]? with
        | some x => decide (N[j]? = some x) && decide (scope.names.lookup x = some .free)
        | none => false)
      | none => false)
theorem genOk_by {M : List Str} {sc scope : Scope} {N : List Str} {ixs : List Nat} {m : Nat} (h : genOkB M sc scope N ixs m = true) : GenOk M sc scope N ixs m := by
  unfold genOkB at h
  simp only [Bool.and_eq_true, List.all_eq_true, decide_eq_true_eq, Bool.not_eq_true'] at h
  obtain ⟨⟨⟨⟨⟨⟨⟨h1, h2⟩, h3⟩, h4⟩, h5⟩, h6⟩, h7⟩, h8⟩ := h
  refine ⟨?_, h2, fun y hy e => ?_, h4, h5, fun y hy e => ?_, h7, fun j i e => ?_⟩
  · split at h1
    · assumption
    · cases h1
  · have q := h3 y hy
    rw [e] at q
    cases q
  · have q := h6 y hy
    simp only [e] at q
    split at q <;> first | exact .inl (by assumption) | exact .inr (by assumption) | cases q
  · have q := h8 j (List.mem_range.mpr (List.getElem?_eq_some_iff.mp e).1)
    rw [e] at q
    simp only at q
    cases z : M[i]? with
    | none => rw [z] at q; cases q
    | some x =>
      rw [z] at q
      simp only [Bool.and_eq_true, decide_eq_true_eq] at q
      exact ⟨x, rfl, q.1, q.2⟩

/-- what it sees: captured slots (lists stand still meanwhile), then its own names -/
def frz1 : Sl → Sl
  | .own _ ds => .sh (.list ds)
  | s => s
def capE (ixs : List Nat) (m : Nat) (e : Fv) : Fv := ixs.map (fun i => frz1 ((e[i]?).getD .un)) ++ List.replicate m .un
def capS (ixs : List Nat) (m : Nat) (σ : L2.St) : L2.St := ixs.map (fun i => (σ[i]?).join) ++ List.replicate m none
theorem capE_get {ixs : List Nat} {m : Nat} {e : Fv} {j : Nat} {sl : Sl} (h : (capE ixs m e)[j]? = some sl) : sl = .un ∨ ∃ i, ixs[j]? = some i ∧ sl = frz1 ((e[i]?).getD .un) := by
  unfold capE at h
  by_cases hj : j < ixs.length
  · rw [List.getElem?_append_left (by simpa using hj), List.getElem?_map, List.getElem?_eq_getElem hj] at h
    cases h
    exact .inr ⟨_, List.getElem?_eq_getElem hj, rfl⟩
  · rw [List.getElem?_append_right (by simpa using hj), List.getElem?_replicate] at h
    split at h <;> cases h
    exact .inl rfl
theorem capS_at {ixs : List Nat} {m : Nat} {σ : L2.St} {j i : Nat} (h : ixs[j]? = some i) : (capS ixs m σ)[j]? = some ((σ[i]?).join) := by
  unfold capS
  have hj := (List.getElem?_eq_some_iff.mp h).1
  rw [List.getElem?_append_left (by simpa using hj), List.getElem?_map, h]
  rfl
theorem capS_get {ixs : List Nat} {m : Nat} {σ : L2.St} {j : Nat} {v : V} (h : (capS ixs m σ)[j]? = some (some v)) : ∃ i, ixs[j]? = some i ∧ σ[i]? = some (some v) := by
  unfold capS at h
  by_cases hj : j < ixs.length
  · rw [List.getElem?_append_left (by simpa using hj), List.getElem?_map, List.getElem?_eq_getElem hj] at h
    have h' : (σ[ixs[j]]?).join = some v := Option.some.inj h
    refine ⟨_, List.getElem?_eq_getElem hj, ?_⟩
    cases z : σ[ixs[j]]? with
    | none => rw [z] at h'; cases h'
    | some o => rw [z] at h'; cases h'; rfl
  · rw [List.getElem?_append_right (by simpa using hj), List.getElem?_replicate] at h
    split at h <;> cases h

section
variable {X : Cx} {pins : List (Addr × Obj)} {σ : L2.St} {H : Hp} {s : Shared}
theorem gen_start {scope : Scope} {N : List Str} {ixs : List Nat} {m : Nat} {fp : List Addr} {A1 : Around} {code : Value} {a : Addr} {go : Obj} {m0 : Str → Option Value} {h5 : Heap} {g5 : Array GenState} {t5 : Nat}
    (I : Inv X pins σ H s) (ok : GenOk X.N X.env.scope scope N ixs m) (hh : A1.handled = none) (hfr : A1.frames = some X.stack) (hfp : ∀ b ∈ fp, FpOk X pins H b ∧ b < s.heap.objs.size)
    (hn : h5.Ns s.heap.objs.size m0) (kp : ∀ b o, s.heap.get? b = some o → h5.get? b = some o) (ha : h5.get? a = some go) (haC : s.heap.objs.size < a) (hgo : ∀ v, go.data ≠ .cell v) (hg5 : AllBare g5) :
    Inv (genC X A1 s H scope N (genEnv scope (cloFrom X.env.cells scope.names []) s.heap.objs.size code builtinsNs X.env) fp [(a, go)]) [] (capS ixs m σ) H { s with heap := h5, gens := g5, toks := t5 } := by
  have cm : ∀ {y c}, (y, c) ∈ cloFrom X.env.cells scope.names [] → X.env.cells.lookup y = some c ∧ c < s.heap.objs.size := fun {y c} hm => by
    rcases cloFrom_mem hm with hm | ⟨h1, rfl⟩
    · cases hm
    · obtain ⟨c, hc⟩ : ∃ c, X.env.cells.lookup y = some c := by
        rcases ok.free _ h1 rfl with k | k
        · exact I.ok.has _ (.inl k)
        · exact I.ok.has _ (.inr k)
      rw [hc]
      obtain ⟨w, z⟩ := I.cell _ _ hc
      exact ⟨rfl, z.lt⟩
  have mem : ∀ {y c}, (cloFrom X.env.cells scope.names []).lookup y = some c → X.env.cells.lookup y = some c ∧ c < s.heap.objs.size := fun {y c} e => cm (PySem.mem_of_lookup e)
  have look : ∀ {y}, scope.names.lookup y = some .free → ∃ c, (cloFrom X.env.cells scope.names []).lookup y = some c ∧ X.env.cells.lookup y = some c := fun {y} hl => by
    obtain ⟨c', e'⟩ := mem_lookup (cloFrom_has (cells := X.env.cells) (acc := []) (PySem.mem_of_lookup hl))
    exact ⟨c', e', (mem e').1⟩
  refine ⟨⟨I.ok.mod, ok.kind, I.ok.glob, rfl, Nat.le_refl _, fun y z c e1 e2 => I.ok.inj y z c (mem e1).1 (mem e2).1, fun y hy => ?_, fun y c z _ => (by cases z), fun _ => hh, Around.frames_deeper hfr, .inr ⟨rfl, rfl⟩,
    fun b hb => ⟨Nat.ne_of_lt (hfp b hb).2, fun y c e z => (hfp b hb).1.2.2.2.2.1 y c (mem e).1 z⟩, I.bs, Nat.le_trans I.ok.bsz I.sz, fun b o e hb => ?_, fun b hb z => ?_, I.stack, I.stkFree⟩,
    rfl, hg5, Un.kept kp, ⟨m0, hn, fun i y av e1 e2 e3 => ?_⟩, fun y c e => ?_, I.hok.fresh (Nat.le_refl _), fun y c e => I.freeC y c (mem e).1, fun p hp => ?_, I.hok.kept kp, ?_⟩
  · have hy' : scope.names.lookup y = some .cell ∨ scope.names.lookup y = some .free := hy
    rcases hy' with hy' | hy'
    · exact absurd rfl (ok.cell _ (PySem.mem_of_lookup hy'))
    · obtain ⟨c, h1, _⟩ := look hy'
      exact ⟨c, h1⟩
  · rcases (hfp b hb).1.2.2.2.1 with z | z
    · exact I.ok.noex b o e z
    · exact absurd (Nat.lt_of_lt_of_le (Heap.lt_size e) (Nat.le_trans I.ok.bsz z)) (Nat.lt_irrefl _)
  · rcases List.mem_cons.mp (I.stkSub b z) with z | z
    · exact (hfp b hb).1.2.1 z
    · exact (hfp b hb).1.2.2.1 z
  · obtain ⟨k, h1, h2⟩ := capS_get e2
    obtain ⟨x, k1, k2, k3⟩ := ok.cap _ _ h1
    have e1' : N[i]? = some y := e1
    rw [k2] at e1'
    cases e1'
    obtain ⟨m1, _, hl⟩ := I.loc
    have hfree := ok.free _ (PySem.mem_of_lookup k3) rfl
    obtain ⟨w, r, q⟩ := hl k y av k1 h2 (hfree.elim (fun z => .inr (.inl z)) fun z => .inr (.inr z))
    refine ⟨w, r, .inr ⟨.inr k3, ?_⟩⟩
    obtain ⟨c, c1, c2⟩ := look k3
    rcases q with ⟨z, _⟩ | ⟨_, c', e', z⟩
    · have z' : X.env.scope.names.lookup y = some .local := z
      rcases hfree with k' | k' <;> rw [show X.env.scope.names.lookup y = _ from k'] at z' <;> cases z'
    · rw [c2] at e'
      cases e'
      exact ⟨c, c1, z.keeps kp⟩
  · obtain ⟨w, z⟩ := I.cell y c (mem e).1
    exact ⟨w, z.keeps kp⟩
  · have e : p = (a, go) := by simpa using hp
    subst e
    exact ⟨ha, I.hok.fresh (Nat.le_of_lt haC), Nat.ne_of_gt haC, fun z => by
      have hz : s.heap.objs.size ≤ a := Nat.le_of_lt haC
      rcases List.mem_cons.mp (I.stkSub a z) with y | y
      · exact absurd (Nat.lt_of_lt_of_le I.lt hz) (by rw [y]; exact Nat.lt_irrefl _)
      · exact I.nofs hz y, hgo⟩
  · show (capS ixs m σ).length = N.length
    unfold capS
    rw [ok.len]
    simp
end

/-! ### the functions -/
def quantL (stop : Bool) (T : PyData → Mo Unit) (C B : Mo Bool) : List PyData → Mo Bool
  | [] => pure (!stop)
  | d :: ds => thenU (T d) do
    let c ← C
    if c = true then do
      let b ← B
      if b = stop then pure stop else quantL stop T C B ds
    else quantL stop T C B ds
def inGen {α : Type} (ixs : List Nat) (m : Nat) (M : Mo α) : Mo α := fun e => match M (capE ixs m e) with
  | .ok a _ => .ok a e
  | _ => .stuck
def quantF (stop : Bool) (ixs : List Nat) (m : Nat) (I : Mo (List PyData)) (T : PyData → Mo Unit) (C B : Mo Bool) : Mo Bool := do
  let ds ← I
  inGen ixs m (quantL stop T C B ds)
theorem wpM_inGen {α : Type} {ixs : List Nat} {m : Nat} {M : Mo α} {env : Fv} {Q : α → Fv → Prop} {E : Nat → Fv → Prop} (w : wpM (inGen ixs m M) env Q E) : wpM M (capE ixs m env) (fun a _ => Q a env) (fun _ _ => False) := by
  unfold wpM inGen at w
  unfold wpM
  cases q : M (capE ixs m env) with
  | ok a e => simp only [q] at w; exact w
  | exc c e => simp only [q] at w
  | stuck => simp only [q] at w

section
variable {K : PySem.W.Frag} {fr : Fr} {env : Fv} {σ : L2.St} {H G : Hp}
/-- a table has grown -/
theorem SR.grow (h : SR K fr env σ H G) {P : Addr} {ps qs : Array Value} (hP : P ∈ fr.tabs) (ht : TriplesOk qs.toList) : SR K fr env σ (upd H P (.tbl qs)) G := by
  obtain ⟨⟨ps, e, _⟩, g⟩ := h.tab P hP
  have ne : ∀ b xs, H b = some (.lst xs) → b ≠ P := fun b xs z y => by rw [y, e] at z; cases z
  refine ⟨fun b o z => ?_, fun b o z => ?_, h.dj, fun P' hP' => ?_, h.pt, fun a ha => ?_, h.len, fun i sl z => ?_, h.dist⟩
  · rw [upd_ne (ne_of_none z g)]; exact h.sub b o z
  · rw [upd_ne (ne_of_none z (h.pt P hP))]; exact h.prot b o z
  · by_cases hb : P' = P
    · subst hb; exact ⟨⟨qs, upd_same, ht⟩, g⟩
    · obtain ⟨⟨ps', e', t'⟩, g'⟩ := h.tab P' hP'
      exact ⟨⟨ps', by rw [upd_ne hb]; exact e', t'⟩, g'⟩
  · by_cases hb : a = P
    · rw [hb, upd_same]; simp
    · rw [upd_ne hb]; exact h.lent a ha
  · have q := h.slots i sl z
    cases sl with
    | un => trivial
    | sh d => exact q
    | own t ds =>
      obtain ⟨a, xs, e1, e2, r⟩ := q
      exact ⟨a, xs, e1, by rw [upd_ne (ne a xs e2)]; exact e2, r⟩
/-- the relation as the generator begins -/
theorem SR.cap (h : SR K fr env σ H G) (ixs : List Nat) (m : Nat) : SR K ⟨privOf fr.tabs (fun _ => False) H (lay G H (ownA env σ)), [], fr.tabs, fun _ _ => False⟩ (capE ixs m env) (capS ixs m σ) H (lay G H (ownA env σ)) := by
  refine ⟨h.laySub, fun b o e => (privOf_some (tabs := fr.tabs) (ex := fun _ => False) e).1, fun b e => ?_, h.tabLay, fun P hP => by show privOf fr.tabs (fun _ => False) H _ P = none; unfold privOf; rw [if_neg (fun z => z.2.1 hP)], fun a ha => absurd ha (by simp), ?_, fun j sl e => ?_, fun i j t t' es es' a _ ei => ?_⟩
  · cases z : privOf fr.tabs (fun _ => False) H (lay G H (ownA env σ)) b with
    | none => exact absurd z e
    | some o => exact (privOf_some (ex := fun _ => False) z).2
  · unfold capE capS
    simp
  · rcases capE_get e with rfl | ⟨i, hi, rfl⟩
    · trivial
    · rw [capS_at hi]
      cases z : env[i]? with
      | none => trivial
      | some sl =>
        have q := h.slots i sl z
        cases sl with
        | un => trivial
        | sh d =>
          obtain ⟨x, e1, e2⟩ := q
          exact ⟨x, e1, Sub.dq h.subLay _ _ e2⟩
        | own t ds =>
          obtain ⟨b, xs, e1, e2, e3, _⟩ := h.ownAt z
          refine ⟨.ref b, by rw [e1]; rfl, .lst ?_ (Sub.dqAll h.subLay _ _ e3)⟩
          unfold lay
          rw [if_pos (ownA_iff.mpr ⟨i, t, ds, z, e1⟩)]
          exact e2
  · rcases capE_get ei with z | ⟨k, _, z⟩
    · cases z
    · exfalso
      cases y : (env[k]?).getD .un <;> rw [y] at z <;> cases z
end
end Cf
/-! Cf, part R: a generator expression's run. -/
namespace Cf
open PySem PySem.Spec PyProof.Rows L2 GenW

theorem over_comp {A : Around} {elt : Expr} {gs : List Comprehension} {scope : Scope} {pos : Pos} {it acc : Value} {env : Env} : A.over (.compLoop (.GeneratorExp elt gs scope pos) 0 it acc env) [] = A.deeper env := by
  first
    | rfl
    | (obtain ⟨hd, d, fr, gs, u⟩ := A; simp [Around.over, Around.deeper, marksOver, frameCount, unitsOf, envsOf, guardsOf, pushEnvs, pushGuards, Code.envs, Code.env?, Code.isFrame, Code.guards, Code.isGuard, Code.weight, Code.frames, Code.isCreation, Code.isCaller, Code.cUnits])
theorem over_comp0 {A : Around} {elt : Expr} {gs : List Comprehension} {scope : Scope} {pos : Pos} {it acc : Value} {env : Env} : A.over (.compStart (.GeneratorExp elt gs scope pos) 0 it acc env) [] = A.deeper env := by
  first
    | rfl
    | (obtain ⟨hd, d, fr, gs, u⟩ := A; simp [Around.over, Around.deeper, marksOver, frameCount, unitsOf, envsOf, guardsOf, pushEnvs, pushGuards, Code.envs, Code.env?, Code.isFrame, Code.guards, Code.isGuard, Code.weight, Code.frames, Code.isCreation, Code.isCaller, Code.cUnits])

/-- the run has come to b -/
def GFin (X' : Cx) (fr' : Fr) (G0 : Hp) (Qb : Bool → Prop) (b : Bool) (s : Shared) : Prop := Qb b ∧ ∃ σ H G env, Inv X' [] σ H s ∧ SR X'.K fr' env σ H G ∧ Sub G0 G
def GRest (stop : Bool) (X' : Cx) (fr' : Fr) (G0 : Hp) (Qb : Bool → Prop) : GenEnd := fun _ _ r s => r = .ok .next ∧ GFin X' fr' G0 Qb (!stop) s
structure Slp (s s' : Shared) : Prop where
  os : s'.os = s.os
  bare : AllBare s'.gens
  heap : s'.heap = s.heap
def GItem (stop : Bool) (X' : Cx) (fr' : Fr) (G0 : Hp) (Qb : Bool → Prop) (a : Addr) (g : Nat) : Protocol := fun _ _ v s kap =>
  s.heap.NoLimit ∧ s.heap.IsGen a g ∧ AllBare s.gens ∧ ∃ b, v = .bool b ∧ (b = stop → GFin X' fr' G0 Qb stop s) ∧ (b ≠ stop → ∀ s', Slp s s' → kap (.send .none) s')
theorem Inv.slp {X : Cx} {pins : List (Addr × Obj)} {σ : L2.St} {H : Hp} {s s' : Shared} (I : Inv X pins σ H s) (z : Slp s s') : Inv X pins σ H s' := by
  obtain ⟨z1, z2, z3⟩ := z
  refine I.call' (ch := []) z1 (Un.kept fun b o e => by rw [z3]; exact e) (I.hok.kept fun b o e => by rw [z3]; exact e) z2 fun b z => by simp at z

section
variable {X : Cx} {A1 : Around} {s4 : Shared} {H4 : Hp} {scope : Scope} {N : List Str} {cenv : Env} {fp : List Addr} {a : Addr} {go : Obj} {tg elt iter : Expr} {ifs : List Expr} {pos : Pos} {it : Addr} {J : It} {tn : Nat → Heap → Prop} {ws : List Nat}
  {T : PyData → Mo Unit} {C B : Mo Bool} {p' : Hp} {tabs : List Addr} {G0 : Hp} {ds : List PyData} {Qb : Bool → Prop} {stop : Bool} {g : Nat}
theorem seg_quant (hco : cenv.scope.isCoroutine = false) (hgen : ∀ h : Heap, h.get? a = some go → h.IsGen a g) (TT : Turn X.prog X.w X.K tg J fp it tn) (io : ItOk X.K J G0 ds)
    (hg : PGv (genC X A1 s4 H4 scope N cenv fp [(a, go)]) ⟨p', [], tabs, fun _ _ => False⟩ tg ws T) (hc : PTsv (genC X A1 s4 H4 scope N cenv fp [(a, go)]) ⟨p', [], tabs, fun _ _ => False⟩ ifs C)
    (hb : PBv (genC X A1 s4 H4 scope N cenv fp [(a, go)]) ⟨p', [], tabs, fun _ _ => False⟩ elt B) :
    ∀ (k i n : Nat) (s₀ s : Shared) (env : Fv) (σ : L2.St) (H G : Hp), ds.length - i = k → k ≤ n → i ≤ ds.length → Inv (genC X A1 s4 H4 scope N cenv fp [(a, go)]) [] σ H s → tn i s.heap → (∀ b ∈ fp, FpOk (genC X A1 s4 H4 scope N cenv fp [(a, go)]) [] H b) →
      SR X.K ⟨p', [], tabs, fun _ _ => False⟩ env σ H G → Sub G0 G → wpM (quantL stop T C B (ds.drop i)) env (fun b _ => Qb b) (fun _ _ => False) →
      Seg (model X.prog X.w) A1 (GRest stop (genC X A1 s4 H4 scope N cenv fp [(a, go)]) ⟨p', [], tabs, fun _ _ => False⟩ G0 Qb) (GItem stop (genC X A1 s4 H4 scope N cenv fp [(a, go)]) ⟨p', [], tabs, fun _ _ => False⟩ G0 Qb a g) n s₀
        (.compLoop (.GeneratorExp elt [⟨tg, iter, ifs, 0⟩] scope pos) 0 (.ref it) .none cenv) ((model X.prog X.w).den (.compLoop (.GeneratorExp elt [⟨tg, iter, ifs, 0⟩] scope pos) 0 (.ref it) .none cenv)) [] s := by
  intro k
  induction k with
  | zero =>
    intro i n s₀ s env σ H G hk hn hi I st hf h sG w
    have hin : i = ds.length := by omega
    subst hin
    rw [List.drop_length] at w
    show Seg _ A1 _ _ _ s₀ _ ((compTurn (.GeneratorExp elt [⟨tg, iter, ifs, 0⟩] scope pos) 0 (.ref it) .none cenv).onRaise (leaving cenv)) [] s
    rw [compTurn_gen, Sem.onRaise_eq_wrap]
    refine seg_bind_wrap (wpAny_standAt ?_)
    refine seg_bind_wrap ?_
    rw [over_comp]
    refine wpAny_mono (TT.done (genC X A1 s4 H4 scope N cenv fp [(a, go)]) rfl rfl rfl rfl _ [] s σ H (fun _ _ => False) I hf st (io.stop H G sG h.sub)) (fun r s5 ⟨hr, I5⟩ => ?_) fun _ _ e => e.elim
    subst hr
    exact seg_end (.ok .next) ⟨rfl, w, σ, H, G, env, I5, h, sG⟩
  | succ k ih =>
    intro i n s₀ s env σ H G hk hn hi I st hf h sG w
    have hlt : i < ds.length := by omega
    have stat : ∀ {H' : Hp}, (∀ b ∈ fp, H' b = none) → ∀ b ∈ fp, FpOk (genC X A1 s4 H4 scope N cenv fp [(a, go)]) [] H' b := fun hn b hb => ⟨hn b hb, (hf b hb).2⟩
    rw [List.drop_eq_getElem_cons hlt] at w
    unfold quantL at w
    have w1 := wpM_T w
    show Seg _ A1 _ _ _ s₀ _ ((compTurn (.GeneratorExp elt [⟨tg, iter, ifs, 0⟩] scope pos) 0 (.ref it) .none cenv).onRaise (leaving cenv)) [] s
    rw [compTurn_gen, Sem.onRaise_eq_wrap]
    refine seg_bind_wrap (wpAny_standAt ?_)
    refine seg_bind_wrap ?_
    rw [over_comp]
    refine wpAny_mono (TT.item (genC X A1 s4 H4 scope N cenv fp [(a, go)]) rfl rfl rfl rfl i [] s σ H (fun _ _ => False) I hf st (io.go i H G sG h.sub hlt)) (fun r s4' ⟨u, hr, h4⟩ => ?_) fun _ _ e => e.elim
    subst hr
    refine seg_bind_wrap ?_
    rw [over_comp]
    refine wpAny_mono h4 (fun _ s5 ⟨x, H5, I5, r5, y5, st5, fr5⟩ => ?_) fun _ _ e => e.elim
    have I5' := I5.pinned (stat fr5) (TT.obj _ _ st5)
    obtain ⟨G5, d, e5, stp, q5⟩ := io.yld i H G x H5 sG h.sub hlt y5
    rw [List.getElem?_eq_getElem hlt] at e5
    cases e5
    refine seg_bind_wrap ?_
    rw [over_comp]
    refine wpAny_mono (hg.run _ s5 σ H5 x u (fun σ6 H6 => ∃ env6 G6, SR X.K ⟨p', [], tabs, fun _ _ => False⟩ env6 σ6 H6 G6 ∧ Sub G0 G6 ∧ wpM (C >>= fun c => if c = true then (B >>= fun b => if b = stop then pure stop else quantL stop T C B (ds.drop (i + 1))) else quantL stop T C B (ds.drop (i + 1))) env6 (fun b _ => Qb b) (fun _ _ => False)) I5' r5
      ⟨env, G5, _, h.stp stp, q5, wpM_mono w1 (fun _ env6 w6 σ6 G6 _ h6 s6 => ⟨env6, G6, h6, (sG.trans stp.mono).trans s6, w6⟩) fun _ _ z => z⟩) (fun _ s6 ⟨σ6, H6, I6, env6, G6, h6, sG6, w6⟩ => ?_) fun _ _ e => e.elim
    have keep : ∀ {σ7 : L2.St} {H7 : Hp} {s7 : Shared}, Inv (genC X A1 s4 H4 scope N cenv fp [(a, go)]) ([] ++ pinsAt fp s5.heap) σ7 H7 s7 → tn (i + 1) s7.heap ∧ ∀ b ∈ fp, FpOk (genC X A1 s4 H4 scope N cenv fp [(a, go)]) [] H7 b := fun {σ7 H7 s7} I7 =>
      ⟨TT.keep _ _ _ st5 fun b hb o e => (I7.pin (b, o) (List.mem_append_right _ (List.mem_append_right _ (mem_pinsAt hb e)))).1, stat fun b hb => by
        obtain ⟨o, e, d⟩ := TT.obj _ _ st5 b hb
        exact (I7.pin (b, o) (List.mem_append_right _ (List.mem_append_right _ (mem_pinsAt hb e)))).2.1⟩
    refine seg_bind_wrap ?_
    rw [over_comp]
    refine wpAny_mono (hc.run _ s6 σ6 H6 (fun c H7 => ∃ env7 G7, SR X.K ⟨p', [], tabs, fun _ _ => False⟩ env7 σ6 H7 G7 ∧ Sub G0 G7 ∧ wpM (if c = true then (B >>= fun b => if b = stop then pure stop else quantL stop T C B (ds.drop (i + 1))) else quantL stop T C B (ds.drop (i + 1))) env7 (fun b _ => Qb b) (fun _ _ => False)) I6
      ⟨env6, G6, h6, wpM_mono (wpM_bind.mp w6) (fun c env7 w7 H7 G7 h7 s7 => ⟨env7, G7, h7, sG6.trans s7, w7⟩) fun _ _ z => z.elim⟩) (fun ok s7 ⟨H7, I7, env7, G7, h7, sG7, w7⟩ => ?_) fun _ _ e => e.elim
    cases ok with
    | false =>
      simp only [Bool.false_eq_true, if_false] at w7 ⊢
      obtain ⟨k1, k2⟩ := keep I7
      exact seg_again rfl (ih (i + 1) n s₀ s7 env7 σ6 H7 G7 (by omega) (by omega) hlt I7.unpinned k1 k2 h7 sG7 w7)
    | true =>
      simp only [if_true] at w7 ⊢
      obtain ⟨n, rfl⟩ : ∃ m, n = m + 1 := ⟨n - 1, by omega⟩
      have hy : ∀ v, yieldOut cenv v = yieldValue v := fun v => by simp only [yieldOut, hco, Bool.false_eq_true, if_false]
      simp only [hy]
      rw [Sem.bind_eq_wrap', Sem.bind_eq_wrap', Sem.wrap_wrap, Sem.wrap_wrap]
      refine seg_wrap ?_
      rw [over_comp]
      refine wpAny_mono (PE.run hb _ s7 σ6 H7 (fun v H8 => ∃ b env8 G8, v = .bl b ∧ SR X.K ⟨p', [], tabs, fun _ _ => False⟩ env8 σ6 H8 G8 ∧ Sub G0 G8 ∧ wpM (if b = stop then pure stop else quantL stop T C B (ds.drop (i + 1))) env8 (fun b _ => Qb b) (fun _ _ => False)) I7
        (tE_bool h7 w7 (fun b env8 H8 G8 h8 s8 w8 => ⟨b, env8, G8, rfl, h8, sG7.trans s8, w8⟩) fun c e1 E1 H1 G1 h1 s1 => E1.elim)) (fun y s8 ⟨v, H8, I8, rv, b, env8, G8, ev, h8, sG8, w8⟩ => ?_) fun _ _ e => e.elim
      subst ev
      have ey : y = Value.bool b := rv
      subst ey
      obtain ⟨k1, k2⟩ := keep I8
      have hgen8 := hgen _ (I8.pin (a, go) (List.mem_append_left _ (List.mem_singleton.mpr rfl))).1
      refine seg_at (seg_yield rfl rfl rfl ⟨I8.nolimit, hgen8, I8.bare, b, rfl, fun e => ?_, fun e s' z => ?_⟩)
      · rw [if_pos e] at w8
        exact ⟨w8, σ6, H8, G8, env8, I8.unpinned, h8, sG8⟩
      · rw [if_neg e] at w8
        refine seg_again rfl (ih (i + 1) n s' s' env8 σ6 H8 G8 (by omega) (by omega) hlt (Inv.slp I8.unpinned z) (by rw [z.heap]; exact k1) k2 h8 sG8 w8)
end

theorem seg_start {X : Cx} {A1 : Around} {cenv : Env} {R : GenEnd} {Y : Protocol} {n : Nat} {s₀ s : Shared} {elt tg iter : Expr} {ifs : List Expr} {scope : Scope} {pos : Pos} {it : Addr} (hself : ∀ (A : Around) (Q : Value → Shared → Prop) (E : Value → Shared → Prop), Q (.ref it) s → wpAny (model X.prog X.w) A (pyIter (.ref it)) Q E s)
    (loop : Seg (model X.prog X.w) A1 R Y n s₀ (.compLoop (.GeneratorExp elt [⟨tg, iter, ifs, 0⟩] scope pos) 0 (.ref it) .none cenv) ((model X.prog X.w).den (.compLoop (.GeneratorExp elt [⟨tg, iter, ifs, 0⟩] scope pos) 0 (.ref it) .none cenv)) [] s) :
    Seg (model X.prog X.w) A1 R Y n s₀ (.compStart (.GeneratorExp elt [⟨tg, iter, ifs, 0⟩] scope pos) 0 (.ref it) .none cenv) ((model X.prog X.w).den (.compStart (.GeneratorExp elt [⟨tg, iter, ifs, 0⟩] scope pos) 0 (.ref it) .none cenv)) [] s := by
  show Seg _ A1 _ _ _ s₀ _ ((compStart (.GeneratorExp elt [⟨tg, iter, ifs, 0⟩] scope pos) 0 (.ref it) .none cenv).onRaise (leaving cenv)) [] s
  unfold compStart
  rw [Sem.onRaise_eq_wrap]
  show Seg _ A1 _ _ _ s₀ _ ((ask >>= _).wrap _ _ _ _) [] s
  refine seg_bind_wrap (wpAny_askSetting ?_)
  split
  · exact seg_again rfl loop
  · first
      | exact seg_bind_wrap (wpAny_rule (seg_bind_wrap (wpAny_standAt (seg_bind_wrap (hself _ _ _ (seg_again rfl loop))))))
      | (refine seg_bind_wrap (wpAny_rule ?_); show Seg _ A1 _ _ _ s₀ _ ((standAt iter.pos >>= _).wrap _ _ _ _) [] s; exact seg_bind_wrap (wpAny_standAt (seg_bind_wrap (hself _ _ _ (seg_again rfl loop)))))

theorem GFin.ext {X' : Cx} {fr' : Fr} {G0 : Hp} {Qb : Bool → Prop} {b : Bool} {s s' : Shared} (h : GFin X' fr' G0 Qb b s) (ho : s'.os = s.os) (hg : AllBare s'.gens) (hk : ∀ b o, s.heap.get? b = some o → s'.heap.get? b = some o) : GFin X' fr' G0 Qb b s' := by
  obtain ⟨q, σ, H, G, env, I, r⟩ := h
  exact ⟨q, σ, H, G, env, I.call' (ch := []) ho (Un.kept hk) (I.hok.kept hk) hg fun b z => by simp at z, r⟩
theorem GFin.bare {X' : Cx} {fr' : Fr} {G0 : Hp} {Qb : Bool → Prop} {b : Bool} {s : Shared} (h : GFin X' fr' G0 Qb b s) : AllBare s.gens := by
  obtain ⟨_, _, _, _, _, I, _⟩ := h
  exact I.bare

section
variable {P : Program} {w : World} {A : Around} {X' : Cx} {fr' : Fr} {G0 : Hp} {Qb : Bool → Prop} {a : Addr} {g : Nat} {R' : Result → Shared → Prop}
theorem all_loop (hh : A.handled = none) (hroom : A.depth < recursionLimit) (hR : ∀ b s', GFin X' fr' G0 Qb b s' → R' (.ok (.ret (.bool b))) s') :
    ∀ (n : Nat) (s : Shared), s.heap.NoLimit → s.heap.IsGen a g → (∃ gs, s.gens[g]? = some gs ∧ gs.Goes (model P w) A.in1.in1 (GRest false X' fr' G0 Qb) (GItem false X' fr' G0 Qb a g) n (.send .none) (s.setGen g .running)) →
      codeAny (model P w) A (.builtin "all.loop" ⟨[.ref a], []⟩) R' s := by
  intro n
  induction n with
  | zero =>
    intro s hl hg ⟨gs, hgs, hgo⟩
    refine codeAny_builtin F.entry_all_loop ?_
    rw [Around.under_plainId F.plain_all_loop _]
    show wpAny _ A.in1 (pyNext (.ref a) >>= _) _ _ s
    refine wpAny_bind (wpAny_pyNext_genexpQ (A := A.in1) (P := fun _ _ s1 => GFin X' fr' G0 Qb (!false) s1) hh hl hroom hg hgs hgo (fun v s₁ gs' hb hv => ?_) (fun s₁ hp h' hk => ?_))
    · obtain ⟨hl1, hg1, hb1, b, rfl, hs, hn⟩ := hv
      refine wpAny_bind (wpAny_holding (wpAny_truthy_bool ?_))
      refine wpAny_bind (wpAny_letGo ?_)
      cases b with
      | true => exact (hn (by simp) _ ⟨rfl, hb1, rfl⟩).elim
      | false =>
        simp only [Bool.false_eq_true, if_false]
        refine wpAny_bind (wpAny_rule (wpAny_pure ?_))
        exact hR false _ ((hs rfl).ext rfl (allBare_setGen hb1 hb) fun _ _ e => e)
    · refine wpAny_bind (wpAny_rule (wpAny_pure ?_))
      exact hR true _ (hp.ext rfl (allBare_setGen hp.bare rfl) hk)
  | succ n ih =>
    intro s hl hg ⟨gs, hgs, hgo⟩
    have hgl : g < s.gens.size := (Array.getElem?_eq_some_iff.mp hgs).1
    refine codeAny_builtin F.entry_all_loop ?_
    rw [Around.under_plainId F.plain_all_loop _]
    show wpAny _ A.in1 (pyNext (.ref a) >>= _) _ _ s
    refine wpAny_bind (wpAny_gsz (n := g + 1) hgl (wpAny_pyNext_genexpQ (A := A.in1) (P := fun _ _ s1 => GFin X' fr' G0 Qb (!false) s1) hh hl hroom hg hgs hgo (fun v s₁ gs' hb hv => ?_) (fun s₁ hp h' hk => ?_)))
    · intro hsz
      obtain ⟨hl1, hg1, hb1, b, rfl, hs, hn⟩ := hv
      refine wpAny_bind (wpAny_holding (wpAny_truthy_bool ?_))
      refine wpAny_bind (wpAny_letGo ?_)
      have hsz1 : g < s₁.gens.size := by
        have q : (s₁.setGen g gs').gens.size = s₁.gens.size := setGen_size _ _ _
        have hsz' : g + 1 ≤ (s₁.setGen g gs').gens.size := hsz
        omega
      cases b with
      | true =>
        simp only [if_true]
        refine wpAny_pure ⟨plainId_quiet F.plain_all_loop _, ih _ hl1 hg1 ⟨gs', setGen_at hsz1, ?_⟩⟩
        exact hn (by simp) _ ⟨rfl, allBare_setGen (s := s₁.setGen g gs') (allBare_setGen hb1 hb) rfl, rfl⟩
      | false =>
        simp only [Bool.false_eq_true, if_false]
        refine wpAny_bind (wpAny_rule (wpAny_pure ?_))
        exact hR false _ ((hs rfl).ext rfl (allBare_setGen hb1 hb) fun _ _ e => e)
    · intro _
      refine wpAny_bind (wpAny_rule (wpAny_pure ?_))
      exact hR true _ (hp.ext rfl (allBare_setGen hp.bare rfl) hk)
theorem any_loop (hh : A.handled = none) (hroom : A.depth < recursionLimit) (hR : ∀ b s', GFin X' fr' G0 Qb b s' → R' (.ok (.ret (.bool b))) s') :
    ∀ (n : Nat) (s : Shared), s.heap.NoLimit → s.heap.IsGen a g → (∃ gs, s.gens[g]? = some gs ∧ gs.Goes (model P w) A.in1.in1 (GRest true X' fr' G0 Qb) (GItem true X' fr' G0 Qb a g) n (.send .none) (s.setGen g .running)) →
      codeAny (model P w) A (.builtin "any.loop" ⟨[.ref a], []⟩) R' s := by
  intro n
  induction n with
  | zero =>
    intro s hl hg ⟨gs, hgs, hgo⟩
    refine codeAny_builtin F.entry_any_loop ?_
    rw [Around.under_plainId F.plain_any_loop _]
    show wpAny _ A.in1 (pyNext (.ref a) >>= _) _ _ s
    refine wpAny_bind (wpAny_pyNext_genexpQ (A := A.in1) (P := fun _ _ s1 => GFin X' fr' G0 Qb (!true) s1) hh hl hroom hg hgs hgo (fun v s₁ gs' hb hv => ?_) (fun s₁ hp h' hk => ?_))
    · obtain ⟨hl1, hg1, hb1, b, rfl, hs, hn⟩ := hv
      refine wpAny_bind (wpAny_holding (wpAny_truthy_bool ?_))
      refine wpAny_bind (wpAny_letGo ?_)
      cases b with
      | false => exact (hn (by simp) _ ⟨rfl, hb1, rfl⟩).elim
      | true =>
        simp only [if_true]
        refine wpAny_bind (wpAny_rule (wpAny_pure ?_))
        exact hR true _ ((hs rfl).ext rfl (allBare_setGen hb1 hb) fun _ _ e => e)
    · refine wpAny_bind (wpAny_rule (wpAny_pure ?_))
      exact hR false _ (hp.ext rfl (allBare_setGen hp.bare rfl) hk)
  | succ n ih =>
    intro s hl hg ⟨gs, hgs, hgo⟩
    have hgl : g < s.gens.size := (Array.getElem?_eq_some_iff.mp hgs).1
    refine codeAny_builtin F.entry_any_loop ?_
    rw [Around.under_plainId F.plain_any_loop _]
    show wpAny _ A.in1 (pyNext (.ref a) >>= _) _ _ s
    refine wpAny_bind (wpAny_gsz (n := g + 1) hgl (wpAny_pyNext_genexpQ (A := A.in1) (P := fun _ _ s1 => GFin X' fr' G0 Qb (!true) s1) hh hl hroom hg hgs hgo (fun v s₁ gs' hb hv => ?_) (fun s₁ hp h' hk => ?_)))
    · intro hsz
      obtain ⟨hl1, hg1, hb1, b, rfl, hs, hn⟩ := hv
      refine wpAny_bind (wpAny_holding (wpAny_truthy_bool ?_))
      refine wpAny_bind (wpAny_letGo ?_)
      have hsz1 : g < s₁.gens.size := by
        have q : (s₁.setGen g gs').gens.size = s₁.gens.size := setGen_size _ _ _
        have hsz' : g + 1 ≤ (s₁.setGen g gs').gens.size := hsz
        omega
      cases b with
      | false =>
        simp only [Bool.false_eq_true, if_false]
        refine wpAny_pure ⟨plainId_quiet F.plain_any_loop _, ih _ hl1 hg1 ⟨gs', setGen_at hsz1, ?_⟩⟩
        exact hn (by simp) _ ⟨rfl, allBare_setGen (s := s₁.setGen g gs') (allBare_setGen hb1 hb) rfl, rfl⟩
      | true =>
        simp only [if_true]
        refine wpAny_bind (wpAny_rule (wpAny_pure ?_))
        exact hR true _ ((hs rfl).ext rfl (allBare_setGen hb1 hb) fun _ _ e => e)
    · intro _
      refine wpAny_bind (wpAny_rule (wpAny_pure ?_))
      exact hR false _ (hp.ext rfl (allBare_setGen hp.bare rfl) hk)
end
end Cf
/-! Cf, part S: all(..), any(..). -/
namespace Cf
open PySem PySem.Spec PyProof.Rows L2 GenW GxR

/-- what a generator expression walks: a list of ours may be walked, too -/
def tIq (K : PySem.W.Frag) (fr : Fr) (I : Mo (List PyData)) : TI := fun σ H R => ∃ env G, SR K fr env σ H G ∧
  wpM I env (fun ds env' => ∀ H' G' J, SR K fr env' σ H' G' → Sub G G' → ItOk K J (lay G' H' (ownA env' σ)) ds → R J H') (fun c env' => ∀ H' G', SR K fr env' σ H' G' → Sub G G' → fr.W c H')
def PIq (X : Cx) (fr : Fr) (tg iter : Expr) (I : Mo (List PyData)) : Prop := PI X tg iter (tIq X.K fr I)
theorem ItOk.sub {K : PySem.W.Frag} {J : It} {G0 G1 : Hp} {ds : List PyData} (h : ItOk K J G0 ds) (s : Sub G0 G1) : ItOk K J G1 ds :=
  ⟨fun i H G a b c => h.go i H G (s.trans a) b c, fun H G a b => h.stop H G (s.trans a) b, fun i H G x H' a b c d => h.yld i H G x H' (s.trans a) b c d⟩
/-- read, not frozen -/
def pkI (F : Mo Rv) : Mo (List PyData) := do
  let r ← F
  let d ← peek (hold r)
  liftO (itemsG d)
section
variable {X : Cx} {fr : Fr} {tg : Expr}
theorem PIv.q {iter : Expr} {I : Mo (List PyData)} (h : PIv X fr tg iter I) : PIq X fr tg iter I :=
  weakI h fun σ H R ⟨env, G, h, w⟩ => ⟨env, G, h, wpM_mono w (fun ds env' q H' G' J h' s io => q H' G' J h' s (io.sub h'.subLay)) fun _ _ q => q⟩
theorem eq_seq {l : Expr} {F : Mo Rv} (hl : PEv X fr l F) : PIq X fr tg l (pkI F) := by
  refine ⟨fun pins s σ H R I ⟨env, G, h, w⟩ => ?_⟩
  unfold pkI at w
  have hE : tE X.K fr F σ H fun v H1 => ∃ a, v = .ref a ∧ (((∃ xs, SqL X.K H1 a xs) ∧ R (Itl X.K a) H1) ∨ ((∃ xs, SqT X.K H1 a xs) ∧ R (Itt X.K a) H1)) := by
    refine tE_then h w (fun r env1 H1 G1 v h1 s1 q1 w1 => ?_) fun c e1 E1 H1 G1 h1 s1 => E1 H1 G1 h1 s1
    obtain ⟨G2, h2, s2, q2⟩ := hold_ok' h1 q1
    have w1' := wpM_bind.mp w1
    have key : ∃ d, Dq X.K (lay G2 H1 (ownA env1 σ)) v d ∧ wpM (liftO (itemsG d)) env1 (fun ds env' => ∀ H' G' J, SR X.K fr env' σ H' G' → Sub G G' → ItOk X.K J (lay G' H' (ownA env' σ)) ds → R J H') (fun c env' => ∀ H' G', SR X.K fr env' σ H' G' → Sub G G' → fr.W c H') := by
      cases hr : hold r with
      | fr ds => rw [hr] at q2; exact q2.elim
      | sh d =>
        rw [hr] at q2 w1'
        exact ⟨d, Sub.dq h2.subLay _ _ q2, w1'⟩
      | sl i =>
        rw [hr] at q2 w1'
        have q' : σ[i]? = some (some v) := q2
        unfold wpM peek at w1'
        cases e : env1[i]? with
        | none => simp [e] at w1'
        | some sl =>
          cases sl with
          | un => simp [e] at w1'
          | sh d =>
            simp only [e] at w1'
            obtain ⟨x, e1, e2⟩ := h2.shAt e
            rw [q'] at e1; cases e1
            exact ⟨d, Sub.dq h2.subLay _ _ e2, w1'⟩
          | own t ds =>
            simp only [e] at w1'
            obtain ⟨a, xs, e1, e2, e3, _⟩ := h2.ownAt e
            rw [q'] at e1; cases e1
            refine ⟨.list ds, .lst ?_ (Sub.dqAll h2.subLay _ _ e3), w1'⟩
            unfold lay
            rw [if_pos (ownA_iff.mpr ⟨i, t, ds, e, q'⟩)]
            exact e2
    obtain ⟨d, d2, w2⟩ := key
    obtain ⟨ds, e, w3⟩ := wpM_lift w2
    have sA := s1.trans s2
    cases d2 with
    | lst k1 k2 => cases e; exact ⟨_, rfl, .inl ⟨⟨_, .of (h2.laySub _ _ k1)⟩, w3 H1 G2 _ h2 sA (itOk_list (.of k1) k2)⟩⟩
    | tup k1 k2 => cases e; exact ⟨_, rfl, .inr ⟨⟨_, h2.laySub.sqT k1⟩, w3 H1 G2 _ h2 sA (itOk_tup k1 k2)⟩⟩
    | scr k1 k2 => cases e; exact ⟨_, rfl, .inl ⟨⟨_, h2.laySub.sqL k1⟩, w3 H1 G2 _ h2 sA (itOk_list k1 k2)⟩⟩
    | _ => cases e
  refine thn (hl.run pins s σ H _ I hE) fun u s1 ⟨v, H1, I1, r1, a, e, alt⟩ => ?_
  subst e
  cases r1
  have new : ∀ b ∈ [s1.heap.objs.size], FpOk X pins H1 b := fun b hb => by
    rw [List.mem_singleton.mp hb]
    exact I1.fpOk (Nat.le_refl _) (I1.hok.fresh (Nat.le_refl _))
  rcases alt with ⟨⟨xs, hq⟩, q⟩ | ⟨⟨xs, hq⟩, q⟩
  · obtain ⟨its, _, pl, _⟩ := I1.list hq
    exact wpAny_pyIter_list pl.isList ⟨_, _, _, _, H1, rfl, I1.kept (t' := s1.toks) fun b o z => Heap.get?_push_of_some _ z, turn_list a _, ⟨_, Heap.get?_push_size _ rfl, rfl, rfl⟩, new, q⟩
  · obtain ⟨its, _, pl, _⟩ := I1.tuple hq
    exact wpAny_pyIter_tuple (show s1.heap.IsTuple a its.toArray from pl) ⟨_, _, _, _, H1, rfl, I1.kept (t' := s1.toks) fun b o z => Heap.get?_push_of_some _ z, turn_tuple a _, ⟨_, Heap.get?_push_size _ rfl, rfl, rfl⟩, new, q⟩
end

/-- in the generator's context -/
abbrev InGen (X : Cx) (fr : Fr) (k : Nat) (scope : Scope) (N : List Str) (J : Cx → Fr → Prop) : Prop := ∀ (p : Hp) (s : Shared) (H : Hp) (C : Addr) (code : Value) (fp : List Addr) (pn : List (Addr × Obj)),
  Room k (X.A.in1.in1.deeper (genEnv scope (cloFrom X.env.cells scope.names []) C code builtinsNs X.env)) →
    J (genC X X.A.in1.in1 s H scope N (genEnv scope (cloFrom X.env.cells scope.names []) C code builtinsNs X.env) fp pn) ⟨p, [], fr.tabs, fun _ _ => False⟩

theorem lay_grow {G H : Hp} {A : Addr → Bool} {P : Addr} {o : HO} (h : A P = false) : lay G (upd H P o) A = lay G H A := by
  funext b
  unfold lay
  split
  · rename_i hb
    exact upd_ne (fun z => by rw [z, h] at hb; cases hb)
  · rfl

section
variable {X : Cx} {fr : Fr} {k m : Nat} {tg elt iter : Expr} {ifs : List Expr} {scope : Scope} {N : List Str} {ixs : List Nat} {ws : List Nat} {I : Mo (List PyData)} {T : PyData → Mo Unit} {C B : Mo Bool} {stop : Bool} {c P : Addr} {gpos : Pos}
/-- the generator has been made; what is wanted of the loop's answer -/
theorem gen_made (hr : Room (k + 3) X.A) (TB : TabB X.base X.mg c P) (hcode : X.env.code = .ref c) (hPt : P ∈ fr.tabs) (ok : GenOk X.N X.env.scope scope N ixs m)
    (hi : PIq X fr tg iter I) (hg : InGen X fr k scope N fun X fr => PGv X fr tg ws T) (hc : InGen X fr k scope N fun X fr => PTsv X fr ifs C) (hb : InGen X fr k scope N fun X fr => PBv X fr elt B)
    (hs : ∀ v, genFold iter X.env v = pure v) {pins : List (Addr × Obj)} {s : Shared} {σ : L2.St} {H : Hp} {Q : VK} (I0 : Inv X pins σ H s) (h : tE X.K fr (ofB (quantF stop ixs m I T C B)) σ H Q) {Qg : Value → Shared → Prop}
    (hQ : ∀ (X' : Cx) (fr' : Fr) (G0 : Hp) (Qb : Bool → Prop) (a : Addr) (g n : Nat) (s5 : Shared), s5.heap.NoLimit → s5.heap.IsGen a g →
      (∃ gs, s5.gens[g]? = some gs ∧ gs.Goes (model X.prog X.w) X.A.in1.in1 (GRest stop X' fr' G0 Qb) (GItem stop X' fr' G0 Qb a g) n (.send .none) (s5.setGen g .running)) →
      (∀ b s', GFin X' fr' G0 Qb b s' → EP X pins σ Q (.bool b) s') → Qg (.ref a) s5) :
    wpAny (model X.prog X.w) X.A (eval (.GeneratorExp elt [⟨tg, iter, ifs, 0⟩] scope gpos) X.env) Qg X.xe s := by
  obtain ⟨env, G, h0, w⟩ := h
  have hfree : ∀ y ∈ scope.names, y.2 = .free → ∃ c, X.env.cells.lookup y.1 = some c := fun y hy e => by
    rcases ok.free y hy e with k | k
    · exact I0.ok.has _ (.inl k)
    · exact I0.ok.has _ (.inr k)
  refine wpAny_GeneratorExp_make ok.co (closure_ok hfree) ok.cell ok.dot ok.kind hr.depth ?_ hs
  unfold ofB quantF at w
  have hTI : tIq X.K fr I σ H fun J H1 => ∃ env1 G1 ds, SR X.K fr env1 σ H1 G1 ∧ Sub G G1 ∧ ItOk X.K J (lay G1 H1 (ownA env1 σ)) ds ∧
      wpM (inGen ixs m (quantL stop T C B ds)) env1 (fun b env' => ∀ H' G' v, SR X.K fr env' σ H' G' → Sub G G' → RvOk X.K fr env' σ H' G' v (.sh (.bool b)) → Q v H') (fun c env' => ∀ H' G', SR X.K fr env' σ H' G' → Sub G G' → fr.W c H') :=
    ⟨env, G, h0, wpM_mono (wpM_bind.mp (wpM_bind.mp w)) (fun ds env1 w1 H1 G1 J h1 s1 io => ⟨env1, G1, ds, h1, s1, io, w1⟩) fun _ _ q => q⟩
  refine thn (hi.run pins s σ H _ I0 hTI) fun xv s1 h1 => thn h1 fun itv s2 hp => ?_
  obtain ⟨it, fp, tn, J, H2, rfl, I2, TT, st2, f2, env2, G2, ds, h2, sG2, io, w2⟩ := hp
  refine ⟨I2.nolimit, ?_⟩
  obtain ⟨⟨ps, hP, ht⟩, gP⟩ := h2.tab P hPt
  have hPs : s2.heap.get? P = some { cls := .none, data := .fields ps } := I2.hok P _ hP
  have cd : PySem.W.CodeHd s2.heap c P := TB.code.keeps fun b u e => I2.bk b u e
  have cont : ∀ (code : Value) (h3 : Heap) (tk : Nat) (ps' : Array Value), Heap.ExtBut P s2.heap h3 → s2.heap.objs.size ≤ h3.objs.size → h3.get? P = some { cls := .none, data := .fields ps' } → (∃ more, ps' = ps ++ more) → TriplesOk ps'.toList →
      wpAny (model X.prog X.w) X.A (builtinsFor X.env.globals X.env.builtins) (fun bi s₄ => ∀ h', h'.Ns s₄.heap.objs.size (fun y => if y = ".0" then some (.ref it) else none) → Heap.SameBut s₄.heap.objs.size (s₄.heap.push { cls := .type "frame", data := .dict #[] }) h' →
          Qg (.ref h'.objs.size) { s₄ with
            gens := s₄.gens.push (.fresh (.compStart (.GeneratorExp elt [⟨tg, iter, ifs, 0⟩] scope gpos) 0 (.ref it) .none (genEnv scope (cloFrom X.env.cells scope.names []) s₄.heap.objs.size code bi X.env))),
            toks := s₄.toks + 1 + 1 + 1,
            heap := h'.push { cls := .type "generator", data := .fields #[.int s₄.gens.size 0, .str "<genexpr>" (s₄.toks + 1), .str (X.env.qual ++ "<genexpr>") (s₄.toks + 1 + 1)] } }) X.xe { s2 with heap := h3, toks := tk } := by
    intro code h3 tk ps' hx hsz hP3 hmore ht3
    obtain ⟨more, em⟩ := hmore
    obtain ⟨bm, ob, e1, e2, e3, e4, e5, e6, e7, e8⟩ := TB.bm
    have keep3 : ∀ b u, b ≠ P → s2.heap.get? b = some u → h3.get? b = some u := fun b u hb e => hx b u hb e
    have I4 : Inv X pins σ (upd H2 P (.tbl (ps ++ more))) { s2 with heap := h3, gens := s2.gens, drawn := s2.drawn, toks := tk } := inv_tab I2 hP keep3 (by rw [← em]; exact hP3) I2.bare
    have S4 : SR X.K fr env2 σ (upd H2 P (.tbl (ps ++ more))) G2 := h2.grow (ps := ps) hPt (by rw [← em]; exact ht3)
    refine wpAny_builtinsFor (m := X.mg) (by rw [I2.ok.glob]; exact (I2.mod.glob.keeps I2.bk).extBut hx TB.gP) e1 e2 (keep3 _ _ e4 (I2.bk _ _ e5)) e6 e7 e8 ?_
    intro h' hn' hs'
    have hsz' : h'.objs.size = h3.objs.size + 1 := by rw [hs'.1, Heap.size_push]
    have keep' : ∀ b o, h3.get? b = some o → h'.get? b = some o := fun b o e => hs'.extBut b o (Nat.ne_of_lt (Heap.lt_size e)) (Heap.get?_push_of_some _ e)
    have nP : ∀ b ∈ fp, b ≠ P := fun b hb z => by rw [z] at hb; have q := (f2 P hb).1; rw [hP] at q; cases q
    have own_P : ownA env2 σ P = false := by
      cases z : ownA env2 σ P with
      | false => rfl
      | true =>
        obtain ⟨⟨xs, e⟩, _⟩ := h2.ownA_at z
        rw [e] at hP; cases hP
    have fpo : ∀ b ∈ fp, FpOk X pins (upd H2 P (.tbl (ps ++ more))) b ∧ b < h3.objs.size := fun b hb => by
      refine ⟨⟨by rw [upd_ne (nP b hb)]; exact (f2 b hb).1, (f2 b hb).2⟩, ?_⟩
      obtain ⟨o, e, _⟩ := TT.obj _ _ st2 b hb
      exact Nat.lt_of_lt_of_le (Heap.lt_size e) hsz
    generalize hgo : ({ cls := .type "generator", data := .fields #[.int s2.gens.size 0, .str "<genexpr>" (tk + 1), .str (X.env.qual ++ "<genexpr>") (tk + 1 + 1)] } : Obj) = go
    have kp5 : ∀ b o, h3.get? b = some o → (h'.push go).get? b = some o := fun b o e => Heap.get?_push_of_some _ (keep' b o e)
    have hpushed : (h'.push go).get? h'.objs.size = some go := by subst hgo; exact Heap.get?_push_size _ rfl
    have hgen : ∀ h : Heap, h.get? h'.objs.size = some go → h.IsGen h'.objs.size s2.gens.size := fun h e => by subst hgo; exact ⟨_, _, _, e, rfl, rfl, rfl⟩
    have hgod : ∀ v, go.data ≠ .cell v := fun v q => by subst hgo; cases q
    have lim5 : (h'.push go).NoLimit := I4.nolimit.keeps kp5
    have hfr : X.A.in1.in1.frames = some X.stack := I2.ok.frames
    have hgr : Room k (X.A.in1.in1.deeper (genEnv scope (cloFrom X.env.cells scope.names []) h3.objs.size code builtinsNs X.env)) := (Room.in1 (Room.in1 hr)).deeper _
    have Lw : lay G2 (upd H2 P (.tbl (ps ++ more))) (ownA env2 σ) = lay G2 H2 (ownA env2 σ) := lay_grow own_P
    have SC := S4.cap ixs m
    rw [Lw] at SC
    have w3 := wpM_inGen w2
    refine hQ (genC X X.A.in1.in1 { s2 with heap := h3, toks := tk } (upd H2 P (.tbl (ps ++ more))) scope N (genEnv scope (cloFrom X.env.cells scope.names []) h3.objs.size code builtinsNs X.env) fp [(h'.objs.size, go)])
      ⟨privOf fr.tabs (fun _ => False) (upd H2 P (.tbl (ps ++ more))) (lay G2 H2 (ownA env2 σ)), [], fr.tabs, fun _ _ => False⟩ (lay G2 H2 (ownA env2 σ))
      (fun b => ∀ H' G' v, SR X.K fr env2 σ H' G' → Sub G G' → RvOk X.K fr env2 σ H' G' v (.sh (.bool b)) → Q v H') h'.objs.size s2.gens.size ds.length _ lim5 (hgen _ hpushed) ⟨_, Array.getElem?_push_size .., rfl, ?_⟩ ?_
    · have Is : Inv (genC X X.A.in1.in1 { s2 with heap := h3, toks := tk } (upd H2 P (.tbl (ps ++ more))) scope N (genEnv scope (cloFrom X.env.cells scope.names []) h3.objs.size code builtinsNs X.env) fp [(h'.objs.size, go)]) [] (capS ixs m σ) (upd H2 P (.tbl (ps ++ more)))
          ({ s2 with heap := h'.push go, gens := (s2.gens.push (.fresh (.compStart (.GeneratorExp elt [⟨tg, iter, ifs, 0⟩] scope gpos) 0 (.ref it) .none (genEnv scope (cloFrom X.env.cells scope.names []) h3.objs.size code builtinsNs X.env)))).setIfInBounds s2.gens.size .running, toks := tk + 1 + 1 + 1 }) := by
        refine gen_start (s := { s2 with heap := h3, toks := tk }) I4 ok hr.hd hfr fpo (hn'.push _) kp5 hpushed (by show h3.objs.size < h'.objs.size; omega) hgod ?_
        exact allBare_setGen (s := { s2 with gens := s2.gens.push (.fresh (.compStart (.GeneratorExp elt [⟨tg, iter, ifs, 0⟩] scope gpos) 0 (.ref it) .none (genEnv scope (cloFrom X.env.cells scope.names []) h3.objs.size code builtinsNs X.env))) }) (AllBare.push I2.bare rfl) rfl
      have fpi : ∀ b ∈ fp, FpOk (genC X X.A.in1.in1 { s2 with heap := h3, toks := tk } (upd H2 P (.tbl (ps ++ more))) scope N (genEnv scope (cloFrom X.env.cells scope.names []) h3.objs.size code builtinsNs X.env) fp [(h'.objs.size, go)]) [] (upd H2 P (.tbl (ps ++ more))) b := fun b hb => by
        obtain ⟨⟨z1, z2, z3, z4, z5, z6⟩, z7⟩ := fpo b hb
        refine ⟨z1, Nat.ne_of_lt z7, fun z => ?_, .inl hb, fun y c' e z => ?_, fun p hp z => ?_⟩
        · rcases List.mem_cons.mp (I4.stkSub b z) with y | y
          · exact z2 y
          · exact z3 y
        · refine z5 y c' ?_ z
          rcases cloFrom_mem (PySem.mem_of_lookup e) with hm | ⟨hm1, rfl⟩
          · cases hm
          · obtain ⟨c1, hc1⟩ := hfree _ hm1 rfl
            rw [hc1]
            rfl
        · have e : p = (h'.objs.size, go) := by simpa using hp
          rw [e] at z
          have z' : h'.objs.size = b := z
          rw [hsz'] at z'
          rw [← z'] at z7
          exact absurd (Nat.lt_of_succ_lt z7) (Nat.lt_irrefl _)
      refine seg_start (X := X) (fun A Q' E' hq => TT.self A 0 _ Q' E' (TT.keep _ _ _ st2 fun b hb o e => kp5 b o (keep3 b o (nP b hb) e)) hq) ?_
      exact seg_quant (scope := scope) (iter := iter) (ds := ds) ok.co hgen TT io (hg _ _ _ _ _ _ _ hgr) (hc _ _ _ _ _ _ _ hgr) (hb _ _ _ _ _ _ _ hgr) ds.length 0 ds.length _ _ _ _ _ _ (by omega) (Nat.le_refl _) (Nat.zero_le _) Is
        (TT.keep _ _ _ st2 fun b hb o e => kp5 b o (keep3 b o (nP b hb) e)) fpi SC .refl (by rw [List.drop_zero]; exact w3)
    · intro b s' ⟨qb, σ', H', G', env', I', h', sG'⟩
      have Io : Inv X pins σ H' s' := by
        refine I4.call' (ch := fp) I'.os I'.base I'.hok I'.bare fun b hb => ?_
        obtain ⟨⟨z1, z2, z3, z4, z5, z6⟩, _⟩ := fpo b hb
        exact ⟨z4, z2, z5, z6⟩
      have kept : Kept fr.tabs (fun _ => False) (upd H2 P (.tbl (ps ++ more))) (lay G2 (upd H2 P (.tbl (ps ++ more))) (ownA env2 σ)) H' G' := fun b o e1 e2 e3 e4 => by
        rw [Lw] at e2
        have e5 : privOf fr.tabs (fun _ => False) (upd H2 P (.tbl (ps ++ more))) (lay G2 H2 (ownA env2 σ)) b = some o := by
          unfold privOf
          rw [if_pos ⟨e2, e3, id⟩]
          exact e1
        exact ⟨h'.prot b o e5, h'.dj b (ne_none_of e5)⟩
      obtain ⟨h9, s9⟩ := S4.keptB (by rw [Lw]; exact sG') h'.sub h'.tab kept
      exact ⟨.bl b, H', Io, rfl, qb H' _ _ h9 (sG2.trans s9) (.bl b)⟩
  cases hf : codeAmong gpos ps.toList with
  | none =>
    refine wpAny_genexprCodeX hcode (cd.code hPs ht) (cd.tab hPs) hf fun c' h' tk hx hge hlt hco' _ htab' _ => ?_
    obtain ⟨o1, vs, f1, tf, fl, tg, inF, tx, tt, op, _, _, _, _, _, _, _, _, _, htr, _⟩ := hco'
    exact cont _ h' tk _ hx (Nat.le_trans hge (Nat.le_of_lt hlt)) htab'.2 ⟨_, rfl⟩ htr
  | some cv =>
    refine wpAny_genexprCode_hit hcode (cd.code hPs ht) hf ?_
    exact cont cv s2.heap s2.toks ps (Heap.ExtBut.refl _ _) (Nat.le_refl _) hPs ⟨#[], by simp⟩ ht
end

section
variable {X : Cx} {fr : Fr} {k m : Nat} {tg elt iter : Expr} {ifs : List Expr} {scope : Scope} {N : List Str} {ixs : List Nat} {ws : List Nat} {I : Mo (List PyData)} {T : PyData → Mo Unit} {C B : Mo Bool} {c P : Addr} {p pos gpos : Pos}
theorem eb_all (hr : Room (k + 3) X.A) (hgl : Gl X "all") (hm : X.mg "all" = none) (TB : TabB X.base X.mg c P) (hcode : X.env.code = .ref c) (hPt : P ∈ fr.tabs) (ok : GenOk X.N X.env.scope scope N ixs m)
    (hi : PIq X fr tg iter I) (hg : InGen X fr k scope N fun X fr => PGv X fr tg ws T) (hc : InGen X fr k scope N fun X fr => PTsv X fr ifs C) (hb : InGen X fr k scope N fun X fr => PBv X fr elt B)
    (hs : ∀ v, genFold iter X.env v = pure v := by intro _; rfl)
    (he : starEach [.GeneratorExp elt [⟨tg, iter, ifs, 0⟩] scope gpos] X.env = (false, eval (.GeneratorExp elt [⟨tg, iter, ifs, 0⟩] scope gpos) X.env) :: starEach [] X.env := by rfl) :
    PBv X fr (.Call (.Name "all" p) [.GeneratorExp elt [⟨tg, iter, ifs, 0⟩] scope gpos] [] pos) (quantF false ixs m I T C B) := by
  refine ⟨fun pins s σ H Q I0 h => ?_⟩
  refine wpAny_Call_Name_kw (ld_blt I0 hgl hm bt_all ?_)
  refine PyProof.Rows.callWith_builtin1 ?_ he (by rfl)
  rw [he]
  show wpAny _ _ (spliced ((false, eval (.GeneratorExp elt [⟨tg, iter, ifs, 0⟩] scope gpos) X.env) :: backTo pos (starEach [] X.env))) _ _ s
  refine Calls.spliced_cons (gen_made hr TB hcode hPt ok hi hg hc hb hs I0 h fun X' fr' G0 Qb a g n s5 hl5 hg5 hgo hfin => ?_)
  refine Calls.spliced_nil ?_
  refine call_function_tree F.kind_all F.plain_all F.entry_all (F.args_all1 _) ?_
  unfold Builtin.«all»
  refine wpAny_bind (m := oneArg "all" _) (wpAny_pure ?_)
  refine wpAny_bind (wpAny_pyIter_gen hg5 ?_)
  exact wpAny_pure ⟨plainId_quiet F.plain_all_loop _, all_loop hr.hd hr.depth (fun b s' q => hfin b s' q) n s5 hl5 hg5 hgo⟩
theorem eb_any (hr : Room (k + 3) X.A) (hgl : Gl X "any") (hm : X.mg "any" = none) (TB : TabB X.base X.mg c P) (hcode : X.env.code = .ref c) (hPt : P ∈ fr.tabs) (ok : GenOk X.N X.env.scope scope N ixs m)
    (hi : PIq X fr tg iter I) (hg : InGen X fr k scope N fun X fr => PGv X fr tg ws T) (hc : InGen X fr k scope N fun X fr => PTsv X fr ifs C) (hb : InGen X fr k scope N fun X fr => PBv X fr elt B)
    (hs : ∀ v, genFold iter X.env v = pure v := by intro _; rfl)
    (he : starEach [.GeneratorExp elt [⟨tg, iter, ifs, 0⟩] scope gpos] X.env = (false, eval (.GeneratorExp elt [⟨tg, iter, ifs, 0⟩] scope gpos) X.env) :: starEach [] X.env := by rfl) :
    PBv X fr (.Call (.Name "any" p) [.GeneratorExp elt [⟨tg, iter, ifs, 0⟩] scope gpos] [] pos) (quantF true ixs m I T C B) := by
  refine ⟨fun pins s σ H Q I0 h => ?_⟩
  refine wpAny_Call_Name_kw (ld_blt I0 hgl hm bt_any ?_)
  refine PyProof.Rows.callWith_builtin1 ?_ he (by rfl)
  rw [he]
  show wpAny _ _ (spliced ((false, eval (.GeneratorExp elt [⟨tg, iter, ifs, 0⟩] scope gpos) X.env) :: backTo pos (starEach [] X.env))) _ _ s
  refine Calls.spliced_cons (gen_made hr TB hcode hPt ok hi hg hc hb hs I0 h fun X' fr' G0 Qb a g n s5 hl5 hg5 hgo hfin => ?_)
  refine Calls.spliced_nil ?_
  refine call_function_tree F.kind_any F.plain_any F.entry_any (F.args_any1 _) ?_
  unfold Builtin.«any»
  refine wpAny_bind (m := oneArg "any" _) (wpAny_pure ?_)
  refine wpAny_bind (wpAny_pyIter_gen hg5 ?_)
  exact wpAny_pure ⟨plainId_quiet F.plain_any_loop _, any_loop hr.hd hr.depth (fun b s' q => hfin b s' q) n s5 hl5 hg5 hgo⟩
end
end Cf
/-! Cf, part T: enumerate, zip. -/
namespace Cf
open PySem PySem.Spec PyProof.Rows L2

/-! ### a list or a tuple, whichever it is (b: a tuple) -/
def SrcAt (K : PySem.W.Frag) (b : Bool) (H : Hp) (a : Addr) (xs : List V) : Prop := match b with
  | true => SqT K H a xs
  | false => SqL K H a xs
def IterAt (b : Bool) (h : Heap) (it a : Addr) (i : Nat) : Prop := match b with
  | true => h.IsTupleIter it a i
  | false => h.IsListIter it a i
def SeqIs (b : Bool) (h : Heap) (a : Addr) (items : Array Value) : Prop := match b with
  | true => h.IsTuple a items
  | false => h.IsList a items
def itObj (b : Bool) (a : Addr) : Obj := match b with
  | true => { cls := .type "tuple_iterator", data := .fields #[.ref a, .int 0 0] }
  | false => { cls := .type "list_iterator", data := .fields #[.ref a, .int 0 0] }
theorem draws_at {prog : Program} {w : World} {A : Around} (b : Bool) (hh : A.handled = none) (it a : Addr) (hne : a ≠ it) (items : Array Value) :
    Draws prog w A it [it, a] items.size (fun i v => items[i]? = some v) (fun i h => IterAt b h it a i ∧ SeqIs b h a items) := by
  cases b
  · exact Draws.list hh it a hne items
  · exact Draws.tuple hh it a hne items
theorem begins_at (b : Bool) (a : Addr) (items : Array Value) : Begins (.ref a) (itObj b a) fun h => SeqIs b h a items := by
  cases b
  · exact begins_list a items
  · exact begins_tuple a items
theorem iter_new {b : Bool} {h : Heap} {it a : Addr} (e : h.get? it = some (itObj b a)) : IterAt b h it a 0 := by
  cases b
  · exact ⟨_, e, rfl, rfl⟩
  · exact ⟨_, e, rfl, rfl⟩
theorem IterAt.keep {b : Bool} {h h' : Heap} {it a : Addr} {i : Nat} (x : IterAt b h it a i) (k : ∀ o, h.get? it = some o → h'.get? it = some o) : IterAt b h' it a i := by
  cases b
  · exact Heap.IsListIter.at x fun o e => k o e
  · exact Heap.IsTupleIter.at x fun o e => k o e
theorem IterAt.obj {b : Bool} {h : Heap} {it a : Addr} {i : Nat} (x : IterAt b h it a i) : ∃ o, h.get? it = some o ∧ ∀ v, o.data ≠ .cell v := by
  cases b
  · obtain ⟨o, e, _, d⟩ := x
    exact ⟨o, e, fun v z => by rw [d] at z; cases z⟩
  · obtain ⟨o, e, _, d⟩ := x
    exact ⟨o, e, fun v z => by rw [d] at z; cases z⟩
theorem SeqIs.lt {b : Bool} {h : Heap} {a : Addr} {items : Array Value} (x : SeqIs b h a items) : a < h.objs.size := by
  cases b
  · obtain ⟨o, e, _⟩ := x; exact Heap.lt_size e
  · obtain ⟨o, e, _⟩ := x; exact Heap.lt_size e
theorem Inv.src {X : Cx} {pins : List (Addr × Obj)} {σ : L2.St} {H : Hp} {s : Shared} (I : Inv X pins σ H s) {b : Bool} {a : Addr} {xs : List V} (h : SrcAt X.K b H a xs) : ∃ its, Vals xs its ∧ SeqIs b s.heap a its.toArray := by
  cases b
  · obtain ⟨its, rv, p, _⟩ := I.list h
    exact ⟨its, rv, p.isList⟩
  · obtain ⟨its, rv, p, _⟩ := I.tuple h
    exact ⟨its, rv, p⟩

/-! ### new tuples, one a turn -/
def Itp (S : Hp → Prop) (f : Nat → List V) (n : Nat) : It :=
  ⟨fun i H => i < n ∧ S H, fun i H v H' => ∃ T, v = .ref T ∧ H T = none ∧ H' = upd H T (.tup (f i)), fun i H => i = n ∧ S H⟩
/-- one turn -/
theorem step_walksT {X : Cx} {pins : List (Addr × Obj)} {s : Shared} {σ : L2.St} {H : Hp} {E : Value → Shared → Prop} {e : Addr} {fp wr : List Addr} {n i : Nat} {Pt : Nat → Array Value → Prop} {Sn : Nat → Heap → Prop} {Mid : Nat → Addr → Heap → Prop} {elts : List Expr} {kk : Nat} {tpos : Pos} {xs : List V} {R : Heap → Prop} {L : List Addr} (hL : ∀ b ∈ L, H b = none ∧ b < s.heap.objs.size)
    (W : WalksT X.prog X.w X.A e fp wr n Pt Sn Mid) (I : Inv X pins σ H s) (hf : ∀ b ∈ wr, FpOk X pins H b) (hi : i < n) (st : Sn i s.heap) (hz : xs.length ≤ sizeLine) (hP : ∀ vals, Pt i vals → Vals xs vals.toList)
    (hR : ∀ h', Sn (i + 1) h' → (∀ b o, b ∉ wr → s.heap.get? b = some o → h'.get? b = some o) → R h') :
    wpAny (model X.prog X.w) X.A (pyNext (.ref e)) (fun r s1 => ∃ u, r = some u ∧
      wpAny (model X.prog X.w) X.A (letOwnedTupleGo (.Tuple elts kk tpos) (.ref e) u) (fun _ s2 => ∃ x H', Inv X pins σ H' s2 ∧ RelV x u ∧ (∃ T, x = .ref T ∧ H T = none ∧ H' = upd H T (.tup xs)) ∧ R s2.heap ∧ ∀ b ∈ L, H' b = none) E s1) E s := by
  refine W.item i s _ _ hi st fun T vals h' tk hp hT ht hm hk => ⟨_, rfl, W.go elts kk tpos i T _ _ _ hm fun h'' st' hk' => ?_⟩
  have ht' : h''.IsTuple T vals := by
    obtain ⟨o, e1, r⟩ := ht
    exact ⟨o, hk' T o (W.apart _ _ _ hm) e1, r⟩
  have new : ObjOk X.prog X.w (upd H T (.tup xs)) h'' T (.tup xs) := ⟨hz, vals.toList, hP vals hp, by rw [Array.toArray_toList]; exact ht'⟩
  have kk2 : ∀ b o, b ∉ wr → s.heap.get? b = some o → h''.get? b = some o := fun b o hb q => hk' b o hb (hk b o hb q)
  have I1 : Inv X pins σ (upd H T (.tup xs)) { s with heap := h'', toks := tk } := I.turnedNew kk2 hf hT new
  refine ⟨.ref T, _, I1, rfl, ⟨T, rfl, I.hok.fresh hT, rfl⟩, hR h'' st' kk2, fun b hb => ?_⟩
  rw [upd_ne (Nat.ne_of_lt (Nat.lt_of_lt_of_le (hL b hb).2 hT))]
  exact (hL b hb).1

theorem itOk_pairs {K : PySem.W.Frag} {S : Hp → Prop} {f : Nat → List V} {n : Nat} {G : Hp} {gs : List PyData} (hl : gs.length = n) (hS : ∀ H G', Sub G G' → Sub G' H → S H) (hf : ∀ i, i < n → ∃ es, gs[i]? = some (.tuple es) ∧ DqAll K G (f i) es) : ItOk K (Itp S f n) G gs := by
  refine ⟨fun i H G1 s1 s2 hi => ⟨by omega, hS H G1 s1 s2⟩, fun H G1 s1 s2 => ⟨hl, hS H G1 s1 s2⟩, fun i H G1 x H' s1 s2 hi y => ?_⟩
  obtain ⟨T, rfl, hT, rfl⟩ := y
  obtain ⟨es, e1, e2⟩ := hf i (by omega)
  have st := Stp.fix (o := .tup (f i)) s2 hT
  exact ⟨_, _, e1, st, .tup (.inl (.inl upd_same)) (Sub.dqAll (s1.trans st.mono) _ _ e2)⟩

/-! ### enumerate -/
theorem turn_enumA {P : Program} {w : World} {K : PySem.W.Frag} {elts : List Expr} {kk : Nat} {tpos : Pos} (b : Bool) (a e it : Addr) (xs : List V) (hea : e ≠ a) (hia : a ≠ it) (hei : e ≠ it) :
    Turn P w K (.Tuple elts kk tpos) (Itp (fun H => SrcAt K b H a xs) (fun i => [.int (i : Nat), xs.getD i .non]) xs.length) [e, it] e (fun i h => (∃ old, IsEnum h e it ((i : Nat) : Int) old) ∧ IterAt b h it a i) where
  mem := by simp
  obj := fun i h st c hc => by
    obtain ⟨⟨old, he⟩, hi⟩ := st
    have e' : c = e ∨ c = it := by simpa using hc
    rcases e' with z | z
    · rw [z]; exact ⟨_, he, fun v q => nomatch q⟩
    · rw [z]; exact hi.obj
  keep := fun i h h' st k => let ⟨⟨old, he⟩, hi⟩ := st; ⟨⟨old, k e (by simp) _ he⟩, hi.keep fun o q => k it (by simp) o q⟩
  item := by
    intro X hP hw hK hc i pins s σ H E I hf st hg
    subst hP hw hK
    obtain ⟨⟨old, he⟩, hit⟩ := st
    obtain ⟨hi, hS⟩ := hg
    obtain ⟨its, rv, p⟩ := Inv.src I hS
    have hl := rv.length
    have D := draws_at (prog := X.prog) (w := X.w) (A := X.A.in1) b (I.ok.hd hc) it a hia its.toArray
    have W := WalksT.enumFrom (A := X.A) 0 D e hei (by simp; exact ⟨hei, hea⟩) (by simp)
    refine step_walksT (R := fun h => (∃ old, IsEnum h e it (((i + 1 : Nat) : Nat) : Int) old) ∧ IterAt b h it a (i + 1)) (L := [e, it]) (fun c hc => ⟨(hf c hc).1, by
      have e' : c = e ∨ c = it := by simpa using hc
      rcases e' with z | z
      · rw [z]; exact Heap.lt_size he
      · rw [z]; obtain ⟨o, ho, _⟩ := hit.obj; exact Heap.lt_size ho⟩) W I hf (i := i) (xs := [.int (i : Nat), xs.getD i .non]) (by simp; omega) ⟨⟨old, by rw [Int.zero_add]; exact he⟩, hit, p⟩ (by show 2 ≤ sizeLine; decide) (fun vals ⟨t, x, hx, ev⟩ => ?_) fun h' st' _ => ?_
    · subst ev
      have hx' : its[i]? = some x := by simpa using hx
      have hx2 : xs[i]? = some (xs.getD i .non) := by rw [List.getD_eq_getElem?_getD, List.getElem?_eq_getElem hi]; rfl
      obtain ⟨u, hu, ru⟩ := rv.get hx2
      rw [hx'] at hu
      cases hu
      exact .cons ⟨t, by rw [Int.zero_add]⟩ (.cons ru .nil)
    · obtain ⟨⟨old', he'⟩, hit', _⟩ := st'
      exact ⟨⟨old', by rw [Int.zero_add] at he'; exact he'⟩, hit'⟩
  done := by
    intro X hP hw hK hc i pins s σ H E I hf st hg
    subst hP hw hK
    obtain ⟨⟨old, he⟩, hit⟩ := st
    obtain ⟨hi, hS⟩ := hg
    obtain ⟨its, rv, p⟩ := Inv.src I hS
    have hl := rv.length
    have D := draws_at (prog := X.prog) (w := X.w) (A := X.A.in1) b (I.ok.hd hc) it a hia its.toArray
    subst hi
    rw [hl, show its.length = its.toArray.size by simp] at he hit
    refine wpAny_pyNext_enum_endD D he ⟨hit, p⟩ fun h' hx => ⟨rfl, ?_⟩
    obtain ⟨f0, f1, f2, f3, f4, f5⟩ := hf it (by simp)
    exact I.turned (t' := s.toks) (fun c o hc q => hx c o hc q) f0 f1 f3 f4 f5
  self := fun A i s Q E st h => let ⟨⟨_, he⟩, _⟩ := st; wpAny_pyIter_enum he h

set_option maxHeartbeats 1000000 in
theorem meets_enumerate1 {v : Value} {o : Obj} {H : Heap → Prop} (B : Begins v o H) :
    Meets (Builtin.«enumerate.__new__» ⟨[.type "enumerate", v], []⟩) (fun _ R s => H s.heap ∧
      R (.ok (.ret (.ref (s.heap.push o).objs.size))) { s with heap := (s.heap.push o).push { cls := .type "enumerate", data := .fields #[.none, .bool false, .ref s.heap.objs.size, rawInt 0, .none, .none] } }) :=
  .of_wp fun prog w A R s h => by
    obtain ⟨hp, g, d, tk, os⟩ := s; obtain ⟨h1, h⟩ := h
    have hsub := sub_enumerate
    have q1 : ∀ {A' : Around} {E : Value → Shared → Prop} {Q : Value → Shared → Prop}, Q (.ref hp.objs.size) ⟨hp.push o, g, d, tk, os⟩ → wpAny (model prog w) A' (pyIter v) Q E ⟨hp, g, d, tk, os⟩ :=
      fun q => B.iter prog w _ _ ⟨hp, g, d, tk, os⟩ _ h1 q
    wp_walk using q1
    refine wpAny_stack_any fun st => wpAny_pure ?_
    split
    · rename_i c _ _ _ _ _
      cases (c == Value.type "enumerate")
      · wp_walk using q1
        exact ⟨_, rfl, h⟩
      · wp_walk using q1
        exact ⟨_, rfl, h⟩
    · wp_walk using q1
      exact ⟨_, rfl, h⟩
section
variable {prog : Program} {w : World} {A : Around} {E : Value → Shared → Prop} {s : Shared}
theorem enum_begins1 {v : Value} {o : Obj} {H : Heap → Prop} {Q : Value → Shared → Prop} (B : Begins v o H) (h1 : H s.heap)
    (h : ∀ h', IsEnum h' (s.heap.objs.size + 1) s.heap.objs.size 0 .none → h'.get? s.heap.objs.size = some o → h'.objs.size = s.heap.objs.size + 2 →
      (∀ b o, s.heap.get? b = some o → h'.get? b = some o) → Q (.ref (s.heap.objs.size + 1)) { s with heap := h' }) :
    wpAny (model prog w) A (call (.type "enumerate") [v]) Q E s := by
  refine callType_new F.called_enumerate (by decide) (F.typeCall_enumerate_1 _) (F.newCall_enumerate_1 _) (fun obj => F.args_object_init_2 obj _) F.entry_enumerate_new
    (meets_enumerate1 B) ⟨h1, ?_⟩
  have hz : (s.heap.push o).objs.size = s.heap.objs.size + 1 := Heap.size_push ..
  show _ ∧ _
  rw [hz]
  have he : IsEnum ((s.heap.push o).push { cls := .type "enumerate", data := .fields #[.none, .bool false, .ref s.heap.objs.size, rawInt 0, .none, .none] }) (s.heap.objs.size + 1) s.heap.objs.size 0 .none := by
    have := Heap.get?_push_size (s.heap.push o) (o := { cls := .type "enumerate", data := .fields #[.none, .bool false, .ref s.heap.objs.size, rawInt 0, .none, .none] }) rfl
    rw [hz] at this; exact this
  refine ⟨⟨_, he, rfl⟩, h _ he (Heap.get?_push_of_some _ (Heap.get?_push_size _ B.free)) (by rw [Heap.size_push, hz]) fun b o x => Heap.get?_push_of_some _ (Heap.get?_push_of_some _ x)⟩
end
def enumD (ds : List PyData) : List PyData := ds.mapIdx fun i d => .tuple [.int (i : Nat), d]
def enumI (F : Mo Rv) : Mo (List PyData) := do
  let r ← F
  let d ← force r
  let ds ← liftO (itemsG d)
  pure (enumD ds)
section
variable {X : Cx} {fr : Fr} {elts : List Expr} {kk : Nat} {tpos : Pos}
theorem ei_enum {e : Expr} {F : Mo Rv} {p pos : Pos} (hg : Gl X "enumerate") (hm : X.mg "enumerate" = none) (he : PEv X fr e F) (hs : starEach [e] X.env = [(false, eval e X.env)] := by rfl) (hs' : starEach [e] X.env = (false, eval e X.env) :: starEach [] X.env := by rfl) :
    PIv X fr (.Tuple elts kk tpos) (.Call (.Name "enumerate" p) [e] [] pos) (enumI F) := by
  refine ⟨fun pins s σ H R I ⟨env, G, h, w⟩ => ?_⟩
  unfold enumI at w
  have hE : tCons (tE X.K fr F) tNil σ H fun vs H1 => ∃ v a b xs, vs = [v] ∧ v = .ref a ∧ SrcAt X.K b H1 a xs ∧ R (Itp (fun H => SrcAt X.K b H a xs) (fun i => [.int (i : Nat), xs.getD i .non]) xs.length) H1 := by
    show tE X.K fr F σ H _
    refine tE_then h w (fun r env1 H1 G1 v h1 s1 q1 w1 => ?_) fun c e1 E1 H1 G1 h1 s1 => E1 H1 G1 h1 s1
    obtain ⟨d, env2, G2, h2, s2, d2, w2⟩ := force_ok h1 q1 (wpM_bind.mp w1)
    obtain ⟨ds, e, w3⟩ := wpM_lift (wpM_bind.mp w2)
    have fin : ∀ (b : Bool) (a : Addr) (xs : List V), v = .ref a → SrcAt X.K b G2 a xs → DqAll X.K G2 xs ds → (∀ {G H : Hp}, Sub G H → SrcAt X.K b G a xs → SrcAt X.K b H a xs) →
        ∃ v' a b xs, [v] = [v'] ∧ v' = .ref a ∧ SrcAt X.K b H1 a xs ∧ R (Itp (fun H => SrcAt X.K b H a xs) (fun i => [.int (i : Nat), xs.getD i .non]) xs.length) H1 := fun b a xs ev hS q mono => by
      refine ⟨v, a, b, xs, rfl, ev, mono h2.sub hS, w3 H1 G2 _ h2 (s1.trans s2) (itOk_pairs (by unfold enumD; simp [q.length]) (fun H G' z1 z2 => mono z2 (mono z1 hS)) fun i hi => ?_)⟩
      have hx : xs[i]? = some (xs.getD i .non) := by rw [List.getD_eq_getElem?_getD, List.getElem?_eq_getElem hi]; rfl
      obtain ⟨d', e1, e2⟩ := q.getV hx
      exact ⟨[.int (i : Nat), d'], by unfold enumD; rw [List.getElem?_mapIdx, e1]; rfl, .cons (.int _) (.cons e2 .nil)⟩
    cases d2 with
    | lst k1 k2 => cases e; exact fin false _ _ rfl (.of k1) k2 fun s z => s.sqL z
    | tup k1 k2 => cases e; exact fin true _ _ rfl k1 k2 fun s z => s.sqT z
    | scr k1 k2 => cases e; exact fin false _ _ rfl k1 k2 fun s z => s.sqL z
    | _ => cases e
  refine Call_ (ld_blt I hg hm boot_enumerate (PyProof.Rows.callWith_type1 (thn ((pa_cons he pa_nil hs').run pos pins s σ H _ I hE) fun us s1 ⟨vs, H1, I1, r1, v, a, b, xs, ev, ea, hS, q⟩ => ?_) hs rfl))
  subst ev ea
  cases r1 with
  | cons r rr =>
    cases rr
    cases r
    obtain ⟨its, rv, p'⟩ := Inv.src I1 hS
    refine enum_begins1 (begins_at b a its.toArray) p' fun h' he ho hsz hk => wpAny_pyIter_enum he ?_
    have I2 : Inv X pins σ H1 { s1 with heap := h' } := I1.kept (t' := s1.toks) hk
    have hlt := p'.lt
    refine ⟨s1.heap.objs.size + 1, [s1.heap.objs.size + 1, s1.heap.objs.size], _, _, H1, rfl, I2, turn_enumA b a (s1.heap.objs.size + 1) s1.heap.objs.size xs (Nat.ne_of_gt (Nat.lt_succ_of_lt hlt)) (Nat.ne_of_lt hlt) (Nat.succ_ne_self _), ⟨⟨.none, he⟩, iter_new ho⟩, fun c hc => ?_, q⟩
    have e' : c = s1.heap.objs.size + 1 ∨ c = s1.heap.objs.size := by simpa using hc
    have hle : s1.heap.objs.size ≤ c := by
      rcases e' with z | z
      · rw [z]; exact Nat.le_add_right _ _
      · rw [z]; exact Nat.le_refl _
    exact I1.fpOk hle (I1.hok.fresh hle)
end

/-! ### zip -/
theorem turn_zipA {P : Program} {w : World} {K : PySem.W.Frag} {elts : List Expr} {kk : Nat} {tpos : Pos} (b1 b2 : Bool) {a1 a2 z TI TO i1 i2 : Addr} (xs ys : List V) (S : ZipSep2 z TI TO i1 i2 [i1, a1] [i2, a2]) (h1 : a1 ≠ i1) (h2 : a2 ≠ i2) :
    Turn P w K (.Tuple elts kk tpos) (Itp (fun H => SrcAt K b1 H a1 xs ∧ SrcAt K b2 H a2 ys) (fun i => [xs.getD i .non, ys.getD i .non]) (min xs.length ys.length)) [z, TO, i1, i2, TI] z
      (fun i h => IsZip h z TI TO .none ∧ IsTupOf2 h TI (.ref i1) (.ref i2) ∧ (∃ x y, IsTupOf2 h TO x y) ∧ IterAt b1 h i1 a1 i ∧ IterAt b2 h i2 a2 i) where
  mem := by simp
  obj := fun i h st c hc => by
    obtain ⟨hz, hTI, ⟨x, y, hTO⟩, k1, k2⟩ := st
    have e' : c = z ∨ c = TO ∨ c = i1 ∨ c = i2 ∨ c = TI := by simpa using hc
    rcases e' with q | q | q | q | q
    · rw [q]; exact ⟨_, hz, fun v q => nomatch q⟩
    · rw [q]; exact ⟨_, hTO, fun v q => nomatch q⟩
    · rw [q]; exact k1.obj
    · rw [q]; exact k2.obj
    · rw [q]; exact ⟨_, hTI, fun v q => nomatch q⟩
  keep := fun i h h' st k => by
    obtain ⟨hz, hTI, ⟨x, y, hTO⟩, k1, k2⟩ := st
    exact ⟨k z (by simp) _ hz, k TI (by simp) _ hTI, ⟨x, y, k TO (by simp) _ hTO⟩, k1.keep fun o q => k i1 (by simp) o q, k2.keep fun o q => k i2 (by simp) o q⟩
  item := by
    intro X hP hw hK hc i pins s σ H E I hf st hg
    subst hP hw hK
    obtain ⟨hz, hTI, hTO, k1, k2⟩ := st
    obtain ⟨hi, hS1, hS2⟩ := hg
    obtain ⟨its1, rv1, p1⟩ := Inv.src I hS1
    obtain ⟨its2, rv2, p2⟩ := Inv.src I hS2
    have l1 := rv1.length
    have l2 := rv2.length
    have W := WalksT.zipD2 (A := X.A) S (draws_at (prog := X.prog) (w := X.w) (A := X.A.in1) b1 (I.ok.hd hc) i1 a1 h1 its1.toArray) (draws_at (prog := X.prog) (w := X.w) (A := X.A.in1) b2 (I.ok.hd hc) i2 a2 h2 its2.toArray)
    have hf' : ∀ b ∈ [z, TO, i1, i2], FpOk X pins H b := fun b hb => hf b (by simp at hb ⊢; rcases hb with h | h | h | h <;> simp [h])
    have hTIn : TI ∉ [z, TO, i1, i2] := by
      simp only [List.mem_cons, List.not_mem_nil, or_false, not_or]
      exact ⟨S.TIz, S.TITO, S.TIi1, S.TIi2⟩
    refine step_walksT (L := [z, TO, i1, i2, TI]) (fun c hc => ⟨(hf c hc).1, by
      have e' : c = z ∨ c = TO ∨ c = i1 ∨ c = i2 ∨ c = TI := by simpa using hc
      obtain ⟨_, _, hTO⟩ := hTO
      rcases e' with q | q | q | q | q
      · rw [q]; exact Heap.lt_size hz
      · rw [q]; exact Heap.lt_size hTO
      · rw [q]; obtain ⟨o, ho, _⟩ := k1.obj; exact Heap.lt_size ho
      · rw [q]; obtain ⟨o, ho, _⟩ := k2.obj; exact Heap.lt_size ho
      · rw [q]; exact Heap.lt_size hTI⟩) (elts := elts) (kk := kk) (tpos := tpos) (E := E) (R := fun h => (IsZip h z TI TO .none ∧ IsTupOf2 h TI (.ref i1) (.ref i2) ∧ (∃ x y, IsTupOf2 h TO x y) ∧ IterAt b1 h i1 a1 (i + 1) ∧ IterAt b2 h i2 a2 (i + 1))) W I hf' (i := i) (xs := [xs.getD i .non, ys.getD i .non])
      (by simp; omega) ⟨hz, hTI, hTO, ⟨k1, p1⟩, ⟨k2, p2⟩⟩ (by show 2 ≤ sizeLine; decide) (fun vals ⟨x1, x2, hx1, hx2, ev⟩ => ?_) fun h' st' _ => ⟨st'.1, st'.2.1, st'.2.2.1, st'.2.2.2.1.1, st'.2.2.2.2.1⟩
    · subst ev
      have m1 : i < xs.length := by omega
      have m2 : i < ys.length := by omega
      have g1 : xs[i]? = some (xs.getD i .non) := by rw [List.getD_eq_getElem?_getD, List.getElem?_eq_getElem m1]; rfl
      have g2 : ys[i]? = some (ys.getD i .non) := by rw [List.getD_eq_getElem?_getD, List.getElem?_eq_getElem m2]; rfl
      obtain ⟨u1, hu1, ru1⟩ := rv1.get g1
      obtain ⟨u2, hu2, ru2⟩ := rv2.get g2
      have q1 : its1[i]? = some x1 := by simpa using hx1
      have q2 : its2[i]? = some x2 := by simpa using hx2
      rw [q1] at hu1
      rw [q2] at hu2
      cases hu1
      cases hu2
      exact .cons ru1 (.cons ru2 .nil)
  done := by
    intro X hP hw hK hc i pins s σ H E I hf st hg
    subst hP hw hK
    obtain ⟨hz, hTI, hTO, k1, k2⟩ := st
    obtain ⟨hi, hS1, hS2⟩ := hg
    obtain ⟨its1, rv1, p1⟩ := Inv.src I hS1
    obtain ⟨its2, rv2, p2⟩ := Inv.src I hS2
    have l1 := rv1.length
    have l2 := rv2.length
    have W := WalksT.zipD2 (A := X.A) S (draws_at (prog := X.prog) (w := X.w) (A := X.A.in1) b1 (I.ok.hd hc) i1 a1 h1 its1.toArray) (draws_at (prog := X.prog) (w := X.w) (A := X.A.in1) b2 (I.ok.hd hc) i2 a2 h2 its2.toArray)
    subst hi
    rw [l1, l2, show its1.length = its1.toArray.size by simp, show its2.length = its2.toArray.size by simp] at k1 k2
    refine W.done s _ _ ⟨hz, hTI, hTO, ⟨k1, p1⟩, ⟨k2, p2⟩⟩ fun h' tk hk => ⟨rfl, ?_⟩
    exact I.turnedL (ch := [z, TO, i1, i2]) hk fun b hb => hf b (by simp at hb ⊢; rcases hb with h | h | h | h <;> simp [h])
  self := fun A i s Q E st h => wpAny_pyIter_zip st.1 h

def zipD (xs ys : List PyData) : List PyData := List.zipWith (fun x y => .tuple [x, y]) xs ys
@[simp] def zipG : List PyData → Option (List PyData)
  | [a, b] => do
    let xs ← itemsG a
    let ys ← itemsG b
    pure (zipD xs ys)
  | _ => none
def zipI (Fs : Mo (List Rv)) : Mo (List PyData) := do
  let rs ← Fs
  let ds ← forces rs
  liftO (zipG ds)
theorem items_dq {K : PySem.W.Frag} {G : Hp} {d : PyData} {v : V} {ds : List PyData} (h : Dq K G v d) (e : itemsG d = some ds) : ∃ b a xs, v = .ref a ∧ SrcAt K b G a xs ∧ DqAll K G xs ds := by
  cases h with
  | lst k1 k2 => cases e; exact ⟨false, _, _, rfl, .of k1, k2⟩
  | tup k1 k2 => cases e; exact ⟨true, _, _, rfl, k1, k2⟩
  | scr k1 k2 => cases e; exact ⟨false, _, _, rfl, k1, k2⟩
  | _ => cases e
theorem SrcAt.mono {K : PySem.W.Frag} {b : Bool} {G H : Hp} {a : Addr} {xs : List V} (s : Sub G H) (h : SrcAt K b G a xs) : SrcAt K b H a xs := by
  cases b
  · exact s.sqL h
  · exact s.sqT h
section
variable {X : Cx} {fr : Fr} {elts : List Expr} {kk : Nat} {tpos : Pos}
theorem ei_zip {e e2 : Expr} {Fs : Mo (List Rv)} {p pos : Pos} (hg : Gl X "zip") (hm : X.mg "zip" = none) (ha : PAv X fr [e, e2] Fs) (hs : starEach [e, e2] X.env = (false, eval e X.env) :: starEach [e2] X.env := by rfl) (hpl : (backTo pos (starEach [e2] X.env)).any (·.1) = false := by rfl) :
    PIv X fr (.Tuple elts kk tpos) (.Call (.Name "zip" p) [e, e2] [] pos) (zipI Fs) := by
  refine ⟨fun pins s σ H R I ⟨env, G, h, w⟩ => ?_⟩
  unfold zipI at w
  have hE : tA X.K fr Fs σ H fun vs H1 => ∃ a1 a2 b1 b2 xs ys, vs = [.ref a1, .ref a2] ∧ SrcAt X.K b1 H1 a1 xs ∧ SrcAt X.K b2 H1 a2 ys ∧ R (Itp (fun H => SrcAt X.K b1 H a1 xs ∧ SrcAt X.K b2 H a2 ys) (fun i => [xs.getD i .non, ys.getD i .non]) (min xs.length ys.length)) H1 := by
    refine tA_then h w (fun rs env1 H1 G1 vs h1 s1 q1 w1 => ?_) fun c e1 E1 H1 G1 h1 s1 => E1 H1 G1 h1 s1
    obtain ⟨ds, env2, G2, h2, s2, d2, w2⟩ := forces_ok h1 q1 (wpM_bind.mp w1)
    obtain ⟨ds', e, w3⟩ := wpM_lift w2
    match ds, d2, e with
    | [d1, d3], .cons (v := v1) r1 (.cons (v := v2) r2 .nil), e =>
      simp only [zipG, Option.bind_eq_bind, Option.bind_eq_some_iff, Option.pure_def, Option.some.injEq] at e
      obtain ⟨l1, e1, l2, e2, rfl⟩ := e
      obtain ⟨b1, a1, xs, rfl, S1, y1⟩ := items_dq r1 e1
      obtain ⟨b2, a2, ys, rfl, S2, y2⟩ := items_dq r2 e2
      refine ⟨a1, a2, b1, b2, xs, ys, rfl, S1.mono h2.sub, S2.mono h2.sub, w3 H1 G2 _ h2 (s1.trans s2) (itOk_pairs (by unfold zipD; simp [y1.length, y2.length]) (fun H G' z1 z2 => ⟨(S1.mono z1).mono z2, (S2.mono z1).mono z2⟩) fun i hi => ?_)⟩
      have m1 : i < xs.length := by omega
      have m2 : i < ys.length := by omega
      have g1 : xs[i]? = some (xs.getD i .non) := by rw [List.getD_eq_getElem?_getD, List.getElem?_eq_getElem m1]; rfl
      have g2 : ys[i]? = some (ys.getD i .non) := by rw [List.getD_eq_getElem?_getD, List.getElem?_eq_getElem m2]; rfl
      obtain ⟨x, u1, u2⟩ := y1.getV g1
      obtain ⟨y, u3, u4⟩ := y2.getV g2
      exact ⟨[x, y], by unfold zipD; rw [List.getElem?_zipWith, u1, u3], .cons u2 (.cons u4 .nil)⟩
    | [], _, e => simp [zipG] at e
    | [_], _, e => simp [zipG] at e
    | _ :: _ :: _ :: _, _, e => simp [zipG] at e
  refine Call_ (ld_blt I hg hm PyProof.Rows.boot_zip (PyProof.Rows.callWith_type1 (thn (ha.run pos pins s σ H _ I hE) fun us s1 ⟨vs, H1, I1, r1, a1, a2, b1, b2, xs, ys, ev, S1, S2, q⟩ => ?_) hs hpl))
  subst ev
  cases r1 with
  | cons r rr =>
    cases rr with
    | cons r' rr =>
      cases rr
      cases r
      cases r'
      obtain ⟨its1, _, p1⟩ := Inv.src I1 S1
      obtain ⟨its2, _, p2⟩ := Inv.src I1 S2
      refine zip_begins2 (begins_at b1 a1 its1.toArray) (begins_at b2 a2 its2.toArray) p1 p2 fun h' hz hTI hTO h1 h2 hsz hk => wpAny_pyIter_zip hz ?_
      have I2 : Inv X pins σ H1 { s1 with heap := h' } := I1.kept (t' := s1.toks) hk
      have S := zip_sep2 (N := s1.heap.objs.size) (fp1 := [a1]) (fp2 := [a2]) (fun b hb => by rw [List.mem_singleton.mp hb]; exact p1.lt) (fun b hb => by rw [List.mem_singleton.mp hb]; exact p2.lt)
      refine ⟨_, [s1.heap.objs.size + 4, s1.heap.objs.size + 3, s1.heap.objs.size, s1.heap.objs.size + 1, s1.heap.objs.size + 2], _, _, H1, rfl, I2, turn_zipA b1 b2 xs ys S (Nat.ne_of_lt p1.lt) (Nat.ne_of_lt (Nat.lt_succ_of_lt p2.lt)), ⟨hz, hTI, ⟨_, _, hTO⟩, iter_new h1, iter_new h2⟩, fun c hc => ?_, q⟩
      have e' : c = s1.heap.objs.size + 4 ∨ c = s1.heap.objs.size + 3 ∨ c = s1.heap.objs.size ∨ c = s1.heap.objs.size + 1 ∨ c = s1.heap.objs.size + 2 := by simpa using hc
      have hle : s1.heap.objs.size ≤ c := by
        rcases e' with z | z | z | z | z
        · rw [z]; exact Nat.le_add_right _ _
        · rw [z]; exact Nat.le_add_right _ _
        · rw [z]; exact Nat.le_refl _
        · rw [z]; exact Nat.le_add_right _ _
        · rw [z]; exact Nat.le_add_right _ _
      exact I1.fpOk hle (I1.hok.fresh hle)
end
end Cf
/-! Cf, part U: defs that hold generator expressions; the end with their tables. -/
namespace Cf
open PySem PySem.Spec PyProof.Rows L2 GxR LamX

section
variable {P : Program} {w : World} {K : PySem.W.Frag} {mg : Str → Option Value} {base : Heap} {tabs : List Addr}
/-- THE RULE for a def whose code object is known -/
theorem Fun.okC {x qual : Str} {st : Stmt} {f c : Addr} {fd : FuncData} {N ps : List Str} {k : Nat} {sp : Sp} (F : Fun K x qual st f fd) (hcd : fd.code = .ref c) (S : FnScope N ps (defScope st)) (len : ∀ vs H Q E, sp vs H Q E → vs.length = ps.length)
    (hbody : ∀ (A : Around) (outer : List Env) (s : Shared) (H : Hp) (vs : List V) (Q : VK) (E : XK), Room k (A.deeper (envOfC qual (defScope st) s.heap.objs.size f (.ref c))) → sp vs H Q E →
      ∃ t, PSs (cxOf CX0 P w K mg base N qual (defScope st) f (.ref c) A outer s H E).nox (defBody st) t ∧ t { nx := fun _ H' => Q .non H', rt := Q } (start N vs) H) : FnOk P w K mg base CX0 (k + 1) f fd ps sp := by
  obtain ⟨oc, od, kV, doc, pm, an, cdv, ct, osl, rfl, lk, hcd'⟩ := F.ex
  have e : cdv = .ref c := hcd
  subst e
  refine fn_of lk hcd' S len fun A outer s H vs Q E hr hsp => ?_
  obtain ⟨t, h, q⟩ := hbody A outer s H vs Q E hr hsp
  exact ⟨t, h.nox, q⟩
theorem fn0C {x qual : Str} {st : Stmt} {f c : Addr} {fd : FuncData} {N ps : List Str} {k : Nat} {B : Mo Out} (F : Fun K x qual st f fd) (hcd : fd.code = .ref c) (S : FnScope N ps (defScope st)) (hp : ps.length ≤ N.length)
    (hbody : ∀ (A : Around) (outer : List Env) (s : Shared) (H : Hp) (E : XK) (p : Hp), Room k (A.deeper (envOfC qual (defScope st) s.heap.objs.size f (.ref c))) →
      PBs (cxOf CX0 P w K mg base N qual (defScope st) f (.ref c) A outer s H E).nox ⟨p, [], tabs, fun _ _ => False⟩ (defBody st) B) : FnOk P w K mg base CX0 (k + 1) f fd ps (sp0 K tabs ps.length (runF N.length B)) := by
  refine Fun.okC F hcd S (fun vs H Q E ⟨G, ds, _, _, h1, h2, _⟩ => h2.length.trans h1) (fun A outer s H vs Q E hr h => ?_)
  obtain ⟨G, ds, h1, h2, h3, h4, r, h5, h6⟩ := h
  refine ⟨_, hbody A outer s H E _ hr, _, G, sr_start (W := fun _ _ => False) h1 h2 h4 (by omega), ?_⟩
  have new : ∀ {H' G' : Hp}, Sub G G' → (∀ P ∈ tabs, TabOk H' P ∧ G' P = none) → ∀ a xs, H' a = some (.lst xs) → G' a = none → privOf tabs (fun _ => False) H G a = none → a ∉ ([] : List Addr) → H a = none := fun sG tb a xs k1 k2 k3 _ => by
    refine privOf_none k3 (sub_none sG k2) (fun z => ?_) id
    obtain ⟨⟨ps', e, _⟩, _⟩ := tb a z
    rw [e] at k1
    cases k1
  have kept : ∀ {env' : Fv} {σ' : L2.St} {H' G' : Hp}, SR K ⟨privOf tabs (fun _ => False) H G, [], tabs, fun _ _ => False⟩ env' σ' H' G' → Kept tabs (fun _ => False) H G H' G' := fun h b o e1 e2 e3 e4 => by
    have e5 : privOf tabs (fun _ => False) H G b = some o := by
      unfold privOf
      rw [if_pos ⟨e2, e3, id⟩]
      exact e1
    exact ⟨h.prot b o e5, h.dj b (ne_none_of e5)⟩
  unfold runF at h5
  unfold wpM
  cases z : (B (env0 N.length (ds.map .sh)) : Res Out) with
  | stuck => rw [z] at h5; cases h5
  | exc c e => rw [z] at h5; cases h5
  | ok o e =>
    rw [z] at h5
    unfold finF at h5
    cases o with
    | nx =>
      cases h5
      exact fun σ' H' G' h s => h6 H' G' .non s h.sub h.tab (kept h) .non
    | rt r1 =>
      have h7 : outV (.rt r1) e = some r := by
        cases y : outV (.rt r1) e with
        | none => simp only [y] at h5; cases h5
        | some r2 => simp only [y] at h5; cases h5; rfl
      exact fun σ' H' G' v h s q => h6 H' G' v s h.sub h.tab (kept h) (retV_ok h q h7 (new s h.tab))
    | bk => cases h5
    | ct => cases h5
end

/-- the tables of the defs that the top has made are empty at the law's call -/
theorem walk_owns {l : PySem.W.OpenLaw} {n k : Nat} {q : Program} {loose : List Str} {XP : (Str → Option Value) → Heap → Prop} {YP : World → Heap → Prop} {d : DefRec} {K : Params → PySem.W.Frag} {CX : World → CXT} {x : Str}
    (hn : l.most = some n) (hn2 : n ≤ sizeLine) (hdf : d.params.defaults = []) (hr : Room k callerA) (hY : ∀ (w : World) (h : Heap), YP w h → (K w.params).In h)
    (F : ∀ (w : World) (mg : Str → Option Value) (fa : Addr) (h : Heap), (K w.params).In h → h.Ns mainGlobals mg → mg d.name = some (.ref fa) →
      (∀ (y : Str) (f : Addr), ((recsOf q).any fun e => e.name == y) = true → mg y = some (.ref f) → OwnTab (K w.params) f h) → LawAtS l w (K w.params) (CX w) k n x mg fa h)
    (hCX : ∀ (w : World) (H : Hp) (s : Shared) (e : Value) (s' : Shared), CX w [] H s (fun _ _ _ => False) e s' → False) :
    PySem.W.WalkO q loose XP YP l.row.toRowW d [] (fun f vs => PySem.call f vs) := by
  refine Att.attach_callB hn hdf fun w s₀ s₁ mg mb fa o pm cd doc a vs ns G Y ho hd hcd hmg hobj hints hlen hbits hg => ?_
  have KX := hY w _ Y
  have own : ∀ (y : Str) (f : Addr), ((recsOf q).any fun e => e.name == y) = true → mg y = some (.ref f) → OwnTab (K w.params) f s₁.heap := fun y f hrec hmy c P o1 fd1 e dd vs1 sl k1 k2 k3 k4 k5 => by
    obtain ⟨dL, hm, hn1⟩ := List.any_eq_true.mp hrec
    have hn2 : dL.name = y := beq_iff_eq.mp hn1
    obtain ⟨a', o', fd', c', P', h1, h2, h3, h4, h5, h6⟩ := G.T.tab dL hm
    rw [hn2, hmy] at h1
    cases h1
    have g1 := KX _ _ k1
    rw [g1] at h2
    cases h2
    rw [k2] at h3
    cases h3
    rw [k3] at h4
    cases h4
    obtain ⟨⟨oc, vc, e1, _, e3, e4⟩, hP⟩ := h6
    have g2 := KX _ _ k4
    rw [g2] at e1
    cases e1
    cases e3
    rw [k5] at e4
    cases e4
    exact hP
  obtain ⟨fd, cs, sp, hT, nT, C, hb, hsp, hF⟩ := F w mg fa _ KX G.T.g hmg own
  exact law_callTs KX G.T.g G.T.b G.T.builtins G.T.nolimit hg hT nT C G.T.bmain hobj hints (Nat.le_trans hlen hn2) hr hF hb (fun H hH hS => hsp H a ns hlen hbits hH hS) fun H e s' => hCX w H s₁ e s'

/-! ### constants of the module: texts, tuples of the written part -/
def mapO {α β : Type} (f : α → Option β) : List α → Option (List β)
  | [] => some []
  | u :: us => match f u with
    | some d => (mapO f us).map (d :: ·)
    | none => none
/-- a value of the written part -/
def readK (K : PySem.W.Frag) : Nat → Value → Option PyData
  | 0, _ => none
  | n + 1, u => match u with
    | .none => some .none
    | .bool b => some (.bool b)
    | .int i _ => some (.int i)
    | .str x _ => some (.str x)
    | .ref a => match K.lookup a with
      | some o => match o.cls, o.data with
        | .type c, .seq its _ => if c = "tuple" ∧ its.size ≤ sizeLine then (mapO (readK K n) its.toList).map .tuple else none
        | _, _ => none
      | _ => none
    | _ => none
theorem mapO_dq {K : PySem.W.Frag} {f : Value → Option PyData} (hf : ∀ u d, f u = some d → ∃ v, RelV v u ∧ Dq K (fun _ => none) v d) : ∀ (us : List Value) (ds : List PyData), mapO f us = some ds → ∃ vs, Vals vs us ∧ DqAll K (fun _ => none) vs ds
  | [], ds, h => by simp only [mapO, Option.some.injEq] at h; subst h; exact ⟨[], .nil, .nil⟩
  | u :: us, ds, h => by
    unfold mapO at h
    split at h
    · rename_i d e
      simp only [Option.map_eq_some_iff] at h
      obtain ⟨ds', h1, rfl⟩ := h
      obtain ⟨v, r, q⟩ := hf u d e
      obtain ⟨vs, r', q'⟩ := mapO_dq hf us ds' h1
      exact ⟨v :: vs, .cons r r', .cons q q'⟩
    · cases h
theorem readK_dq {K : PySem.W.Frag} : ∀ (n : Nat) (u : Value) (d : PyData), readK K n u = some d → ∃ v, RelV v u ∧ Dq K (fun _ => none) v d
  | 0, u, d, h => by simp [readK] at h
  | n + 1, u, d, h => by
    unfold readK at h
    split at h
    · simp only [Option.some.injEq] at h; subst h; exact ⟨.non, rfl, .non⟩
    · simp only [Option.some.injEq] at h; subst h; exact ⟨.bl _, rfl, .bl _⟩
    · simp only [Option.some.injEq] at h; subst h; exact ⟨.int _, ⟨_, rfl⟩, .int _⟩
    · simp only [Option.some.injEq] at h; subst h; exact ⟨.str _, ⟨_, rfl⟩, .str _⟩
    · rename_i a
      split at h
      · rename_i o e
        split at h
        · rename_i c its m e1 e2
          split at h
          · rename_i hz
            simp only [Option.map_eq_some_iff] at h
            obtain ⟨ds, h1, rfl⟩ := h
            obtain ⟨vs, r, q⟩ := mapO_dq (readK_dq n) _ _ h1
            exact ⟨.ref a, rfl, .tup (.inr ⟨o, its, m, e, by rw [e1, hz.1], e2, hz.2, r⟩) q⟩
          · cases h
        · cases h
      · cases h
    · cases h
theorem ev_globD {X : Cx} {fr : Fr} {x : Str} {pos : Pos} {d : PyData} (hg : Gl X x) (hm : ∃ u n, X.mg x = some u ∧ readK X.K n u = some d) (hdb : (x == ("__debug__" : Str)) = false := by decide) : PEv X fr (.Name x pos) (constF d) := by
  obtain ⟨u, n, h, e⟩ := hm
  obtain ⟨v, r, q⟩ := readK_dq n u d e
  exact ev_glob hg h r q hdb
end Cf
namespace Cf
open PySem PySem.Spec PyProof.Rows L2
theorem hid_eb {X : Cx} {fr : Fr} {e : Expr} {F : Mo Bool} (h : PBv X fr e F) : PBv X fr e (hide F) := by
  rw [hide_eq]
  exact h
end Cf
namespace Cf
open PySem PySem.Spec PyProof.Rows L2
theorem ev_call0 {X : Cx} {fr : Fr} {x : Str} {p pos : Pos} {k : Nat} {f : Addr} {fd : FuncData} {ps : List Str} {g : List PyData → FnR} (F : FnOk X.prog X.w X.K X.mg X.base CX0 k f fd ps (sp0 X.K fr.tabs 0 g)) (hr : Room k X.A) (hg : Gl X x) (hm : X.mg x = some (.ref f)) (hk : PySem.W.keepIn X.K (.ref f) = true) (hb : Binds X.K fd ps [])
    (hdb : (x == ("__debug__" : Str)) = false := by decide) :
    PEv X fr (.Call (.Name x p) [] [] pos) (callF 0 g nilF) :=
  weakE (pe_call0 F hr hg hm hk hb .nil (pass0) hdb) fun σ H Q ⟨env, G, h, w⟩ => by
    have w' : wpM (endF (g [])) env (fun r env' => ∀ H' G' v, SR X.K fr env' σ H' G' → Sub G G' → RvOk X.K fr env' σ H' G' v r → Q v H') (fun c env' => ∀ H' G', SR X.K fr env' σ H' G' → Sub G G' → fr.W c H') := w
    show sp0 X.K fr.tabs 0 g ([] ++ []) H Q E0
    cases z : g [] with
    | exc c => rw [z] at w'; exact w'.elim
    | stuck => rw [z] at w'; exact w'.elim
    | ok r =>
      rw [z] at w'
      exact ⟨G, [], h.sub, h.tab, rfl, .nil, r, z, fun H' G' v sG sH t k q => w' H' G' v (h.kept sG sH t k) sG (q.ok h)⟩
end Cf
/-! Cf, part V: how generator expressions, pairs, loops are reckoned. -/
namespace Cf
open PySem PySem.Spec PyProof.Rows L2

@[simp ↓] theorem pkI_app (F : Mo Rv) (e : Fv) : pkI F e = (do
  let r ← F
  let d ← peek (hold r)
  liftO (itemsG d) : Mo (List PyData)) e := Eq.trans rfl rfl
@[simp ↓] theorem enumI_app (F : Mo Rv) (e : Fv) : enumI F e = (do
  let r ← F
  let d ← force r
  let ds ← liftO (itemsG d)
  pure (enumD ds) : Mo (List PyData)) e := Eq.trans rfl rfl
@[simp ↓] theorem zipI_app (Fs : Mo (List Rv)) (e : Fv) : zipI Fs e = (do
  let rs ← Fs
  let ds ← forces rs
  liftO (zipG ds) : Mo (List PyData)) e := Eq.trans rfl rfl
/-- the answer of all, any over one name -/
def quantB (stop : Bool) (p : PyData → Bool) (ds : List PyData) : Bool := if stop = true then ds.any p else ds.all p
theorem quantL_one {stop : Bool} {v : Nat} {C B : Mo Bool} {c : Fv} {q p : PyData → Bool} :
    ∀ (ds : List PyData) (x : Sl), (∀ d ∈ ds, C (c.set v (.sh d)) = .ok (q d) (c.set v (.sh d))) → (∀ d ∈ ds, q d = true → B (c.set v (.sh d)) = .ok (p d) (c.set v (.sh d))) →
    ∃ e', quantL stop (toSlot v) C B ds (c.set v x) = .ok (quantB stop (fun d => if stop = true then q d && p d else !q d || p d) ds) e'
  | [], x, _, _ => ⟨c.set v x, by cases stop <;> rfl⟩
  | d :: ds, x, hC, hB => by
    have e1 : (c.set v x).set v (.sh d) = c.set v (.sh d) := by rw [List.set_set]
    obtain ⟨e', ih⟩ := quantL_one (stop := stop) ds (.sh d) (fun y hy => hC y (by simp [hy])) (fun y hy => hB y (by simp [hy]))
    unfold quantL
    simp only [thenU, toSlot, storeF, e1, bind_app, hC d (by simp)]
    cases hq : q d with
    | false =>
      simp only [Bool.false_eq_true, if_false]
      exact ⟨e', by rw [ih]; cases stop <;> simp [quantB, hq]⟩
    | true =>
      simp only [if_true, bind_app, hB d (by simp) hq]
      by_cases hs : p d = stop
      · refine ⟨c.set v (.sh d), ?_⟩
        rw [if_pos hs]
        cases stop <;> simp [quantB, hq, hs]
      · refine ⟨e', ?_⟩
        rw [if_neg hs, ih]
        cases stop <;> simp_all [quantB]
/-- all(.. for x in ..) -/
theorem all_one {v : Nat} {ixs : List Nat} {m : Nat} {Io : Mo (List PyData)} {B : Mo Bool} {e e' : Fv} {ds : List PyData} (p : PyData → Bool) (hI : Io e = .ok ds e') (hv : (capE ixs m e')[v]? = some .un)
    (hB : ∀ d ∈ ds, B ((capE ixs m e').set v (.sh d)) = .ok (p d) ((capE ixs m e').set v (.sh d))) : quantF false ixs m Io (toSlot v) yesF B e = .ok (ds.all p) e' := by
  unfold quantF
  simp only [bind_app, hI]
  unfold inGen
  have e0 : capE ixs m e' = (capE ixs m e').set v .un := by
    obtain ⟨h1, h2⟩ := List.getElem?_eq_some_iff.mp hv
    rw [← h2]
    simp
  obtain ⟨e'', h⟩ := quantL_one (stop := false) (v := v) (C := yesF) (B := B) (c := capE ixs m e') (q := fun _ => true) (p := p) ds .un (fun d _ => yesF_app _) (fun d hd _ => hB d hd)
  rw [← e0] at h
  rw [h]
  simp [quantB]
theorem any_one {v : Nat} {ixs : List Nat} {m : Nat} {Io : Mo (List PyData)} {B : Mo Bool} {e e' : Fv} {ds : List PyData} (p : PyData → Bool) (hI : Io e = .ok ds e') (hv : (capE ixs m e')[v]? = some .un)
    (hB : ∀ d ∈ ds, B ((capE ixs m e').set v (.sh d)) = .ok (p d) ((capE ixs m e').set v (.sh d))) : quantF true ixs m Io (toSlot v) yesF B e = .ok (ds.any p) e' := by
  unfold quantF
  simp only [bind_app, hI]
  unfold inGen
  have e0 : capE ixs m e' = (capE ixs m e').set v .un := by
    obtain ⟨h1, h2⟩ := List.getElem?_eq_some_iff.mp hv
    rw [← h2]
    simp
  obtain ⟨e'', h⟩ := quantL_one (stop := true) (v := v) (C := yesF) (B := B) (c := capE ixs m e') (q := fun _ => true) (p := p) ds .un (fun d _ => yesF_app _) (fun d hd _ => hB d hd)
  rw [← e0] at h
  rw [h]
  simp [quantB]
/-- a loop that returns k at the first d with p, else goes on and leaves the slots but v as they were -/
theorem loop_first {v : Nat} {B : Mo Out} {c : Fv} {p : PyData → Bool} {r : PyData → Rv} :
    ∀ (ds : List PyData) (x : Sl), (∀ d ∈ ds, ∃ y, B (c.set v (.sh d)) = if p d = true then .ok (.rt (r d)) (c.set v y) else .ok .nx (c.set v y)) →
    ∃ e' , loopF (toSlot v) B ds (c.set v x) = (match ds.find? p with
      | some d => .ok (.rt (r d)) (c.set v e')
      | none => .ok .nx (c.set v e'))
  | [], x, _ => ⟨x, rfl⟩
  | d :: ds, x, h => by
    obtain ⟨y, hy⟩ := h d (by simp)
    have e1 : (c.set v x).set v (.sh d) = c.set v (.sh d) := by rw [List.set_set]
    rw [loop_cons]
    simp only [thenU, toSlot, storeF, e1, hy]
    cases hp : p d with
    | true => exact ⟨y, by simp [hp]⟩
    | false =>
      obtain ⟨e', ih⟩ := loop_first ds y (fun z hz => h z (by simp [hz]))
      exact ⟨e', by simp [hp, ih]⟩
end Cf
namespace Cf
open PySem PySem.Spec PyProof.Rows L2
/-- enumerate from j -/
def en (j : Int) : List PyData → List PyData
  | [] => []
  | d :: ds => .tuple [.int j, d] :: en (j + 1) ds
theorem enumD_go : ∀ (ds : List PyData) (j : Nat), ds.mapIdx (fun i d => PyData.tuple [.int ((j + i : Nat) : Int), d]) = en j ds
  | [], j => rfl
  | d :: ds, j => by
    rw [List.mapIdx_cons]
    show _ :: _ = _ :: en ((j : Int) + 1) ds
    congr 1
    have e : ((j : Int) + 1) = ((j + 1 : Nat) : Int) := by omega
    rw [e, ← enumD_go ds (j + 1)]
    congr 1
    funext i d
    rw [show j + (i + 1) = j + 1 + i by omega]
theorem enumD_eq (ds : List PyData) : enumD ds = en 0 ds := by
  have := enumD_go ds 0
  simpa [enumD] using this
end Cf
namespace Cf
open PySem PySem.Spec PyProof.Rows L2
/-- a comprehension that nothing passes -/
theorem lc_none {v : Nat} {Io : Mo (List PyData)} {C : Mo Bool} {F : Mo Rv} {e0 e : Fv} {ds : List PyData} (hI : Io e0 = .ok ds e) (hv : v < e.length) (no : noOwn [v] e = true) (hl : ds.length ≤ sizeLine)
    (hC : ∀ d ∈ ds, C (e.set v (.sh d)) = .ok false (e.set v (.sh d))) : lcF [v] Io (toSlot v) C F e0 = .ok (.fr []) e := by
  have := lc_one (F := F) (fun _ => false) id hI hv no hl hC fun _ _ z => by cases z
  rw [List.filter_eq_nil_iff.mpr (by simp)] at this
  exact this
theorem seqI_sh {i : Nat} {e : Fv} {ds : List PyData} (h : e[i]? = some (.sh (.list ds))) : seqI (readF i) e = .ok ds e := by
  simp [h]
theorem seqI_tup {i : Nat} {e : Fv} {ds : List PyData} (h : e[i]? = some (.sh (.tuple ds))) : seqI (readF i) e = .ok ds e := by
  simp [h]
theorem seqI_own {i : Nat} {e : Fv} {ds : List PyData} (h : e[i]? = some (.own none ds)) : seqI (readF i) e = .ok ds (e.set i (.sh (.list ds))) := by
  simp [h]
theorem eqG_empty : eqG (.list []) (.list []) = some (.sh (.bool true)) := eqG_nil0
theorem neG_empty : neG (.list []) (.list []) = some (.sh (.bool false)) := by
  simp [neG, eqOk, PyData.canLay0, PyData.canLayAll0, PyData.depth, PyData.depthAll, PyData.eqv, PyData.eqvAll]
theorem neG_nil {ds : List PyData} (h : ∀ d ∈ ds, d.canLay0 = true) : neG (.list ds) (.list []) = some (.sh (.bool (!ds.isEmpty))) := by
  have e := eqG_nil h
  unfold eqG at e
  unfold neG
  split at e
  · rename_i c
    rw [if_pos c]
    simp only [Option.some.injEq, Rv.sh.injEq, PyData.bool.injEq] at e
    rw [e]
  · cases e
end Cf
namespace Cf
open PySem PySem.Spec PyProof.Rows L2
theorem lcLoop_map {α : Type} {D : α → PyData} {v : Nat} {C : Mo Bool} {F : Mo Rv} {e : Fv} (hv : v < e.length) {p : α → Bool} {g : α → PyData} :
    ∀ (ds : List α) (acc : List PyData) (e' : Fv), e'.set v .un = e.set v .un → acc.length + ds.length ≤ sizeLine →
    (∀ d ∈ ds, C (e.set v (.sh (D d))) = .ok (p d) (e.set v (.sh (D d)))) →
    (∀ d ∈ ds, p d = true → (F >>= force) (e.set v (.sh (D d))) = .ok (g d) (e.set v (.sh (D d)))) →
    ∃ e'', e''.set v .un = e.set v .un ∧ lcLoop [v] (toSlot v) C F (ds.map D) acc e' = .ok (acc ++ (ds.filter p).map g) e''
  | [], acc, e', he, _, _, _ => ⟨e', he, by simp [lcLoop]⟩
  | d :: ds, acc, e', he, hl, hC, hF => by
    have e1 : (e.set v Sl.un).set v (.sh (D d)) = e.set v (.sh (D d)) := by rw [List.set_set]
    rw [List.map_cons]
    unfold lcLoop
    simp only [wipeE, he, thenU, toSlot, storeF, e1, bind_app, hC d (by simp)]
    have hl' : acc.length + (ds.length + 1) ≤ sizeLine := by simpa using hl
    by_cases hp : p d = true
    · have f := hF d (by simp) hp
      simp only [hp, if_true]
      rw [bind_app] at f
      rw [bind_app]
      cases z : (F (e.set v (.sh (D d))) : Res Rv) with
      | exc c e2 => rw [z] at f; simp at f
      | stuck => rw [z] at f; simp at f
      | ok r e2 =>
        rw [z] at f
        simp only [f, bind_app] at f ⊢
        rw [if_pos (by omega)]
        obtain ⟨e'', h1, h2⟩ := lcLoop_map hv ds (acc ++ [g d]) (e.set v (.sh (D d))) (by rw [List.set_set]) (by simp; omega) (fun x hx => hC x (by simp [hx])) (fun x hx => hF x (by simp [hx]))
        exact ⟨e'', h1, by rw [h2]; simp [hp]⟩
    · simp only [hp, if_false]
      obtain ⟨e'', h1, h2⟩ := lcLoop_map hv ds acc (e.set v (.sh (D d))) (by rw [List.set_set]) (by omega) (fun x hx => hC x (by simp [hx])) (fun x hx => hF x (by simp [hx]))
      exact ⟨e'', h1, by simp [h2, hp]⟩
theorem lc_map {α : Type} {D : α → PyData} {v : Nat} {Io : Mo (List PyData)} {C : Mo Bool} {F : Mo Rv} {e0 e : Fv} {l : List α} (p : α → Bool) (g : α → PyData) (hI : Io e0 = .ok (l.map D) e) (hv : v < e.length) (no : noOwn [v] e = true) (hl : l.length ≤ sizeLine)
    (hC : ∀ d ∈ l, C (e.set v (.sh (D d))) = .ok (p d) (e.set v (.sh (D d))))
    (hF : ∀ d ∈ l, p d = true → (F >>= force) (e.set v (.sh (D d))) = .ok (g d) (e.set v (.sh (D d)))) : lcF [v] Io (toSlot v) C F e0 = .ok (.fr ((l.filter p).map g)) e := by
  obtain ⟨e'', h1, h2⟩ := lcLoop_map (D := D) hv l [] e rfl (by simpa using hl) hC hF
  have hb : restE e [v] e'' = e := by
    simp only [restE]
    have : ∀ x, e''.set v x = e.set v x := fun x => by
      have := congrArg (fun l : Fv => l.set v x) h1
      simpa [List.set_set] using this
    rw [this, List.getElem?_eq_getElem hv]
    simp
  unfold lcF
  simp only [bind_app, hI]
  unfold block
  rw [if_pos no, h2]
  simp only [hb, pure_app, List.nil_append]
end Cf
/-! Cf, part X: sum, min, max, sorted, gcd; order of alike data. -/
namespace Cf
open PySem PySem.Spec PyProof.Rows L2 PySem.W

/-! ### sum of ints -/
def intsOf : List PyData → Option (List Int)
  | [] => some []
  | .int i :: ds => (intsOf ds).map (i :: ·)
  | _ :: _ => none
def sumG : List PyData → Option Rv
  | [.list ds] => (intsOf ds).map fun ns => .sh (.int ns.sum)
  | [.tuple ds] => (intsOf ds).map fun ns => .sh (.int ns.sum)
  | _ => none
theorem intsOf_map (ns : List Int) : intsOf (ns.map .int) = some ns := by
  induction ns with
  | nil => rfl
  | cons n ns ih => rw [List.map_cons, intsOf, ih]; rfl
theorem intsOf_some : ∀ {ds : List PyData} {ns : List Int}, intsOf ds = some ns → ds = ns.map .int
  | [], ns, h => by cases h; rfl
  | d :: ds, ns, h => by
    cases d <;> simp only [intsOf] at h <;> try cases h
    cases q : intsOf ds with
    | none => rw [q] at h; cases h
    | some ms => rw [q] at h; cases h; rw [intsOf_some q]; rfl
theorem dq_intsV {K : PySem.W.Frag} {G : Hp} : ∀ {ns : List Int} {xs : List V}, DqAll K G xs (ns.map .int) → xs = ns.map V.int
  | [], xs, h => by cases h; rfl
  | n :: ns, xs, h => by
    cases h with
    | cons h1 h2 => rw [dq_int h1, dq_intsV h2]; rfl
section
variable {X : Cx}
def rSumT (K : PySem.W.Frag) : List V → Hp → VK → Prop := fun vs H Q => ∃ (a : Addr) (ns : List Int), vs = [V.ref a] ∧ SqT K H a (ns.map V.int) ∧ Q (.int ns.sum) H
theorem cr_sumT (hc : X.calm = true) : CallR X (.builtin "sum") (rSumT X.K) := by
  intro pins s σ H vs us Q I r h
  obtain ⟨a, ns, rfl, hs, q⟩ := h
  obtain ⟨its, rv, hl, _⟩ := I.tuple hs
  rw [Vals.ref1 r]
  have hi := rv.ints
  obtain ⟨xs, hx⟩ := hi.allInts.items
  have hn : numsOf its.toArray.toList = ns := by rw [show its.toArray.toList = its from rfl, hi.numsOf]
  have hl' : s.heap.IsTuple a its.toArray := hl
  rw [hx] at hl' hn
  rw [nums_intItems] at hn
  refine ktm_sumG (I.ok.hd hc) hl' fun h' tk t' hk => ?_
  rw [preSum_eq, List.take_of_length_le (by simp), hn]
  exact ⟨.int _, H, I.kept hk, ⟨_, rfl⟩, q⟩
theorem opN_sum (hc : X.calm = true) : OpN X (.builtin "sum") sumG := by
  refine ⟨_, (cr_sum hc).or (cr_sumT hc), fun vs H G ds res Q s p e q => ?_⟩
  match ds, e with
  | [.list ds], e =>
    simp only [sumG, Option.map_eq_some_iff] at e
    obtain ⟨ns, e1, rfl⟩ := e
    have := intsOf_some e1
    subst this
    obtain ⟨v, rfl, p1⟩ := pks1 p
    obtain ⟨a, xs, rfl, h1, h2⟩ := p1
    rw [dq_intsV h2] at h1
    exact .inl ⟨a, ns, rfl, .of h1, q H G _ (.refl s) (.int _)⟩
  | [.tuple ds], e =>
    simp only [sumG, Option.map_eq_some_iff] at e
    obtain ⟨ns, e1, rfl⟩ := e
    have := intsOf_some e1
    subst this
    obtain ⟨v, rfl, p1⟩ := pks1 p
    obtain ⟨a, xs, rfl, h1, h2⟩ := dq_tup p1
    rw [dq_intsV h2] at h1
    exact .inr ⟨a, ns, rfl, s.sqT h1, q H G _ (.refl s) (.int _)⟩
end

/-! ### alike data -/
def alikesB (ds : List PyData) : Bool := (ds.all fun a => ds.all fun b => alike a b) && ds.all fun a => !isNoneD a
def alikeOk (ds : List PyData) : Bool := alikesB ds && PyData.canLayAll0 ds && decide (PyData.depthAll ds ≤ 60)
theorem alikeOk_p {ds : List PyData} (h : alikeOk ds = true) : AlikeAll ds ∧ PyData.canLayAll0 ds = true ∧ PyData.depthAll ds ≤ 60 := by
  simp only [alikeOk, alikesB, Bool.and_eq_true, decide_eq_true_eq, List.all_eq_true] at h
  refine ⟨⟨h.1.1.1, fun x hx e => ?_⟩, h.1.2, h.2⟩
  have := h.1.1.2 x hx
  rw [e] at this
  cases this
theorem each_of {K : PySem.W.Frag} {G : Hp} : ∀ {xs : List V} {us : List Value} {ds : List PyData}, Vals xs us → DqAll K G xs ds → EachIs (fun u d => ∃ x, RelV x u ∧ Dq K G x d) us ds
  | _, _, _, .nil, .nil => .nil
  | _, _, _, .cons r t, .cons d e => .cons ⟨_, r, d⟩ (each_of t e)
theorem of_each {K : PySem.W.Frag} {G : Hp} : ∀ {us : List Value} {ds : List PyData}, EachIs (fun u d => ∃ x, RelV x u ∧ Dq K G x d) us ds → ∃ xs, Vals xs us ∧ DqAll K G xs ds
  | _, _, .nil => ⟨[], .nil, .nil⟩
  | _, _, .cons ⟨x, r, d⟩ t => by
    obtain ⟨xs, h1, h2⟩ := of_each t
    exact ⟨x :: xs, .cons r h1, .cons d h2⟩
theorem each_reads {h : Heap} : ∀ {vs : List Value} {ds : List PyData} {as : List Addr}, ReadsAll h vs ds as → EachIs (fun v d => ∃ as, Reads h v d as) vs ds
  | _, _, _, .nil => .nil
  | _, _, _, .cons r t => .cons ⟨_, r⟩ (each_reads t)

/-! ### min, max -/
def minG : List PyData → Option Rv
  | [.list (x :: xs)] => if alikeOk (x :: xs) = true then some (.sh (minD x xs)) else none
  | [.tuple (x :: xs)] => if alikeOk (x :: xs) = true then some (.sh (minD x xs)) else none
  | _ => none
def maxG : List PyData → Option Rv
  | [.list (x :: xs)] => if alikeOk (x :: xs) = true then some (.sh (maxD x xs)) else none
  | [.tuple (x :: xs)] => if alikeOk (x :: xs) = true then some (.sh (maxD x xs)) else none
  | _ => none
section
variable {X : Cx}
/-- b: a tuple -/
def rBest (X : Cx) (b : Bool) (f : PyData → List PyData → PyData) : List V → Hp → VK → Prop := fun vs H Q => ∃ (a : Addr) (xs : List V) (d : PyData) (ds : List PyData) (G : Hp), Sub G H ∧ vs = [V.ref a] ∧ SrcAt X.K b H a xs ∧ DqAll X.K G xs (d :: ds) ∧ alikeOk (d :: ds) = true ∧
  ∀ z, Dq X.K G z (f d ds) → Q z H
theorem best_take {K : PySem.W.Frag} {G : Hp} {f : PyData → PyData → Bool} {xs : List V} {its : List Value} {d : PyData} {ds : List PyData} {v : Value} (rv : Vals xs its) (hd : DqAll K G xs (d :: ds))
    (hv : its.toArray[argBest (fun i j => f ((d :: ds).getD i .none) ((d :: ds).getD j .none)) (its.toArray.size - 1)]? = some v) : ∃ x, RelV x v ∧ Dq K G x (ds.foldl (fun a y => if f y a then y else a) d) := by
  have hl : its.length = ds.length + 1 := by rw [← rv.length, hd.length]; rfl
  have e1 : its.toArray.size - 1 = ds.length := by simp [hl]
  rw [e1] at hv
  obtain ⟨i1, i2⟩ := argBest_fold f PyData.none d ds ds.length (Nat.le_refl _)
  rw [List.take_length] at i2
  generalize hj : argBest (fun i j => f ((d :: ds).getD i .none) ((d :: ds).getD j .none)) ds.length = j at hv i1 i2
  have hv' : its[j]? = some v := by simpa using hv
  have hj2 : j < (d :: ds).length := by simp only [List.length_cons]; omega
  obtain ⟨x, h1, h2⟩ := hd.get (i := j) (d := (d :: ds)[j]) (List.getElem?_eq_getElem hj2)
  obtain ⟨u, hu, ru⟩ := rv.get h1
  rw [hv'] at hu
  cases hu
  refine ⟨x, ru, ?_⟩
  rw [← i2, List.getD_eq_getElem?_getD, List.getElem?_eq_getElem hj2]
  exact h2
theorem cr_minB (hc : X.calm = true) (hu : X.A.units + 100 < cLine) (b : Bool) : CallR X (.builtin "min") (rBest X b minD) := by
  intro pins s σ H vs us Q I r h
  obtain ⟨a, xs, d, ds, G, sG, rfl, hs, hd, hok, q⟩ := h
  obtain ⟨its, rv, hl⟩ := Inv.src I hs
  obtain ⟨al, cl, dp⟩ := alikeOk_p hok
  rw [Vals.ref1 r]
  obtain ⟨as, hr⟩ := Dp.readsAll I (d :: ds) _ its (canLay_dps (d :: ds) cl _ (Sub.dqAll sG _ _ hd)) rv
  have hn : its.toArray.size = ds.length + 1 := by rw [List.size_toArray, ← rv.length, hd.length]; rfl
  have hr' : ReadsAll s.heap its.toArray.toList (d :: ds) as := hr
  have fin : ∀ (v : Value) (h' : Heap) (tk : Tok), its.toArray[argBest (fun i j => dataLt ((d :: ds).getD i .none) ((d :: ds).getD j .none)) (its.toArray.size - 1)]? = some v → (∀ b o, s.heap.get? b = some o → h'.get? b = some o) →
      ∃ x H', Inv X pins σ H' { s with heap := h', toks := tk } ∧ RelV x v ∧ Q x H' := fun v h' tk hv hk => by
    obtain ⟨x, rx, dx⟩ := best_take (f := dataLt) rv hd hv
    exact ⟨x, H, I.kept hk, rx, q x dx⟩
  cases b with
  | false =>
    refine call_min_walkH (iter_listW (A := X.A.in1) (I.ok.hd hc) (show s.heap.IsList a its.toArray from hl) fun s₂ e W st hfp hw hk => ?_)
    refine ⟨_, _, _, _, _, _, _, s.heap, _, rfl, W, st, hfp, by omega, hw, hk, cmpIn_lt (A := X.A.in1) hr' al (by show X.A.units + 1 + _ < _; omega), fun v s' hP m => ?_⟩
    obtain ⟨h', tk, rfl, hk'⟩ := moved_old e rfl m
    exact fin v h' tk hP hk'
  | true =>
    refine call_min_walkH (iter_tupleW (A := X.A.in1) (I.ok.hd hc) (show s.heap.IsTuple a its.toArray from hl) fun s₂ e W st hfp hw hk => ?_)
    refine ⟨_, _, _, _, _, _, _, s.heap, _, rfl, W, st, hfp, by omega, hw, hk, cmpIn_lt (A := X.A.in1) hr' al (by show X.A.units + 1 + _ < _; omega), fun v s' hP m => ?_⟩
    obtain ⟨h', tk, rfl, hk'⟩ := moved_old e rfl m
    exact fin v h' tk hP hk'
theorem cr_maxB (hc : X.calm = true) (hu : X.A.units + 100 < cLine) (b : Bool) : CallR X (.builtin "max") (rBest X b maxD) := by
  intro pins s σ H vs us Q I r h
  obtain ⟨a, xs, d, ds, G, sG, rfl, hs, hd, hok, q⟩ := h
  obtain ⟨its, rv, hl⟩ := Inv.src I hs
  obtain ⟨al, cl, dp⟩ := alikeOk_p hok
  rw [Vals.ref1 r]
  obtain ⟨as, hr⟩ := Dp.readsAll I (d :: ds) _ its (canLay_dps (d :: ds) cl _ (Sub.dqAll sG _ _ hd)) rv
  have hn : its.toArray.size = ds.length + 1 := by rw [List.size_toArray, ← rv.length, hd.length]; rfl
  have hr' : ReadsAll s.heap its.toArray.toList (d :: ds) as := hr
  have fin : ∀ (v : Value) (h' : Heap) (tk : Tok), its.toArray[argBest (fun i j => dataLt ((d :: ds).getD j .none) ((d :: ds).getD i .none)) (its.toArray.size - 1)]? = some v → (∀ b o, s.heap.get? b = some o → h'.get? b = some o) →
      ∃ x H', Inv X pins σ H' { s with heap := h', toks := tk } ∧ RelV x v ∧ Q x H' := fun v h' tk hv hk => by
    obtain ⟨x, rx, dx⟩ := best_take (f := fun x y => dataLt y x) rv hd hv
    exact ⟨x, H, I.kept hk, rx, q x dx⟩
  cases b with
  | false =>
    refine call_max_walkH (iter_listW (A := X.A.in1) (I.ok.hd hc) (show s.heap.IsList a its.toArray from hl) fun s₂ e W st hfp hw hk => ?_)
    refine ⟨_, _, _, _, _, _, _, s.heap, _, rfl, W, st, hfp, by omega, hw, hk, cmpIn_gt (A := X.A.in1) hr' al (by show X.A.units + 1 + _ < _; omega), fun v s' hP m => ?_⟩
    obtain ⟨h', tk, rfl, hk'⟩ := moved_old e rfl m
    exact fin v h' tk hP hk'
  | true =>
    refine call_max_walkH (iter_tupleW (A := X.A.in1) (I.ok.hd hc) (show s.heap.IsTuple a its.toArray from hl) fun s₂ e W st hfp hw hk => ?_)
    refine ⟨_, _, _, _, _, _, _, s.heap, _, rfl, W, st, hfp, by omega, hw, hk, cmpIn_gt (A := X.A.in1) hr' al (by show X.A.units + 1 + _ < _; omega), fun v s' hP m => ?_⟩
    obtain ⟨h', tk, rfl, hk'⟩ := moved_old e rfl m
    exact fin v h' tk hP hk'
theorem opN_best {f : PyData → List PyData → PyData} {nm : String} {g : List PyData → Option Rv} (h : ∀ b, CallR X (.builtin nm) (rBest X b f))
    (hg : ∀ ds r, g ds = some r → ∃ x xs, (ds = [.list (x :: xs)] ∨ ds = [.tuple (x :: xs)]) ∧ alikeOk (x :: xs) = true ∧ r = .sh (f x xs)) : OpN X (.builtin nm) g := by
  refine ⟨_, (h false).or (h true), fun vs H G ds res Q s p e q => ?_⟩
  obtain ⟨x, xs, hd, ok, rfl⟩ := hg ds res e
  rcases hd with rfl | rfl
  · obtain ⟨v, rfl, p1⟩ := pks1 p
    obtain ⟨a, ys, rfl, h1, h2⟩ := p1
    exact .inl ⟨a, ys, x, xs, G, s, rfl, .of h1, h2, ok, fun z hz => q H G z (.refl s) hz⟩
  · obtain ⟨v, rfl, p1⟩ := pks1 p
    obtain ⟨a, ys, rfl, h1, h2⟩ := dq_tup p1
    exact .inr ⟨a, ys, x, xs, G, s, rfl, s.sqT h1, h2, ok, fun z hz => q H G z (.refl s) hz⟩
theorem opN_min (hc : X.calm = true) (hu : X.A.units + 100 < cLine) : OpN X (.builtin "min") minG := by
  refine opN_best (cr_minB hc hu) fun ds r e => ?_
  match ds, e with
  | [.list (x :: xs)], e =>
    simp only [minG] at e
    split at e <;> cases e
    exact ⟨x, xs, .inl rfl, by assumption, rfl⟩
  | [.tuple (x :: xs)], e =>
    simp only [minG] at e
    split at e <;> cases e
    exact ⟨x, xs, .inr rfl, by assumption, rfl⟩
theorem opN_max (hc : X.calm = true) (hu : X.A.units + 100 < cLine) : OpN X (.builtin "max") maxG := by
  refine opN_best (cr_maxB hc hu) fun ds r e => ?_
  match ds, e with
  | [.list (x :: xs)], e =>
    simp only [maxG] at e
    split at e <;> cases e
    exact ⟨x, xs, .inl rfl, by assumption, rfl⟩
  | [.tuple (x :: xs)], e =>
    simp only [maxG] at e
    split at e <;> cases e
    exact ⟨x, xs, .inr rfl, by assumption, rfl⟩
end

/-! ### sorted -/
def sortD (ds : List PyData) : List PyData := ds.mergeSort (dataLe false id)
def isTupD : PyData → Bool
  | .tuple (_ :: _) => true
  | _ => false
def isTup0 : PyData → Bool
  | .tuple _ => true
  | _ => false
def sortableB (ds : List PyData) : Bool := ds.all isTupD || ds.all fun d => !isTup0 d
def sortG : List PyData → Option Rv
  | [.list ds] => if alikeOk ds = true ∧ sortableB ds = true then some (.fr (sortD ds)) else none
  | _ => none
theorem sortable_p {ds : List PyData} (h : sortableB ds = true) (al : AlikeAll ds) : Sortable ds := by
  simp only [sortableB, Bool.or_eq_true, List.all_eq_true] at h
  rcases h with h | h
  · refine .inl fun d hd => ?_
    have := h d hd
    match d, this with
    | .tuple (x :: r), _ => exact ⟨x, r, rfl⟩
  · refine .inr fun d hd => ⟨al.2 d hd, fun xs e => ?_⟩
    have := h d hd
    rw [e] at this
    cases this
section
variable {X : Cx}
def rSortedD (K : PySem.W.Frag) : List V → Hp → VK → Prop := fun vs H Q => ∃ (a : Addr) (xs : List V) (ds : List PyData) (G : Hp), Sub G H ∧ vs = [V.ref a] ∧ SqL K H a xs ∧ DqAll K G xs ds ∧ alikeOk ds = true ∧ sortableB ds = true ∧
  ∀ ys p, DqAll K G ys (sortD ds) → H p = none → Q (.ref p) (upd H p (.lst ys))
theorem cr_sortedD (hu : X.A.units + 100 < cLine) : CallR X (.builtin "sorted") (rSortedD X.K) := by
  intro pins s σ H vs us Q I r h
  obtain ⟨a, xs, ds, G, sG, rfl, hs, hd, hok, hso, q⟩ := h
  obtain ⟨its, rv, hl, hz⟩ := I.list hs
  obtain ⟨al, cl, dp⟩ := alikeOk_p hok
  rw [Vals.ref1 r]
  obtain ⟨as, hr⟩ := Dp.readsAll I ds _ its (canLay_dps ds cl _ (Sub.dqAll sG _ _ hd)) rv
  have hz' : its.length ≤ sizeLine := by rw [← rv.length]; exact hz
  have keep : ∀ b o, s.heap.get? b = some o → (sortingHeap (copyHeap s.heap its) (s.heap.objs.size + 1) its).get? b = some o := fun b o e => sorting_copy_old e
  have dle : ∀ d, d ∈ ds → d.depth ≤ 60 := fun d hm => by
    obtain ⟨j, hj, e⟩ := List.getElem_of_mem hm
    have hj2 : j < its.length := by rw [← rv.length, hd.length]; exact hj
    obtain ⟨bs, _, _, _, z⟩ := readsAll_at hr j its[j] (List.getElem?_eq_getElem hj2)
    rw [List.getD_eq_getElem?_getD, List.getElem?_eq_getElem hj] at z
    simp only [Option.getD_some, e] at z
    omega
  have eR : EachIs (fun v d => ∃ as, Reads (sortingHeap (copyHeap s.heap its) (s.heap.objs.size + 1) its) v d as) its ds := (each_reads hr).mono fun v d ⟨as, r⟩ => ⟨as, Reads.keeps keep r⟩
  have S := SortsAt.data (prog := X.prog) (w := X.w) (A := X.A.in1.in1) (s := { s with heap := sortingHeap (copyHeap s.heap its) (s.heap.objs.size + 1) its }) eR al.1 (sortable_p hso al) (fun d hm => by
    have := dle d hm
    show X.A.units + 1 + 1 + d.depth < cLine
    omega)
  refine sorted_vals hl.isList S hz' ?_
  obtain ⟨ys, v1, v2⟩ := of_each (sortVals_each (rev := false) (β := PyData) (κ := dataKind (sortingHeap (copyHeap s.heap its) (s.heap.objs.size + 1) its) ds) (fun d => keyToks d) (each_of rv hd) (each_keys al.1 eR))
  obtain ⟨ep, he'⟩ := PyProof.Rows.sortedAll_at s.heap its (sortVals (dataKind (sortingHeap (copyHeap s.heap its) (s.heap.objs.size + 1) its) ds) false its its).toArray
  have hlen : ys.length ≤ sizeLine := by
    rw [v1.length, sortVals_length false rfl]
    exact hz'
  exact ⟨.ref _, upd H (s.heap.objs.size + 1) (.lst ys), I.laid (t' := s.toks) (fun _ _ => PyProof.Rows.sortedAll_old) (Nat.le_succ _) ⟨hlen, _, ep, v1, he'⟩, rfl, q _ _ v2 (I.hok.fresh (Nat.le_succ _))⟩
theorem opN_sorted (hu : X.A.units + 100 < cLine) : OpN X (.builtin "sorted") sortG := by
  refine ⟨_, cr_sortedD hu, fun vs H G ds res Q s p e q => ?_⟩
  match ds, e with
  | [.list ds], e =>
    simp only [sortG] at e
    split at e <;> cases e
    rename_i ok
    obtain ⟨v, rfl, p1⟩ := pks1 p
    obtain ⟨a, xs, rfl, h1, h2⟩ := p1
    refine ⟨a, xs, ds, G, s, rfl, .of h1, h2, ok.1, ok.2, fun ys p hy hp => ?_⟩
    have := rvFresh s hp hy
    exact q _ _ _ this.1 this.2

/-! ### gcd -/
@[simp] def gcdG : List PyData → Option Rv
  | [.int a, .int b] => some (.sh (.int ((Nat.gcd a.natAbs b.natAbs : Nat) : Int)))
  | _ => none
theorem opN_gcd : OpN X (.builtin "math.gcd") gcdG := by
  refine ⟨_, cr_gcd, fun vs H G ds res Q s p e q => ?_⟩
  match ds, e with
  | [.int a, .int b], e =>
    cases e
    obtain ⟨v, u, rfl, p1, p2⟩ := pks2 p
    exact ⟨a, b, by rw [dq_int p1, dq_int p2], q H G _ (.refl s) (.int _)⟩
/-- f(e, ..), f a module's name for a built-in function -/
theorem ev_callBfun {fr : Fr} {e : Expr} {es : List Expr} {Fs : Mo (List Rv)} {x : Str} {p pos : Pos} {id : String} {g : List PyData → Option Rv} (hc : OpN X (.builtin id) g) (hg : Gl X x) (hm : X.mg x = some (.builtin id)) (ha : PAv X fr (e :: es) Fs) (hdb : (x == ("__debug__" : Str)) = false := by decide)
    (he : starEach (e :: es) X.env = (false, eval e X.env) :: starEach es X.env := by rfl) (hpl : (backTo pos (starEach es X.env)).any (·.1) = false := by rfl) : PEv X fr (.Call (.Name x p) (e :: es) [] pos) (callBF g Fs) :=
  let ⟨_, hr, hq⟩ := hc
  weakE (pe_callBfun hr hg hm ha hdb he hpl) (callB_reads hq)
theorem OpN.or {f : Value} {g g' : List PyData → Option Rv} (h : OpN X f g) (h' : OpN X f g') : OpN X f (fun ds => (g ds).or (g' ds)) := by
  obtain ⟨r, h1, h2⟩ := h
  obtain ⟨r', h1', h2'⟩ := h'
  refine ⟨_, h1.or h1', fun vs H G ds res Q s p e q => ?_⟩
  simp only at e
  cases z : g ds with
  | some a => rw [z] at e; exact .inl (h2 vs H G ds res Q s p (by rw [z]; exact e) q)
  | none => rw [z] at e; exact .inr (h2' vs H G ds res Q s p (by simpa using e) q)
end
end Cf
/-! Cf, part Y: x[i] += e, bits, range(a, b, c). -/
namespace Cf
open PySem PySem.Spec PyProof.Rows L2

/-! ### x[i] op= e -/
section
variable {X : Cx}
def rGetL : V → V → Hp → VK → Prop := fun o i H Q => ∃ p xs k v, o = .ref p ∧ i = .int k ∧ H p = some (.lst xs) ∧ atI xs k = some v ∧ Q v H
theorem get_list : PGet X rGetL := by
  intro pins s σ H o i ov iv Q I ro ri h
  obtain ⟨p, xs, k, z, rfl, rfl, hq, he, q⟩ := h
  cases ro
  obtain ⟨t, rfl⟩ := ri
  obtain ⟨its, r, pl, hz⟩ := I.list (.of hq)
  obtain ⟨j, h1, h2, h3, h4, h5⟩ := atI_get he
  obtain ⟨w, ew, rw'⟩ := r.get h2
  have hl := r.length
  have hn := line63
  have fin : EP X pins σ Q w s := ⟨z, H, I, rw', q⟩
  by_cases h0 : 0 ≤ k
  · have hj : k.toNat = j := by
      rw [seqIndex_of h0 h5] at h1
      exact Option.some.inj h1
    exact wpAny_getItem_list (x := w) pl.isList h0 (by omega) (by rw [hj]; simpa using ew) fin
  · have hj : (k + (its.toArray.size : Int)).toNat = j := by
      rw [seqIndex_neg (by omega) h4] at h1
      rw [List.size_toArray, ← hl]
      exact Option.some.inj h1
    exact wpAny_getItem_list_neg (x := w) pl.isList (by omega) (by rw [List.size_toArray] <;> omega) (by omega) (by rw [hj]; simpa using ew) fin
end
def augItemF (i : Nat) (g : PyData → PyData → Option Rv) (Fi F : Mo Rv) : Mo Out := do
  needOwn i
  let rj ← Fi
  let dj ← peek rj
  let ds ← getOwn i
  match dj with
  | .int k => match atI ds k with
    | some old => do
      let r ← F
      let d2 ← peek r
      let res ← liftO (g old d2)
      let ds' ← getOwn i
      match res with
      | .sh d => match ixN ds'.length k with
        | some j => do
          putOwn i (ds'.set j d)
          pure .nx
        | none => stuckM
      | _ => stuckM
    | none => stuckM
  | _ => stuckM
section
variable {X : Cx} {fr : Fr} {o ix e : Expr} {i : Nat} {F Fi : Mo Rv} {pos tpos : Pos} {op : Operator} {g : PyData → PyData → Option Rv}
theorem es_augItem (hop : Op2 X (inplaceOp op) g) (ho : PEv X fr o (readF i)) (hi : PEv X fr ix Fi) (he : PEv X fr e F)
    (ha : ∀ ov iv new, augStore ix ov iv new = (do holding [new, ov, iv] (setItem ov iv new); release [new, ov, iv] []; pure .next) := by intros; rfl) :
    PSv X fr (.AugAssign (.Subscript o ix tpos) op e pos) (augItemF i g Fi F) := by
  obtain ⟨r, hr, hg⟩ := hop
  refine weakS (ps_augS ho hi get_list he (tip := fun x y H Q => r x y H Q) (fun pins s σ H x y v u Q I rx ry h => hr pins s σ H x y v u Q I rx ry h) set_list ha) fun D σ H ⟨env, G, h, w⟩ => ?_
  unfold augItemF at w
  obtain ⟨t0, ds0, e0, w0⟩ := wpM_need w
  refine tE_read h e0 fun a H1 G1 xs1 h1 s1 z1 _ _ => ?_
  refine tE_then h1 w0 (fun rj env2 H2 G2 vj h2 s2 q2 w2 => ?_) fun c e1 E1 H2 G2 h2 s2 => E1 σ H2 G2 h2 (s1.trans s2)
  obtain ⟨dj, p2, w3⟩ := peek_ok h2 q2 (wpM_bind.mp w2)
  obtain ⟨t3, ds3, e3, w4⟩ := wpM_own w3
  obtain ⟨a', xs3, y1, y2, y3, _⟩ := h2.ownAt e3
  rw [z1] at y1
  cases y1
  cases dj with
  | int k =>
    simp only at w4
    cases z : atI ds3 k with
    | none => rw [z] at w4; exact w4.elim
    | some old =>
      rw [z] at w4
      obtain ⟨v, ev, dv⟩ := atI_dq y3 z
      refine ⟨a, xs3, k, v, rfl, dq_int p2, y2, ev, ?_⟩
      refine tE_then h2 w4 (fun r5 env5 H5 G5 v5 h5 s5 q5 w5 => ?_) fun c e1 E1 H5 G5 h5 s5 => E1 σ H5 G5 h5 ((s1.trans s2).trans s5)
      obtain ⟨d5, p5, w6⟩ := peek_ok h5 q5 (wpM_bind.mp w5)
      obtain ⟨res, er, w7⟩ := wpM_lift (wpM_bind.mp w6)
      obtain ⟨t8, ds8, e8, w8⟩ := wpM_own w7
      cases res with
      | sh d =>
        simp only at w8
        cases zj : ixN ds8.length k with
        | none => rw [zj] at w8; exact w8.elim
        | some j =>
          rw [zj] at w8
          have w9 := wpM_put e8 w8
          refine hg v v5 H5 G5 old d5 _ _ h5.sub (.of h5.sub (Sub.dq s5 _ _ dv)) p5 er fun H6 G6 zz st rn => ?_
          have h6 := h5.stp st
          obtain ⟨a'', xs8, y1', y2', y3', _⟩ := h6.ownAt e8
          rw [z1] at y1'
          cases y1'
          refine ⟨a, xs8, k, j, rfl, dq_int p2, y2', by rw [y3'.length]; exact zj, ?_⟩
          exact w9 σ _ G6 (h6.write e8 z1 (y3'.set rn j)) (((s1.trans s2).trans s5).trans st.mono)
      | _ => exact w8.elim
  | _ => exact w4.elim
end
section
variable {X : Cx}
@[simp] def iaddI : PyData → PyData → Option Rv
  | .int i, .int j => some (.sh (.int (i + j)))
  | _, _ => none

end
section
variable {X : Cx} {fr : Fr} {a b c : Expr} {Fa Fb Fc : Mo Rv} {pos : Pos}
theorem chain_reads {r r' : R2} {g g' : PyData → PyData → Option Rv}
    (hg : ∀ x y H G d1 d2 res Q, Sub G H → Pk X.K H G x d1 → Pk X.K H G y d2 → g d1 d2 = some res → (∀ H' G' z, Stp H G H' G' → RvNew X.K H H' G' z res → Q z H') → r x y H Q)
    (hg' : ∀ x y H G d1 d2 res Q, Sub G H → Pk X.K H G x d1 → Pk X.K H G y d2 → g' d1 d2 = some res → (∀ H' G' z, Stp H G H' G' → RvNew X.K H H' G' z res → Q z H') → r' x y H Q) :
    ∀ σ H Q, tE X.K fr (chainF g g' Fa Fb Fc) σ H Q → tChain r r' (tE X.K fr Fa) (tE X.K fr Fb) (tE X.K fr Fc) σ H Q := fun σ H Q ⟨env, G, h, w⟩ => by
  refine tE_then h w (fun r1 env1 H1 G1 v1 h1 s1 q1 w1 => ?_) fun c e1 E1 H1 G1 h1 s1 => E1 H1 G1 h1 s1
  obtain ⟨G1', h1', s1', q1'⟩ := hold_ok' h1 q1
  refine tE_then h1' w1 (fun r2 env2 H2 G2 v2 h2 s2 q2 w2 => ?_) fun c e1 E1 H2 G2 h2 s2 => E1 H2 G2 h2 ((s1.trans s1').trans s2)
  have sA := (s1.trans s1').trans s2
  obtain ⟨d1, p1, w3⟩ := peek_ok h2 (HeldOk.ok (q1'.mono s2)) (wpM_bind.mp w2)
  obtain ⟨G2', h2', s2', q2'⟩ := hold_ok' h2 q2
  have p1' : Pk X.K H2 G2' v1 d1 := by
    cases d1 with
    | list ds => obtain ⟨l, xs, e, k1, k2⟩ := p1; exact ⟨l, xs, e, k1, Sub.dqAll s2' _ _ k2⟩
    | _ => exact Sub.dq s2' _ _ p1
  obtain ⟨d2, p2, w4⟩ := peek_ok h2' (HeldOk.ok q2') (wpM_bind.mp w3)
  cases e : g d1 d2 with
  | none => rw [e] at w4; exact w4.elim
  | some res =>
    rw [e] at w4
    cases res with
    | fr _ => exact w4.elim
    | sl _ => exact w4.elim
    | sh d =>
      cases d with
      | bool k =>
        refine hg v1 v2 H2 G2' d1 d2 _ _ h2'.sub p1' p2 e fun H3 G3 z st rn => ?_
        have hz := dq_bl (show Dq X.K G3 z (.bool k) from rn)
        subst hz
        have h3 := h2'.stp st
        refine ⟨k, rfl, ?_⟩
        cases k with
        | false =>
          replace w4 := show wpM (if false = true then _ else _) env2 _ _ from w4
          rw [if_neg Bool.false_ne_true] at w4 ⊢
          exact w4 H3 G3 _ h3 ((sA.trans s2').trans st.mono) (.bl false)
        | true =>
          replace w4 := show wpM (if true = true then _ else _) env2 _ _ from w4
          rw [if_pos rfl] at w4 ⊢
          refine tE_then h3 w4 (fun r3 env4 H4 G4 v3 h4 s4 q4 w5 => ?_) fun c e1 E1 H4 G4 h4 s4 => E1 H4 G4 h4 (((sA.trans s2').trans st.mono).trans s4)
          obtain ⟨d2', p2', w6⟩ := peek_ok h4 (HeldOk.ok ((q2'.mono st.mono).mono s4)) (wpM_bind.mp w5)
          obtain ⟨d3, p3, w7⟩ := peek_ok h4 q4 (wpM_bind.mp w6)
          obtain ⟨res, e', qf⟩ := wpM_lift w7
          exact hg' v2 v3 H4 G4 d2' d3 res Q h4.sub p2' p3 e' fun H' G' z st' rn' => qf H' G' z (h4.stp st') ((((sA.trans s2').trans st.mono).trans s4).trans st'.mono) (rn'.ok h4)
      | _ => exact w4.elim

theorem et_chain2 {op op' : CmpOp} {g g' : PyData → PyData → Option Rv} (ho : Op2 X (compareOp op) g) (ho' : Op2 X (compareOp op') g') (ha : PEv X fr a Fa) (hb : PEv X fr b Fb) (hc : PEv X fr c Fc)
    (hm : lastMarks [op, op'] [b, c] = false := by with_unfolding_all rfl) : PTv X fr (.Compare a [op, op'] [b, c] pos) (boolF (chainF g g' Fa Fb Fc)) :=
  let ⟨_, hr, hg⟩ := ho
  let ⟨_, hr', hg'⟩ := ho'
  weakT (pt_chain hr hr' ha hb hc hm) fun σ H Q h => chain_reads hg hg' σ H _ (tT_bool h)
end
section
variable {X : Cx}
/-! ### tuple * 1 -/
theorem tuple_mul1 (l : Addr) (items : Array Value) (n : Nat) (dd : Option Addr) (sl : Array (Option Value)) (u : Tok) :
    Meets (Builtin.«tuple.__mul__» ⟨[.ref l, .int 1 u], []⟩) (fun _ R s => s.heap.get? l = some { cls := .type "tuple", dict := dd, data := .seq items n, slots := sl } ∧ R (.ok (.ret (Value.ref l))) s) :=
  .of_wp fun prog w A R s h => by
    obtain ⟨hp, g, d, tk, os⟩ := s
    obtain ⟨hl, h⟩ := h
    have f1 := AutoSeq1.idx_int
    wp_walk using PySem.AutoSeq1.wpAny_loadPart' hl
    exact ⟨_, rfl, h⟩
def rRep1 (K : PySem.W.Frag) : R2 := fun x y H Q => ∃ l xs, x = .ref l ∧ y = .int 1 ∧ SqT K H l xs ∧ Q (.ref l) H
theorem op_rep1 : OpR X (binaryOp .Mult) (rRep1 X.K) := by
  intro pins s σ H x y v u Q I rx ry h
  obtain ⟨l, xs, rfl, rfl, hT, q⟩ := h
  cases rx
  obtain ⟨t, rfl⟩ := ry
  obtain ⟨its, r, ⟨⟨cls, dd, data, sl⟩, ho, hc, n, hd⟩, hs⟩ := I.tuple hT
  simp only at hc hd
  subst hc hd
  refine wpAny_binaryOp_repeat_ref (T := "tuple") (U := "int") (by decide) ⟨_, ho, rfl⟩ (fun s' => typeIs_int s' 1 t) noFill_tuple_mul F.fills_int_mul F.slot_int_rmul repeat_tuple F.slot_int_index.lookup
    (call_meets F.slot_int_rmul (typeIs_int s 1 t) F.entry_int_rmul (F.args_int_rmul_2 _ _) (int_rmul_tuple 1 t l its.toArray n dd sl)
      ⟨ho, rfl, ⟨_, ho, rfl⟩, call_meets F.slot_tuple_mul ⟨_, ho, rfl⟩ F.entry_tuple_mul (F.args_tuple_mul_2 _ _) (tuple_mul1 l its.toArray n dd sl t) ⟨ho, ?_⟩⟩)
  exact ⟨.ref l, H, I, rfl, q⟩
def mulG1 : PyData → PyData → Option Rv := fun a b => match a, b with
  | .tuple xs, .int k => if k = 1 then some (.sh (.tuple xs)) else mulG (.tuple xs) (.int k)
  | a, b => mulG a b
theorem op2_mul1 : Op2 X (binaryOp .Mult) mulG1 := by
  let g1 : PyData → PyData → Option Rv := fun a b => match a, b with
    | .tuple xs, .int k => if k = 1 then some (.sh (.tuple xs)) else none
    | _, _ => none
  have h1 : Op2 X (binaryOp .Mult) g1 := ⟨_, op_rep1, fun x y H G d1 d2 res Q s p1 p2 e q => by
    cases d1 <;> cases d2 <;> simp only [g1] at e <;> try cases e
    split at e <;> cases e
    rename_i k hk
    subst hk
    obtain ⟨a, xs, rfl, t1, a1⟩ := dq_tup p1
    exact ⟨a, xs, rfl, dq_int p2, s.sqT t1, q H G _ (.refl s) (.tup t1 a1)⟩⟩
  refine (h1.or op2_mul).weak fun a b r e => ?_
  cases a <;> cases b <;> simp only [mulG1, g1] at e ⊢ <;> try exact e
  split at e
  · rename_i k hk; rw [if_pos hk]; exact e
  · rename_i k hk; rw [if_neg hk]; exact e
/-! ### bits -/
@[simp] def xorG : PyData → PyData → Option Rv
  | .int i, .int j => some (.sh (.int (Builtin.bitXor i j)))
  | _, _ => none
@[simp] def bandG : PyData → PyData → Option Rv
  | .int i, .int j => some (.sh (.int (Builtin.bitAnd i j)))
  | _, _ => none
@[simp] def borG : PyData → PyData → Option Rv
  | .int i, .int j => some (.sh (.int (Builtin.bitOr i j)))
  | _, _ => none
def shlG : PyData → PyData → Option Rv
  | .int i, .int j => if i.natAbs < 2 ^ 32 ∧ 0 ≤ j ∧ j ≤ 1000 then some (.sh (.int (i * 2 ^ j.toNat))) else none
  | _, _ => none
def shrG : PyData → PyData → Option Rv
  | .int i, .int j => if 0 ≤ j then some (.sh (.int (i / 2 ^ j.toNat))) else none
  | _, _ => none
theorem op2_xor : Op2 X (binaryOp .BitXor) xorG := op2_int0 op_xor (fun _ _ _ _ => .int _) fun a b r e => by
  cases a <;> cases b <;> simp_all [xorG]
theorem op2_band : Op2 X (binaryOp .BitAnd) bandG := op2_int0 op_and (fun _ _ _ _ => .int _) fun a b r e => by
  cases a <;> cases b <;> simp_all [bandG]
theorem op2_bor : Op2 X (binaryOp .BitOr) borG := op2_int0 op_or (fun _ _ _ _ => .int _) fun a b r e => by
  cases a <;> cases b <;> simp_all [borG]
theorem op2_shr : Op2 X (binaryOp .RShift) shrG := op2_intI op_shr fun a b r e => by
  cases a <;> cases b <;> simp [shrG] at e
  obtain ⟨hz, rfl⟩ := e
  exact ⟨_, _, rfl, rfl, hz, rfl⟩
theorem op2_shl : Op2 X (binaryOp .LShift) shlG := op2_intI op_shl fun a b r e => by
  cases a <;> cases b <;> simp only [shlG] at e <;> try cases e
  split at e <;> cases e
  rename_i i j hz
  exact ⟨_, _, rfl, rfl, ⟨hz.2.1, by omega, by omega⟩, rfl⟩

/-! ### range(a, b, c) -/
def rangeC (i c : Int) (n : Nat) : List PyData := (List.range n).map fun (k : Nat) => .int (i + k * c)
/-- what range can take; how many -/
noncomputable def range3Ok (i j c : Int) : Bool := hide (decide (c ≠ 0 ∧ c.natAbs < 1073741824 ∧ Builtin.Range.small i j c = true ∧ 0 ≤ Builtin.Range.rangeSize i j c))
noncomputable def range3I (Fs : Mo (List Rv)) : Mo (List PyData) := do
  let rs ← Fs
  match rs with
  | [.sh (.int i), .sh (.int j), .sh (.int c)] => if range3Ok i j c = true then pure (rangeC i c (Builtin.Range.rangeSize i j c).toNat) else stuckM
  | _ => stuckM
theorem itOk_rangeC {K : PySem.W.Frag} {G : Hp} {lo c : Int} {n : Nat} : ItOk K (Itc lo c n) G (rangeC lo c n) := by
  have hl : (rangeC lo c n).length = n := by simp [rangeC]
  refine ⟨fun i H G1 s1 s2 hi => ?_, fun H G1 s1 s2 => ?_, fun i H G1 x H' s1 s2 hi y => ?_⟩
  · show i < n; omega
  · show n ≤ (rangeC lo c n).length; omega
  · obtain ⟨rfl, rfl⟩ := y
    rw [hl] at hi
    exact ⟨G1, .int (lo + i * c), by simp [rangeC, hi], .refl s2, .int _⟩
theorem ei_range3 {fr : Fr} {tg : Expr} {a b c : Expr} {Fs : Mo (List Rv)} {p pos : Pos} (hg : Gl X "range") (hm : X.mg "range" = none) (ha : PAv X fr [a, b, c] Fs)
    (hs : starEach [a, b, c] X.env = (false, eval a X.env) :: starEach [b, c] X.env := by rfl) (hpl : (backTo pos (starEach [b, c] X.env)).any (·.1) = false := by rfl) :
    PIv X fr tg (.Call (.Name "range" p) [a, b, c] [] pos) (range3I Fs) :=
  weakI (pi_range3 hg hm ha hs hpl) fun σ H R ⟨env, G, h, w⟩ => by
    unfold range3I at w
    refine tA_then h w (fun rs env1 H1 G1 vs h1 s1 q1 w1 => ?_) fun c e1 E1 H1 G1 h1 s1 => E1 H1 G1 h1 s1
    split at w1
    · rename_i i j c
      split at w1
      · rename_i hz
        unfold range3Ok at hz
        rw [hide_eq, decide_eq_true_eq] at hz
        match vs, q1 with
        | [v, u, z], q1 =>
          have e := dq_int (show Dq X.K G1 v (.int i) from q1.1)
          have e' := dq_int (show Dq X.K G1 u (.int j) from q1.2.1)
          have e'' := dq_int (show Dq X.K G1 z (.int c) from q1.2.2.1)
          subst e e' e''
          exact ⟨i, j, c, (Builtin.Range.rangeSize i j c).toNat, rfl, ⟨hz.1, hz.2.1, hz.2.2.1, by omega⟩, w1 H1 G1 _ h1 s1 itOk_rangeC⟩
        | [_], q1 => exact q1.2.elim
        | [_, _], q1 => exact q1.2.2.elim
        | _ :: _ :: _ :: _ :: _, q1 => exact q1.2.2.2.elim
      · exact w1.elim
    · exact w1.elim
end

/-! ### [e for x in xs if t for y in ys if u] -/
def lc2Loop (vs : List Nat) (T : PyData → Mo Unit) (C : Mo Bool) (vs1 : List Nat) (I1 : Mo (List PyData)) (T1 : PyData → Mo Unit) (C1 : Mo Bool) (F : Mo Rv) : List PyData → List PyData → Mo (List PyData)
  | [], acc => pure acc
  | d :: ds, acc => fun e => (thenU (T d) do
      let b ← C
      if b = true then do
        let ds1 ← I1
        let acc' ← lcLoop vs1 T1 C1 F ds1 acc
        lc2Loop vs T C vs1 I1 T1 C1 F ds acc'
      else lc2Loop vs T C vs1 I1 T1 C1 F ds acc) (wipeE vs e)
def lc2F (vs : List Nat) (I : Mo (List PyData)) (T : PyData → Mo Unit) (C : Mo Bool) (vs1 : List Nat) (I1 : Mo (List PyData)) (T1 : PyData → Mo Unit) (C1 : Mo Bool) (F : Mo Rv) : Mo Rv := do
  let ds ← I
  let acc ← block vs (lc2Loop vs T C vs1 I1 T1 C1 F ds [])
  pure (.fr acc)
theorem wipeE_wipeE {vs vs1 : List Nat} (hv : ∀ i ∈ vs1, i ∈ vs) (e : Fv) : wipeE vs (wipeE vs1 e) = wipeE vs e := by
  refine List.ext_getElem? fun i => ?_
  by_cases hl : i < e.length
  · by_cases hi : i ∈ vs
    · rw [wipeE_in hi (by rw [wipeE_length]; exact hl), wipeE_in hi hl]
    · rw [wipeE_out hi, wipeE_out hi, wipeE_out fun z => hi (hv i z)]
  · rw [List.getElem?_eq_none (by simp only [wipeE_length]; omega), List.getElem?_eq_none (by simp only [wipeE_length]; omega)]
theorem wipe_wipe {vs vs1 : List Nat} (hv : ∀ i ∈ vs1, i ∈ vs) (σ : L2.St) : L2.wipe (L2.wipe σ vs1) vs = L2.wipe σ vs := by
  refine List.ext_getElem? fun i => ?_
  by_cases hl : i < σ.length
  · by_cases hi : i ∈ vs
    · rw [wipe_in hi (by rw [wipe_length]; exact hl), wipe_in hi hl]
    · rw [wipe_at hi, wipe_at hi, wipe_at fun z => hi (hv i z)]
  · rw [List.getElem?_eq_none (by simp only [wipe_length]; omega), List.getElem?_eq_none (by simp only [wipe_length]; omega)]
section
variable {X : Cx} {fr : Fr} {elt tg iter tg1 iter1 : Expr} {ifs ifs1 : List Expr} {scope : Scope} {own : List (Str × Nat)} {pos : Pos} {I I1 : Mo (List PyData)} {T T1 : PyData → Mo Unit} {C C1 : Mo Bool} {F : Mo Rv} {ws ws1 vs1 : List Nat}
/-- what a turn of the inner loop leaves -/
structure In2 (X : Cx) (fr : Fr) (vs : List Nat) (σ : L2.St) (D : Addr) (G1 : Hp) (envw : Fv) (σw : L2.St) (H : Hp) (acc : List PyData) : Prop where
  ex : ∃ G accV, SR X.K fr envw σw H G ∧ Sub G1 G ∧ H D = some (.lst accV) ∧ DqAll X.K G accV acc ∧ G D = none ∧ ∀ (i : Nat) (t : Option Nat) (es : List PyData), envw[i]? = some (.own t es) → σw[i]? ≠ some (some (.ref D))
theorem lc2_reads (hv : ∀ i ∈ vs1, i ∈ own.map (·.2)) (hws : ∀ i ∈ ws, i ∈ own.map (·.2)) (hws1 : ∀ i ∈ ws1, i ∈ vs1) : ∀ σ H Q, tE X.K fr (lc2F (own.map (·.2)) I T C vs1 I1 T1 C1 F) σ H Q →
    tLc2 (tI X.K fr I) (fun v σ H Q => ∃ p, tG X.K (fr.in p) ws T v σ H Q) (fun σ H Q => ∃ p, tT X.K (fr.in p) C σ H Q) (fun σ H Q => ∃ p, tI X.K (fr.in p) I1 σ H Q) (fun v σ H Q => ∃ p, tG X.K (fr.in p) ws1 T1 v σ H Q) (fun σ H Q => ∃ p, tT X.K (fr.in p) C1 σ H Q) (fun σ H Q => ∃ p, tE X.K (fr.in p) F σ H Q) (own.map (·.2)) vs1 σ H Q := fun σ H Q ⟨env, G, h, w⟩ => by
  unfold lc2F at w
  generalize own.map (·.2) = vs at hws hv w ⊢
  refine ⟨env, G, h, wpM_mono (wpM_bind.mp w) (fun ds env1 w1 H1 G1 J h1 s1 io => ?_) fun c e1 E1 => E1⟩
  obtain ⟨no, w2⟩ := wpM_block w1
  intro D hD
  have pD : fr.prot D = none := by
    cases z : fr.prot D with
    | none => rfl
    | some o => rw [h1.prot D o z] at hD; cases hD
  have nT : D ∉ fr.tabs := fun z => by
    obtain ⟨⟨ps, e, _⟩, _⟩ := h1.tab D z
    rw [hD] at e
    cases e
  have stD := Stp.lay (o := .lst []) h1.sub hD
  have hw := (h1.stp stD).wipe vs
  let QQ : List PyData → Fv → Prop := fun acc e' => ∀ H' G' v, SR X.K fr (restE env1 vs e') σ H' G' → Sub G1 G' → RvOk X.K fr (restE env1 vs e') σ H' G' v (.fr acc) → Q v H'
  refine ⟨fun i m H' => ∃ env' G' acc accV, SR X.K fr (wipeE vs env') (wipe σ vs) H' G' ∧ Sub G1 G' ∧ H' D = some (.lst accV) ∧ DqAll X.K G' accV acc ∧ G' D = none ∧
      (∀ (i : Nat) (t : Option Nat) (es : List PyData), (wipeE vs env')[i]? = some (.own t es) → (wipe σ vs)[i]? ≠ some (some (.ref D))) ∧ m = ds.length - i ∧ i ≤ ds.length ∧
      wpM (lc2Loop vs T C vs1 I1 T1 C1 F (ds.drop i) acc) env' QQ (fun _ _ => False),
    ⟨ds.length, env1, G1, [], [], hw, .refl, upd_same, .nil, sub_none h1.sub hD, (h1.wipe vs).notOwn hD, by omega, by omega, wpM_mono w2 (fun acc e' q H' G' v h' s' r => q H' G' v h' (s1.trans s') r) fun _ _ z => z⟩, ?_⟩
  rintro i m H2 ⟨env2, G2, acc, accV, h2, s2, hA, qA, gA, nA, rfl, hi2, w3⟩
  by_cases hlt : i < ds.length
  · have hd : ds.drop i = ds[i] :: ds.drop (i + 1) := by rw [List.drop_eq_getElem_cons hlt]
    rw [hd] at w3
    unfold lc2Loop at w3
    refine .inr ⟨io.go i H2 G2 s2 h2.sub hlt, fun H3 => ∃ env' G' acc accV, SR X.K fr (wipeE vs env') (wipe σ vs) H3 G' ∧ Sub G1 G' ∧ H3 D = some (.lst accV) ∧ DqAll X.K G' accV acc ∧ G' D = none ∧
      (∀ (i : Nat) (t : Option Nat) (es : List PyData), (wipeE vs env')[i]? = some (.own t es) → (wipe σ vs)[i]? ≠ some (some (.ref D))) ∧
      wpM (lc2Loop vs T C vs1 I1 T1 C1 F (ds.drop (i + 1)) acc) env' QQ (fun _ _ => False), ?_, fun x H' y => ?_⟩
    · rintro H3 ⟨env', G', acc', accV', a1, a2, a3, a4, a5, a6, a7⟩
      exact ⟨ds.length - (i + 1), by omega, env', G', acc', accV', a1, a2, a3, a4, a5, a6, rfl, by omega, a7⟩
    · obtain ⟨G3, d, e3, st, q3⟩ := io.yld i H2 G2 x H' s2 h2.sub hlt y
      rw [List.getElem?_eq_getElem hlt] at e3
      cases e3
      have h3 := h2.stp st
      have gA3 : G3 D = none := by
        cases z : G3 D with
        | none => rfl
        | some o =>
          rcases st.new D (ne_none_of z) with q | q
          · exact absurd gA q
          · rw [hA] at q; cases q
      have h3g := h3.guard (st.ext _ _ hA) gA3 nT nA (fun _ _ => False)
      refine ⟨_, wipeE vs env2, G3, _, h3g, q3, wpM_mono (wpM_T (w3 : wpM (thenU _ _) (wipeE vs env2) _ _)) (fun _ env4 w4 σ4 G4 o4 h4 s4 => ?_) fun _ _ z => z⟩
      have e4 := wipe_off o4 hws
      refine ⟨e4, upd fr.prot D (.lst accV), env4, G4, h4, wpM_mono (wpM_bind.mp w4) (fun b env5 w5 H5 G5 h5 s5 => ?_) fun _ _ z => z.elim⟩
      have back : ∀ {accV' : List V} {env6 : Fv} {H6 G6 : Hp}, SR X.K (fr.in (upd fr.prot D (.lst accV'))) env6 σ4 H6 G6 → SR X.K fr (wipeE vs env6) (wipe σ vs) H6 G6 ∧ H6 D = some (.lst accV') ∧ G6 D = none ∧ ∀ (i : Nat) (t : Option Nat) (es : List PyData), (wipeE vs env6)[i]? = some (.own t es) → (wipe σ vs)[i]? ≠ some (some (.ref D)) := fun h6 => by
        have h7 := h6.wipe vs
        rw [e4] at h7
        exact SR.unguard pD h7
      cases b with
      | false =>
        rw [if_neg Bool.false_ne_true] at w5
        refine iteF ?_
        obtain ⟨b1, b2, b3, b4⟩ := back h5
        have s25 := (st.mono.trans s4).trans s5
        exact ⟨env5, G5, acc, accV, b1, s2.trans s25, b2, Sub.dqAll s25 _ _ qA, b3, b4, w5⟩
      | true =>
        rw [if_pos rfl] at w5
        refine iteT ?_
        refine ⟨upd fr.prot D (.lst accV), env5, G5, h5, wpM_mono (wpM_bind.mp w5) (fun ds1 env6 w6 H6 G6 J1 h6 s6 io1 => ?_) fun _ _ z => z.elim⟩
        have s26 := ((st.mono.trans s4).trans s5).trans s6
        have w6' := wpM_bind.mp w6
        -- the inner loop
        let QI : List PyData → Fv → Prop := fun acc' e' => wpM (lc2Loop vs T C vs1 I1 T1 C1 F (ds.drop (i + 1)) acc') e' QQ (fun _ _ => False)
        have unb : ∀ {accV' : List V} {env7 : Fv} {H7 G7 : Hp}, SR X.K (fr.in (upd fr.prot D (.lst accV'))) env7 σ4 H7 G7 → SR X.K (fr.in fr.prot) env7 σ4 H7 G7 ∧ H7 D = some (.lst accV') ∧ G7 D = none ∧ ∀ (i : Nat) (t : Option Nat) (es : List PyData), env7[i]? = some (.own t es) → σ4[i]? ≠ some (some (.ref D)) := fun h7 => SR.unguard (fr := fr.in fr.prot) pD h7
        obtain ⟨u1, u2, u3, u4⟩ := unb h6
        have u4w : ∀ (i : Nat) (t : Option Nat) (es : List PyData), (wipeE vs1 env6)[i]? = some (.own t es) → (wipe σ4 vs1)[i]? ≠ some (some (.ref D)) := (SR.unguard (fr := fr.in fr.prot) pD (h6.wipe vs1)).2.2.2
        refine ⟨fun j k H' => ∃ env' G' acc' accV', SR X.K (fr.in fr.prot) (wipeE vs1 env') (wipe σ4 vs1) H' G' ∧ Sub G6 G' ∧ H' D = some (.lst accV') ∧ DqAll X.K G' accV' acc' ∧ G' D = none ∧
            (∀ (i : Nat) (t : Option Nat) (es : List PyData), (wipeE vs1 env')[i]? = some (.own t es) → (wipe σ4 vs1)[i]? ≠ some (some (.ref D))) ∧ k = ds1.length - j ∧ j ≤ ds1.length ∧
            wpM (lcLoop vs1 T1 C1 F (ds1.drop j) acc') env' QI (fun _ _ => False),
          ⟨ds1.length, env6, G6, acc, accV, u1.wipe vs1, .refl, u2, Sub.dqAll s26 _ _ qA, u3, u4w, by omega, by omega, w6'⟩, ?_⟩
        rintro j k H7 ⟨env7, G7, acc7, accV7, h7, s7, hA7, qA7, gA7, nA7, rfl, hj7, w7⟩
        by_cases hlt1 : j < ds1.length
        · have hd1 : ds1.drop j = ds1[j] :: ds1.drop (j + 1) := by rw [List.drop_eq_getElem_cons hlt1]
          rw [hd1] at w7
          unfold lcLoop at w7
          refine .inr ⟨io1.go j H7 G7 s7 h7.sub hlt1, fun H8 => ∃ env' G' acc' accV', SR X.K (fr.in fr.prot) (wipeE vs1 env') (wipe σ4 vs1) H8 G' ∧ Sub G6 G' ∧ H8 D = some (.lst accV') ∧ DqAll X.K G' accV' acc' ∧ G' D = none ∧
            (∀ (i : Nat) (t : Option Nat) (es : List PyData), (wipeE vs1 env')[i]? = some (.own t es) → (wipe σ4 vs1)[i]? ≠ some (some (.ref D))) ∧
            wpM (lcLoop vs1 T1 C1 F (ds1.drop (j + 1)) acc') env' QI (fun _ _ => False), ?_, fun x1 H8 y1 => ?_⟩
          · rintro H3 ⟨env', G', acc', accV', a1, a2, a3, a4, a5, a6, a7⟩
            exact ⟨ds1.length - (j + 1), by omega, env', G', acc', accV', a1, a2, a3, a4, a5, a6, rfl, by omega, a7⟩
          · obtain ⟨G8, d1, e8, st8, q8⟩ := io1.yld j H7 G7 x1 H8 s7 h7.sub hlt1 y1
            rw [List.getElem?_eq_getElem hlt1] at e8
            cases e8
            have h8 := h7.stp st8
            have gA8 : G8 D = none := by
              cases z : G8 D with
              | none => rfl
              | some o =>
                rcases st8.new D (ne_none_of z) with q | q
                · exact absurd gA7 q
                · rw [hA7] at q; cases q
            have h8g := h8.guard (st8.ext _ _ hA7) gA8 nT nA7 (fun _ _ => False)
            refine ⟨_, wipeE vs1 env7, G8, _, h8g, q8, wpM_mono (wpM_T (w7 : wpM (thenU _ _) (wipeE vs1 env7) _ _)) (fun _ env9 w9 σ9 G9 o9 h9 s9 => ?_) fun _ _ z => z⟩
            have e9 := wipe_off o9 hws1
            refine ⟨e9, upd fr.prot D (.lst accV7), env9, G9, h9, wpM_mono (wpM_bind.mp w9) (fun b1 env10 w10 H10 G10 h10 s10 => ?_) fun _ _ z => z.elim⟩
            have back1 : ∀ {env6 : Fv} {H6 G6 : Hp}, SR X.K (fr.in (upd fr.prot D (.lst accV7))) env6 σ9 H6 G6 → SR X.K (fr.in fr.prot) (wipeE vs1 env6) (wipe σ4 vs1) H6 G6 ∧ H6 D = some (.lst accV7) ∧ G6 D = none ∧ ∀ (i : Nat) (t : Option Nat) (es : List PyData), (wipeE vs1 env6)[i]? = some (.own t es) → (wipe σ4 vs1)[i]? ≠ some (some (.ref D)) := fun h6 => by
              have h7 := h6.wipe vs1
              rw [e9] at h7
              exact SR.unguard (fr := fr.in fr.prot) pD h7
            cases b1 with
            | false =>
              rw [if_neg Bool.false_ne_true] at w10
              refine iteF ?_
              obtain ⟨b1, b2, b3, b4⟩ := back1 h10
              have s710 := (st8.mono.trans s9).trans s10
              exact ⟨env10, G10, acc7, accV7, b1, s7.trans s710, b2, Sub.dqAll s710 _ _ qA7, b3, b4, w10⟩
            | true =>
              rw [if_pos rfl] at w10
              refine iteT ?_
              refine ⟨upd fr.prot D (.lst accV7), env10, G10, h10, wpM_mono (wpM_bind.mp w10) (fun r env11 w11 H11 G11 v h11 s11 q11 => ?_) fun _ _ z => z.elim⟩
              obtain ⟨x12, env12, G12, h12, s12, d12, w12⟩ := force_ok h11 q11 (wpM_bind.mp w11)
              split at w12
              · rename_i hz
                obtain ⟨b1, b2, b3, b4⟩ := back1 h12
                have s712 := (((st8.mono.trans s9).trans s10).trans s11).trans s12
                have qA12 := Sub.dqAll s712 _ _ qA7
                exact ⟨accV7, b2, by rw [qA7.length]; exact hz, env12, G12, _, _, b1.poke b2 pD b3 nT b4, s7.trans s712, upd_same, qA12.append (.cons d12 .nil), b3, b4, w12⟩
              · exact w12.elim
        · have e : j = ds1.length := by omega
          subst e
          rw [List.drop_length] at w7
          refine .inl ⟨io1.stop H7 G7 s7 h7.sub, ?_⟩
          have h7w := h7.wipe vs
          rw [wipeE_wipeE hv, wipe_wipe hv, e4] at h7w
          have s27 := s26.trans s7
          have nA' : ∀ (i : Nat) (t : Option Nat) (es : List PyData), (wipeE vs env7)[i]? = some (.own t es) → (wipe σ vs)[i]? ≠ some (some (.ref D)) := fun i t es z => by
            rw [← e4]
            have hi : i ∉ vs := fun hi => by
              by_cases hl : i < env7.length
              · rw [wipeE_in hi hl] at z; cases z
              · rw [List.getElem?_eq_none (by rw [wipeE_length]; omega)] at z; cases z
            rw [wipeE_out hi] at z
            have hi1 : i ∉ vs1 := fun q => hi (hv i q)
            have := nA7 i t es (by rw [wipeE_out hi1]; exact z)
            rw [wipe_at hi1] at this
            rw [wipe_at hi]
            exact this
          exact ⟨env7, G7, acc7, accV7, ⟨h7w.sub, h7w.prot, h7w.dj, h7w.tab, h7w.pt, h7w.lent, h7w.len, h7w.slots, h7w.dist⟩, s2.trans s27, hA7, qA7, gA7, nA', w7⟩
  · have e : i = ds.length := by omega
    subst e
    rw [List.drop_length] at w3
    refine .inl ⟨io.stop H2 G2 s2 h2.sub, ?_⟩
    have h5 := h1.rest h2 s2 no
    exact w3 H2 G2 (.ref D) h5 s2 ⟨D, accV, rfl, hA, qA, gA, pD, fun z => h1.lent D z hD, fun i t es e1 e2 => by
      obtain ⟨hi, e3⟩ := restE_own no e1
      exact nA i t es e3 (by rw [wipe_at hi]; exact e2)⟩
theorem ev_lc2 (hv : ∀ i ∈ vs1, i ∈ own.map (·.2)) (hws : ∀ i ∈ ws, i ∈ own.map (·.2)) (hws1 : ∀ i ∈ ws1, i ∈ vs1) (hc : X.calm = true) (hN : X.N.Nodup) (hi : PIv X fr tg iter I) (ok : BlkOk X.N X.env.scope scope own) (hg : InBlk X fr scope fun X fr => PGv X fr tg ws T)
    (ht : InBlk X fr scope fun X fr => PTsv X fr ifs C) (hi1 : InBlk X fr scope fun X fr => PIv X fr tg1 iter1 I1) (hg1 : InBlk X fr scope fun X fr => PGv X fr tg1 ws1 T1) (ht1 : InBlk X fr scope fun X fr => PTsv X fr ifs1 C1) (he : InBlk X fr scope fun X fr => PEv X fr elt F)
    (hs : ∀ x, foldedSetIterable iter X.env x = pure x := by intro _; rfl) (hs1 : ∀ env x, foldedSetIterable iter1 env x = pure x := by intro _ _; rfl) :
    PEv X fr (.ListComp elt [⟨tg, iter, ifs, 0⟩, ⟨tg1, iter1, ifs1, 0⟩] scope pos) (lc2F (own.map (·.2)) I T C vs1 I1 T1 C1 F) :=
  weakE (pe_lc2 hc hN hi ok hv (fun s H C cl fp => ⟨fun pins s' σ H' v u Q I r ⟨p, q⟩ => (hg p s H C cl fp).run pins s' σ H' v u Q I r q⟩)
    (fun s H C cl fp => ⟨fun pins s' σ H' Q I ⟨p, q⟩ => (ht p s H C cl fp).run pins s' σ H' Q I q⟩)
    (fun s H C cl fp => ⟨fun pins s' σ H' R I ⟨p, q⟩ => (hi1 p s H C cl fp).run pins s' σ H' R I q⟩)
    (fun s H C cl fp => ⟨fun pins s' σ H' v u Q I r ⟨p, q⟩ => (hg1 p s H C cl fp).run pins s' σ H' v u Q I r q⟩)
    (fun s H C cl fp => ⟨fun pins s' σ H' Q I ⟨p, q⟩ => (ht1 p s H C cl fp).run pins s' σ H' Q I q⟩)
    (fun s H C cl fp => ⟨fun pins s' σ H' Q I ⟨p, q⟩ => (he p s H C cl fp).run pins s' σ H' Q I q⟩) hs hs1) (lc2_reads hv hws hws1)
end
end Cf
/-! Cf, part Z: reckoning with slots that are not spelt out; lists of ints that are counted up. -/
namespace Cf
open PySem PySem.Spec PyProof.Rows L2

/-- all slots but vs stand as they were -/
structure Agr (vs : List Nat) (e e' : Fv) : Prop where
  len : e'.length = e.length
  at_ : ∀ i, i ∉ vs → e'[i]? = e[i]?
theorem Agr.refl {vs : List Nat} {e : Fv} : Agr vs e e := ⟨rfl, fun _ _ => rfl⟩
theorem Agr.trans {vs : List Nat} {e e' e'' : Fv} (h : Agr vs e e') (h' : Agr vs e' e'') : Agr vs e e'' := ⟨h'.len.trans h.len, fun i hi => (h'.at_ i hi).trans (h.at_ i hi)⟩
theorem Agr.set {vs : List Nat} {e e' : Fv} {i : Nat} {x : Sl} (h : Agr vs e e') (hi : i ∈ vs) : Agr vs e (e'.set i x) := by
  refine ⟨by rw [List.length_set]; exact h.len, fun j hj => ?_⟩
  rw [List.getElem?_set_ne (fun z => hj (by rw [← z]; exact hi))]
  exact h.at_ j hj
theorem Agr.mono {vs ws : List Nat} {e e' : Fv} (h : Agr vs e e') (s : ∀ i ∈ vs, i ∈ ws) : Agr ws e e' := ⟨h.len, fun i hi => h.at_ i fun z => hi (s i z)⟩

/-- a loop that goes to its end: what holds behind each item -/
theorem loop_all {T : PyData → Mo Unit} {B : Mo Out} {α : Type} {D : α → PyData} {J : List α → Fv → Prop} : ∀ {ds done : List α} {e : Fv},
    (∀ d ds' done' e, done ++ ds = done' ++ d :: ds' → J done' e → ∃ e', (thenU (T (D d)) B e = .ok .nx e' ∨ thenU (T (D d)) B e = .ok .ct e') ∧ J (done' ++ [d]) e') → J done e → ∃ e', loopF T B (ds.map D) e = .ok .nx e' ∧ J (done ++ ds) e'
  | [], done, e, _, h => ⟨e, rfl, by simpa using h⟩
  | d :: ds, done, e, hs, h => by
    obtain ⟨e1, h1, h2⟩ := hs d ds done e rfl h
    obtain ⟨e2, h3, h4⟩ := loop_all (ds := ds) (done := done ++ [d]) (fun x ds' done' e hx hj => hs x ds' done' e (by rw [← hx]; simp) hj) h2
    refine ⟨e2, ?_, by rw [List.append_assoc] at h4; exact h4⟩
    rw [List.map_cons, loop_cons]
    rcases h1 with h1 | h1 <;> rw [h1] <;> exact h3

/-- .. what holds before the item at k -/
theorem loop_idx {T : PyData → Mo Unit} {B : Mo Out} {α : Type} {D : α → PyData} {J : Nat → Fv → Prop} : ∀ {ds : List α} {k : Nat} {e : Fv},
    (∀ i e, ∀ h : i < ds.length, J (k + i) e → ∃ e', (thenU (T (D ds[i])) B e = .ok .nx e' ∨ thenU (T (D ds[i])) B e = .ok .ct e') ∧ J (k + i + 1) e') → J k e → ∃ e', loopF T B (ds.map D) e = .ok .nx e' ∧ J (k + ds.length) e'
  | [], k, e, _, h => ⟨e, rfl, h⟩
  | d :: ds, k, e, hs, h => by
    obtain ⟨e1, h1, h2⟩ := hs 0 e (by simp) h
    obtain ⟨e2, h3, h4⟩ := loop_idx (ds := ds) (k := k + 1) (e := e1) (fun i e hi hj => by
      have := hs (i + 1) e (by simpa using hi) (by rw [show k + (i + 1) = k + 1 + i by omega]; exact hj)
      rw [show k + (i + 1) = k + 1 + i by omega] at this
      simpa using this) h2
    refine ⟨e2, ?_, by rw [List.length_cons, show k + (ds.length + 1) = k + 1 + ds.length by omega]; exact h4⟩
    rw [List.map_cons, loop_cons]
    rcases h1 with h1 | h1 <;> simp only [List.getElem_cons_zero] at h1 <;> rw [h1] <;> exact h3
theorem loop_range {T : PyData → Mo Unit} {B : Mo Out} {J : Nat → Fv → Prop} {cnt : Nat} {e : Fv} (hs : ∀ k e, k < cnt → J k e → ∃ e', (thenU (T (.int k)) B e = .ok .nx e' ∨ thenU (T (.int k)) B e = .ok .ct e') ∧ J (k + 1) e') (h : J 0 e) :
    ∃ e', loopF T B (rangeD 0 cnt) e = .ok .nx e' ∧ J cnt e' := by
  obtain ⟨e', h1, h2⟩ := loop_idx (T := T) (B := B) (D := fun k : Nat => PyData.int (0 + k)) (J := J) (ds := List.range cnt) (k := 0) (e := e) (fun i e hi hj => by
    have hi' : i < cnt := by simpa using hi
    have := hs i e hi' (by simpa using hj)
    simpa using this) h
  exact ⟨e', h1, by simpa using h2⟩
theorem loop_from {T : PyData → Mo Unit} {B : Mo Out} {J : Nat → Fv → Prop} {lo : Int} {cnt : Nat} {e : Fv} (hs : ∀ k e, k < cnt → J k e → ∃ e', (thenU (T (.int (lo + k))) B e = .ok .nx e' ∨ thenU (T (.int (lo + k))) B e = .ok .ct e') ∧ J (k + 1) e') (h : J 0 e) :
    ∃ e', loopF T B (rangeD lo cnt) e = .ok .nx e' ∧ J cnt e' := by
  obtain ⟨e', h1, h2⟩ := loop_idx (T := T) (B := B) (D := fun k : Nat => PyData.int (lo + k)) (J := J) (ds := List.range cnt) (k := 0) (e := e) (fun i e hi hj => by
    have hi' : i < cnt := by simpa using hi
    have := hs i e hi' (by simpa using hj)
    simpa using this) h
  exact ⟨e', h1, by simpa using h2⟩
/-- sums up to n -/
def sm (F : Nat → Int) : Nat → Int
  | 0 => 0
  | n + 1 => sm F n + F n
theorem sm_congr {F G : Nat → Int} : ∀ {n : Nat}, (∀ k, k < n → F k = G k) → sm F n = sm G n
  | 0, _ => rfl
  | n + 1, h => by rw [sm, sm, sm_congr fun k hk => h k (by omega), h n (by omega)]
theorem sm_mul {F : Nat → Int} {c : Int} : ∀ {n : Nat}, sm (fun k => c * F k) n = c * sm F n
  | 0 => by simp [sm]
  | n + 1 => by rw [sm, sm, sm_mul, Int.mul_add]
theorem sm_add {F G : Nat → Int} : ∀ {n : Nat}, sm (fun k => F k + G k) n = sm F n + sm G n
  | 0 => by simp [sm]
  | n + 1 => by rw [sm, sm, sm, sm_add]; omega
theorem sm_zero : ∀ {n : Nat}, sm (fun _ => 0) n = 0
  | 0 => rfl
  | n + 1 => by rw [sm, sm_zero]; rfl
theorem sm_single {j : Nat} {x : Int} : ∀ {n : Nat}, sm (fun k => if k = j then x else 0) n = if j < n then x else 0
  | 0 => by simp [sm]
  | n + 1 => by
    rw [sm, sm_single]
    by_cases h : j < n
    · rw [if_pos h, if_neg (by omega), if_pos (by omega)]; omega
    · by_cases h2 : n = j
      · rw [if_neg h, if_pos h2, if_pos (by omega)]; omega
      · rw [if_neg h, if_neg h2, if_neg (by omega)]; omega
/-- a sum over days of what comes again and again -/
theorem sm_period {g : Nat → Int} {R : Nat} (hR : 0 < R) (hg : ∀ d, g (d + R) = g d) : ∀ D : Nat, sm g D = sm (fun d => (if d < D % R then ((D / R : Nat) : Int) + 1 else (D / R : Nat)) * g d) R
  | 0 => by
    have : sm (fun d => (if d < 0 % R then ((0 / R : Nat) : Int) + 1 else (0 / R : Nat)) * g d) R = sm (fun _ => 0) R := sm_congr fun k hk => by simp
    rw [this, sm_zero]
    rfl
  | D + 1 => by
    have gm : g D = g (D % R) := by
      have : ∀ q r, g (r + q * R) = g r := fun q => by
        induction q with
        | zero => intro r; simp
        | succ q ih => intro r; rw [Nat.succ_mul, ← Nat.add_assoc, hg, ih]
      have e := Nat.mod_add_div D R
      rw [Nat.mul_comm] at e
      rw [← this (D / R) (D % R), e]
    have hlt : D % R < R := Nat.mod_lt _ hR
    rw [sm, sm_period hR hg D, gm]
    have e1 : sm (fun d => if d = D % R then g (D % R) else 0) R = g (D % R) := by rw [sm_single, if_pos hlt]
    rw [← e1, ← sm_add]
    refine sm_congr fun k hk => ?_
    have dm := Nat.mod_add_div D R
    by_cases hc : D % R + 1 < R
    · have m1 : (D + 1) % R = D % R + 1 := by
        rw [Nat.add_mod, Nat.mod_eq_of_lt (a := 1) (by omega), Nat.mod_eq_of_lt hc]
      have d1 : (D + 1) / R = D / R := by
        have := Nat.mod_add_div (D + 1) R
        have h2 : R * ((D + 1) / R) = R * (D / R) := by omega
        exact Nat.eq_of_mul_eq_mul_left hR h2
      rw [m1, d1]
      by_cases h3 : k = D % R
      · subst h3
        rw [if_neg (Nat.lt_irrefl _), if_pos rfl, if_pos (Nat.lt_succ_self _), Int.add_mul, Int.one_mul]
      · rw [if_neg h3, Int.add_zero]
        by_cases h4 : k < D % R
        · rw [if_pos h4, if_pos (by omega)]
        · rw [if_neg h4, if_neg (by omega)]
    · have hr : D % R = R - 1 := by omega
      have d1 : (D + 1) / R = D / R + 1 := by
        have : D + 1 = R * (D / R + 1) := by rw [Nat.mul_add]; omega
        rw [this, Nat.mul_div_cancel_left _ hR]
      have m1 : (D + 1) % R = 0 := by
        have : D + 1 = R * (D / R + 1) := by rw [Nat.mul_add]; omega
        rw [this, Nat.mul_mod_right]
      rw [m1, d1, hr]
      by_cases h3 : k = R - 1
      · subst h3
        rw [if_neg (Nat.lt_irrefl _), if_pos rfl, if_neg (Nat.not_lt_zero _)]
        push_cast
        rw [Int.add_mul, Int.one_mul]
      · rw [if_neg h3, if_pos (by omega), if_neg (Nat.not_lt_zero _), Int.add_zero]
        push_cast
        rfl

theorem set_sh {i : Nat} {F : Mo Rv} {e e' : Fv} {d : PyData} (h : F e = .ok (.sh d) e') : setF i F e = .ok .nx (e'.set i (.sh d)) := by
  simp [h]
theorem set_fr {i : Nat} {F : Mo Rv} {e e' : Fv} {ds : List PyData} (h : F e = .ok (.fr ds) e') : setF i F e = .ok .nx (e'.set i (.own none ds)) := by
  simp [h]
theorem set_nil {i : Nat} {e : Fv} : setF i (lstF nilF) e = .ok .nx (e.set i (.own none [])) := by
  simp [show 0 ≤ sizeLine by decide]
theorem ret_sh {F : Mo Rv} {e e' : Fv} {r : Rv} (h : F e = .ok r e') : retF F e = .ok (.rt r) e' := by
  simp [h]
theorem if_t {α : Type} {T : Mo Bool} {F1 F2 : Mo α} {e e' : Fv} (h : T e = .ok true e') : ifF T F1 F2 e = F1 e' := by
  simp [h]
theorem if_f {α : Type} {T : Mo Bool} {F1 F2 : Mo α} {e e' : Fv} (h : T e = .ok false e') : ifF T F1 F2 e = F2 e' := by
  simp [h]
theorem boolF_ok {F : Mo Rv} {e e' : Fv} {b : Bool} (h : F e = .ok (.sh (.bool b)) e') : boolF F e = .ok b e' := by
  simp [h]
theorem truthF_bool {F : Mo Rv} {e e' : Fv} {b : Bool} (h : F e = .ok (.sh (.bool b)) e') : truthF F e = .ok b e' := by
  simp [h]
theorem notF_ok {F : Mo Bool} {e e' : Fv} {b : Bool} (h : F e = .ok b e') : notF F e = .ok (!b) e' := by
  simp [h]
theorem or_f {F1 F2 : Mo Bool} {e e' : Fv} (h : F1 e = .ok false e') : orF F1 F2 e = F2 e' := by
  simp [h]
theorem or_t {F1 F2 : Mo Bool} {e e' : Fv} (h : F1 e = .ok true e') : orF F1 F2 e = .ok true e' := by
  simp [h]
theorem and_t {F1 F2 : Mo Bool} {e e' : Fv} (h : F1 e = .ok true e') : andF F1 F2 e = F2 e' := by
  simp [h]
theorem and_f {F1 F2 : Mo Bool} {e e' : Fv} (h : F1 e = .ok false e') : andF F1 F2 e = .ok false e' := by
  simp [h]
theorem skip_ok {e : Fv} : skipF e = .ok .nx e := rfl
/-- a check that is kept -/
theorem check_ok {T : Mo Bool} {F : Mo Out} {e e' : Fv} (h : T e = .ok false e') : ifF T F skipF e = .ok .nx e' := by
  rw [if_f h]
  rfl

theorem bin_ok {g : PyData → PyData → Option Rv} {F1 F2 : Mo Rv} {e e1 e2 : Fv} {r1 r2 res : Rv} {d1 d2 : PyData} (h1 : F1 e = .ok r1 e1) (h2 : F2 e1 = .ok r2 e2) (p1 : peek (hold r1) e2 = .ok d1 e2) (p2 : peek r2 e2 = .ok d2 e2) (h : g d1 d2 = some res) :
    binF g F1 F2 e = .ok res e2 := by
  unfold binF
  rw [bind_app, h1]
  show (F2 >>= _) e1 = _
  rw [bind_app, h2]
  show (peek (hold r1) >>= _) e2 = _
  rw [bind_app, p1]
  show (peek r2 >>= _) e2 = _
  rw [bind_app, p2]
  show liftO (g d1 d2) e2 = _
  rw [h]
  rfl
theorem call_ok {n : Nat} {g : List PyData → FnR} {Fs : Mo (List Rv)} {e e1 e2 : Fv} {rs : List Rv} {ds : List PyData} {r : Rv} (h1 : Fs e = .ok rs e1) (h2 : forces rs e1 = .ok ds e2) (hl : ds.length = n) (h : g ds = .ok r) : callF n g Fs e = .ok r e2 := by
  unfold callF
  rw [bind_app, h1]
  show (forces rs >>= _) e1 = _
  rw [bind_app, h2]
  show (if ds.length = n then endF (g ds) else stuckM) e2 = _
  rw [if_pos hl, h]
  rfl

theorem cut_to {ds : List PyData} {k : Nat} : cutD ds none (some (k : Int)) = ds.take k := by
  unfold cutD
  rw [HT.sIx_none, HT.sIx_nat, Nat.sub_zero, List.drop_zero, List.take_eq_take_min, Nat.min_comm]
  simp [Nat.min_comm]
theorem cut_from {ds : List PyData} {k : Nat} : cutD ds (some (k : Int)) none = ds.drop k := by
  unfold cutD
  rw [HT.sIx_none, HT.sIx_nat]
  by_cases h : k ≤ ds.length
  · rw [Nat.min_eq_left h, List.take_of_length_le (by rw [List.length_drop]; omega)]
  · rw [Nat.min_eq_right (by omega), List.drop_length, List.drop_of_length_le (by omega)]
    simp
theorem cut_between {ds : List PyData} {j k : Nat} (h : j ≤ k) (hk : k ≤ ds.length) : cutD ds (some (j : Int)) (some (k : Int)) = (ds.drop j).take (k - j) := by
  unfold cutD
  rw [HT.sIx_nat, HT.sIx_nat, Nat.min_eq_left hk, Nat.min_eq_left (Nat.le_trans h hk)]
/-! ### comprehensions that change what they run over -/
theorem lcLoop_inv {vs : List Nat} {T : PyData → Mo Unit} {C : Mo Bool} {F : Mo Rv} {J : List PyData → Fv → Prop} : ∀ {ds acc : List PyData} {e : Fv},
    (∀ d ∈ ds, ∀ acc e, J acc e → ∃ e1 b e2, T d (wipeE vs e) = .ok () e1 ∧ C e1 = .ok b e2 ∧ ((b = true ∧ ∃ x e3, (F >>= force) e2 = .ok x e3 ∧ J (acc ++ [x]) e3) ∨ (b = false ∧ J acc e2))) → acc.length + ds.length ≤ sizeLine → J acc e →
    ∃ acc' e', lcLoop vs T C F ds acc e = .ok acc' e' ∧ J acc' e'
  | [], acc, e, _, _, h => ⟨acc, e, rfl, h⟩
  | d :: ds, acc, e, hs, hl, h => by
    have hl' : acc.length + (ds.length + 1) ≤ sizeLine := by simpa using hl
    obtain ⟨e1, b, e2, h1, h2, h3⟩ := hs d (by simp) acc e h
    unfold lcLoop
    simp only [thenU, h1]
    rw [bind_app, h2]
    rcases h3 with ⟨rfl, x, e3, h4, h5⟩ | ⟨rfl, h5⟩
    · obtain ⟨acc', e', g1, g2⟩ := lcLoop_inv (ds := ds) (acc := acc ++ [x]) (e := e3) (fun y hy => hs y (by simp [hy])) (by simp; omega) h5
      refine ⟨acc', e', ?_, g2⟩
      rw [← g1]
      simp only [if_true]
      rw [bind_app] at h4 ⊢
      cases z : (F e2 : Res Rv) with
      | exc c e9 => rw [z] at h4; simp at h4
      | stuck => rw [z] at h4; simp at h4
      | ok r e9 =>
        rw [z] at h4
        simp only at h4 ⊢
        rw [bind_app, h4]
        simp only
        rw [if_pos (by omega)]
    · obtain ⟨acc', e', g1, g2⟩ := lcLoop_inv (ds := ds) (acc := acc) (e := e2) (fun y hy => hs y (by simp [hy])) (by omega) h5
      refine ⟨acc', e', ?_, g2⟩
      rw [← g1]
      simp only [Bool.false_eq_true, if_false]
theorem lc_inv {vs : List Nat} {Io : Mo (List PyData)} {T : PyData → Mo Unit} {C : Mo Bool} {F : Mo Rv} {J : List PyData → Fv → Prop} {e0 e : Fv} {ds : List PyData} (hI : Io e0 = .ok ds e) (no : noOwn vs e = true) (hl : ds.length ≤ sizeLine) (hJ : J [] e)
    (hs : ∀ d ∈ ds, ∀ acc e, J acc e → ∃ e1 b e2, T d (wipeE vs e) = .ok () e1 ∧ C e1 = .ok b e2 ∧ ((b = true ∧ ∃ x e3, (F >>= force) e2 = .ok x e3 ∧ J (acc ++ [x]) e3) ∨ (b = false ∧ J acc e2))) :
    ∃ acc e', lcF vs Io T C F e0 = .ok (.fr acc) (restE e vs e') ∧ J acc e' := by
  obtain ⟨acc, e', h1, h2⟩ := lcLoop_inv (J := J) (ds := ds) (acc := []) (e := e) hs (by simpa using hl) hJ
  refine ⟨acc, e', ?_, h2⟩
  unfold lcF
  simp only [bind_app, hI]
  unfold block
  rw [if_pos no, h1]
  simp only [pure_app]
theorem lcLoop_yes {vs : List Nat} {T : PyData → Mo Unit} {F : Mo Rv} {J : List PyData → Fv → Prop} : ∀ {ds acc : List PyData} {e : Fv},
    (∀ d ∈ ds, ∀ acc e, J acc e → ∃ e1 x e3, T d (wipeE vs e) = .ok () e1 ∧ (F >>= force) e1 = .ok x e3 ∧ J (acc ++ [x]) e3) → acc.length + ds.length ≤ sizeLine → J acc e →
    ∃ acc' e', lcLoop vs T yesF F ds acc e = .ok acc' e' ∧ J acc' e' ∧ acc'.length = acc.length + ds.length
  | [], acc, e, _, _, h => ⟨acc, e, rfl, h, rfl⟩
  | d :: ds, acc, e, hs, hl, h => by
    have hl' : acc.length + (ds.length + 1) ≤ sizeLine := by simpa using hl
    obtain ⟨e1, x, e3, h1, h4, h5⟩ := hs d (by simp) acc e h
    obtain ⟨acc', e', g1, g2, g3⟩ := lcLoop_yes (ds := ds) (acc := acc ++ [x]) (e := e3) (fun y hy => hs y (by simp [hy])) (by simp; omega) h5
    refine ⟨acc', e', ?_, g2, by rw [g3]; simp; omega⟩
    rw [← g1]
    show lcLoop vs T yesF F (d :: ds) acc e = _
    unfold lcLoop
    simp only [thenU, h1]
    rw [bind_app, yesF_app, pure_app]
    simp only [if_true]
    rw [bind_app] at h4 ⊢
    cases z : (F e1 : Res Rv) with
    | exc c e9 => rw [z] at h4; simp at h4
    | stuck => rw [z] at h4; simp at h4
    | ok r e9 =>
      rw [z] at h4
      simp only at h4 ⊢
      rw [bind_app, h4]
      simp only
      rw [if_pos (by omega)]
      cases ds <;> rfl
theorem lc_yes {vs : List Nat} {Io : Mo (List PyData)} {T : PyData → Mo Unit} {F : Mo Rv} {J : List PyData → Fv → Prop} {e0 e : Fv} {ds : List PyData} (hI : Io e0 = .ok ds e) (no : noOwn vs e = true) (hl : ds.length ≤ sizeLine) (hJ : J [] e)
    (hs : ∀ d ∈ ds, ∀ acc e, J acc e → ∃ e1 x e3, T d (wipeE vs e) = .ok () e1 ∧ (F >>= force) e1 = .ok x e3 ∧ J (acc ++ [x]) e3) :
    ∃ acc e', lcF vs Io T yesF F e0 = .ok (.fr acc) (restE e vs e') ∧ J acc e' ∧ acc.length = ds.length := by
  obtain ⟨acc, e', h1, h2, h3⟩ := lcLoop_yes (J := J) (ds := ds) (acc := []) (e := e) hs (by simpa using hl) hJ
  refine ⟨acc, e', ?_, h2, by simpa using h3⟩
  unfold lcF
  simp only [bind_app, hI]
  unfold block
  rw [if_pos no, h1]
  simp only [pure_app]
theorem restE_at {vs : List Nat} {e e' : Fv} {i : Nat} (h : i ∉ vs) : (restE e vs e')[i]? = e'[i]? := restE_out h
/-- what a block leaves: the slots of the block as they were -/
theorem restE_agr {vs ws : List Nat} {e e' : Fv} (h : Agr (vs ++ ws) e e') : Agr ws e (restE e vs e') := by
  refine ⟨by rw [restE_length]; exact h.len, fun i hi => ?_⟩
  by_cases hv : i ∈ vs
  · by_cases hl : i < e.length
    · rw [restE_in hv (by rw [h.len]; exact hl), List.getElem?_eq_getElem hl]
      rfl
    · rw [List.getElem?_eq_none (by rw [restE_length, h.len]; omega), List.getElem?_eq_none (by omega)]
  · rw [restE_at hv]
    exact h.at_ i (by simp [hv, hi])

/-- a comprehension of few items, told one by one -/
theorem lc_tab {v : Nat} {Io : Mo (List PyData)} {F : Mo Rv} {e0 e : Fv} (l : List (PyData × PyData)) (hI : Io e0 = .ok (l.map Prod.fst) e) (hv : v < e.length) (no : noOwn [v] e = true) (hl : l.length ≤ sizeLine)
    (hF : ∀ d ∈ l, (F >>= force) (e.set v (.sh d.1)) = .ok d.2 (e.set v (.sh d.1))) : lcF [v] Io (toSlot v) yesF F e0 = .ok (.fr (l.map Prod.snd)) e := by
  have := lc_map (D := Prod.fst) (C := yesF) (l := l) (fun _ => true) Prod.snd hI hv no hl (fun d _ => yesF_app _) fun d hd _ => hF d hd
  rw [List.filter_eq_self.mpr (by simp)] at this
  exact this
theorem noOwn_sh {v : Nat} {e : Fv} {d : PyData} (h : e[v]? = some (.sh d)) : noOwn [v] e = true := by
  simp [noOwn, h]
theorem noOwn_un {v : Nat} {e : Fv} (h : e[v]? = some .un) : noOwn [v] e = true := by
  simp [noOwn, h]
theorem noOwn_eq {v : Nat} {e e' : Fv} (h : e'[v]? = e[v]?) (no : noOwn [v] e = true) : noOwn [v] e' = true := by
  simp only [noOwn, List.all_cons, List.all_nil, Bool.and_true] at no ⊢
  rw [h]
  exact no
/-- range(2) -/
theorem range_two {k : Int} {e : Fv} (hk : k = 2) : range1I (consF (constF (.int k)) nilF) e = .ok [.int 0, .int 1] e := by
  subst hk
  rw [range1_ok (j := 2) (e' := e) (by simp) (by omega) (by omega)]
  rfl

/-! ### lists of ints by places -/
def vec (n : Nat) (f : Nat → Int) : List PyData := (List.range n).map fun k => .int (f k)
@[simp] theorem vec_length {n : Nat} {f : Nat → Int} : (vec n f).length = n := by simp [vec]
theorem vec_get {n : Nat} {f : Nat → Int} {k : Nat} (h : k < n) : (vec n f)[k]? = some (.int (f k)) := by simp [vec, h]
theorem vec_at {n : Nat} {f : Nat → Int} {k : Nat} (h : k < n) : atI (vec n f) (k : Int) = some (.int (f k)) := by
  rw [atI_nat (by omega) (by rw [vec_length]; omega), Int.toNat_natCast, vec_get h]
theorem vec_set {n : Nat} {f : Nat → Int} {j : Nat} {x : Int} (h : j < n) : (vec n f).set j (.int x) = vec n fun k => if k = j then x else f k := by
  refine List.ext_getElem? fun i => ?_
  by_cases hi : i < n
  · by_cases hj : j = i
    · subst hj
      rw [List.getElem?_set_self (by simpa using hi), vec_get hi]
      simp
    · rw [List.getElem?_set_ne hj, vec_get hi, vec_get hi]
      simp [Ne.symm hj]
  · rw [List.getElem?_eq_none (by simp; omega), List.getElem?_eq_none (by simp; omega)]
theorem vec_ix {n : Nat} {f : Nat → Int} {j : Nat} (h : j < n) : ixN (vec n f).length (j : Int) = some j := by
  simp [ixN, h]
theorem vec_congr {n : Nat} {f g : Nat → Int} (h : ∀ k, k < n → f k = g k) : vec n f = vec n g := by
  unfold vec
  exact List.map_congr_left fun k hk => by rw [h k (List.mem_range.mp hk)]
theorem vec_const {n : Nat} {c : Int} : vec n (fun _ => c) = List.replicate n (PyData.int c) := by
  unfold vec
  rw [List.map_const', List.length_range]
theorem vec_rep {n : Nat} {c : Int} : (List.replicate n [PyData.int c]).flatten = vec n fun _ => c := by
  rw [vec_const]
  induction n with
  | zero => rfl
  | succ n ih => rw [List.replicate_succ, List.flatten_cons, ih]; rfl
theorem mulG_lst {xs : List PyData} {k : Int} (h : -(2 ^ 63) ≤ k ∧ k < 2 ^ 63 ∧ xs.length * k.toNat ≤ sizeLine) : mulG (.list xs) (.int k) = some (.fr (List.replicate k.toNat xs).flatten) := by
  rw [mulG, if_pos h]
theorem mulG_tpl {xs : List PyData} {k : Int} (h : xs ≠ [] ∧ 2 ≤ k ∧ k ≤ 1000 ∧ xs.length ≤ 1000) : mulG (.tuple xs) (.int k) = some (.sh (.tuple (List.replicate k.toNat xs).flatten)) := by
  rw [mulG, if_pos h]
theorem mulG_vec {n : Nat} {c : Int} (h : n ≤ 100000) : mulG (.list [.int c]) (.int n) = some (.fr (vec n fun _ => c)) := by
  rw [mulG_lst ⟨by omega, by omega, by simp; unfold sizeLine; omega⟩, Int.toNat_natCast, vec_rep]
theorem flat_one {n : Nat} {d : PyData} : (List.replicate n [d]).flatten = List.replicate n d := by
  induction n with
  | zero => rfl
  | succ n ih => rw [List.replicate_succ, List.flatten_cons, ih]; rfl
theorem mulG1_tup {n : Nat} {d : PyData} (h0 : 1 ≤ n) (h : n ≤ 1000) : mulG1 (.tuple [d]) (.int n) = some (.sh (.tuple (List.replicate n d))) := by
  by_cases h1 : (n : Int) = 1
  · have : n = 1 := by omega
    subst this
    rfl
  · simp only [mulG1, if_neg h1]
    rw [mulG_tpl ⟨by simp, by omega, by omega, by simp⟩, Int.toNat_natCast, flat_one]
/-- xs = [c] * n -/
theorem zeros_ok {i j n : Nat} {c : Int} {e : Fv} (h : e[j]? = some (.sh (.int n))) (hn : n ≤ 100000) : setF i (binF mulG (lstF (consF (constF (.int c)) nilF)) (readF j)) e = .ok .nx (e.set i (.own none (vec n fun _ => c))) := by
  refine set_fr (bin_ok (e1 := e) (r1 := .fr [.int c]) (r2 := .sh (.int n)) (d1 := .list [.int c]) (d2 := .int n) ?_ ?_ rfl rfl (mulG_vec hn))
  · simp [show 1 ≤ sizeLine by decide]
  · simp [h]
theorem vec_plain {n : Nat} {f : Nat → Int} {m : Nat} : ∀ d ∈ vec n f, Plain m d := fun d hd => by
  obtain ⟨k, _, rfl⟩ := List.mem_map.mp hd
  exact .int _
theorem intsOf_vec {n : Nat} {f : Nat → Int} : intsOf (vec n f) = some ((List.range n).map f) := by
  have : vec n f = ((List.range n).map f).map PyData.int := by simp [vec, List.map_map]
  rw [this, intsOf_map]
theorem vec_inj {n : Nat} {f g : Nat → Int} (h : vec n f = vec n g) : ∀ k, k < n → f k = g k := fun k hk => by
  have := congrArg (·[k]?) h
  simpa [vec_get hk] using this
@[simp ↓] theorem augItemF_app (i : Nat) (g : PyData → PyData → Option Rv) (Fi F : Mo Rv) (e : Fv) : augItemF i g Fi F e = (do
  needOwn i
  let rj ← Fi
  let dj ← peek rj
  let ds ← getOwn i
  match dj with
  | .int k => match atI ds k with
    | some old => do
      let r ← F
      let d2 ← peek r
      let res ← liftO (g old d2)
      let ds' ← getOwn i
      match res with
      | .sh d => match ixN ds'.length k with
        | some j => do
          putOwn i (ds'.set j d)
          pure .nx
        | none => stuckM
      | _ => stuckM
    | none => stuckM
  | _ => stuckM : Mo Out) e := Eq.trans rfl rfl
end Cf
/-! Cg, part A: what is never come to. -/
namespace Cf
open PySem PySem.Spec PyProof.Rows L2
/-- a statement that is never come to -/
def neverF : Mo Out := stuckM
theorem es_never {X : Cx} {fr : Fr} {st : Stmt} : PSv X fr st neverF := ⟨fun pins s σ H D I ⟨env, G, h, w⟩ => w.elim⟩
end Cf
/-! Cg, part B: tuple(..) of a generator expression. -/
namespace Cf
open PySem PySem.Spec PyProof.Rows L2 GenW GxR

/-! ### the function -/
def collL (T : PyData → Mo Unit) (C : Mo Bool) (F : Mo Rv) : List PyData → List PyData → Mo (List PyData)
  | [], acc => pure acc
  | d :: ds, acc => thenU (T d) do
    let c ← C
    if c = true then do
      let r ← F
      let x ← force r
      if acc.length < sizeLine then collL T C F ds (acc ++ [x]) else stuckM
    else collL T C F ds acc
mutual
/-- no list within -/
def noLst : PyData → Bool
  | .list _ => false
  | .dict _ => false
  | .tuple ds => noLsts ds
  | _ => true
def noLsts : List PyData → Bool
  | [] => true
  | d :: ds => noLst d && noLsts ds
end
def collF (ixs : List Nat) (m : Nat) (I : Mo (List PyData)) (T : PyData → Mo Unit) (C : Mo Bool) (F : Mo Rv) : Mo (List PyData) := do
  let ds ← I
  inGen ixs m (do
    let xs ← collL T C F ds []
    if noLsts xs = true then pure xs else stuckM)
def tupGen (ixs : List Nat) (m : Nat) (I : Mo (List PyData)) (T : PyData → Mo Unit) (C : Mo Bool) (F : Mo Rv) : Mo Rv := do
  let xs ← collF ixs m I T C F
  pure (.sh (.tuple xs))

section
variable {K : PySem.W.Frag} {G G' : Hp} {A : Addr → Bool}
mutual
theorem Dq.dropped (hA : ∀ a, A a = true → ∀ o, G a = some o → ∃ xs, o = .lst xs) : ∀ (d : PyData) (v : V), noLst d = true → Dq K G v d → Dq K (drop G A) v d
  | .none, _, _, h => by cases h; exact .non
  | .bool b, _, _, h => by cases h; exact .bl b
  | .int i, _, _, h => by cases h; exact .int i
  | .str x, _, _, h => by cases h; exact .str x
  | .list ds, _, n, _ => by simp [noLst] at n
  | .dict kvs, _, n, _ => by simp [noLst] at n
  | .tuple ds, _, n, h => by
    cases h with
    | tup h1 h2 =>
      refine .tup ?_ (DqAll.dropped hA ds _ (by simpa [noLst] using n) h2)
      have key : ∀ {a : Addr} {o : HO}, (∀ xs, o ≠ .lst xs) → G a = some o → drop G A a = some o := fun {a o} hn e => by
        unfold drop
        cases z : A a with
        | false => simpa using e
        | true =>
          obtain ⟨xs, q⟩ := hA a z o e
          exact absurd q (hn xs)
      rcases h1 with h1 | h1
      · refine .inl ?_
        rcases h1 with h1 | ⟨x, h1⟩
        · exact .inl (key (fun _ z => by cases z) h1)
        · exact .inr ⟨x, key (fun _ z => by cases z) h1⟩
      · exact .inr h1
theorem DqAll.dropped (hA : ∀ a, A a = true → ∀ o, G a = some o → ∃ xs, o = .lst xs) : ∀ (ds : List PyData) (vs : List V), noLsts ds = true → DqAll K G vs ds → DqAll K (drop G A) vs ds
  | [], _, _, h => by cases h; exact .nil
  | d :: ds, _, n, h => by
    have n' : noLst d = true ∧ noLsts ds = true := by simpa [noLsts] using n
    cases h with
    | cons h1 h2 => exact .cons (Dq.dropped hA d _ n'.1 h1) (DqAll.dropped hA ds _ n'.2 h2)
end
end

/-! ### the run -/
structure GFinL (X' : Cx) (fr' : Fr) (G0 : Hp) (D : Addr) (Qd : List PyData → Prop) (s : Shared) (σ : L2.St) (H G : Hp) (env : Fv) (acc : List PyData) (accV : List V) : Prop where
  q : Qd acc
  inv : Inv X' [] σ H s
  sr : SR X'.K fr' env σ H G
  sub : Sub G0 G
  hD : H D = some (.lst accV)
  da : DqAll X'.K G accV acc
  gD : G D = none
def GRestL (X' : Cx) (fr' : Fr) (G0 : Hp) (D : Addr) (Qd : List PyData → Prop) : GenEnd := fun _ _ r s => r = .ok .next ∧ ∃ σ H G env acc accV, GFinL X' fr' G0 D Qd s σ H G env acc accV
/-- the consumer has pushed v on its list -/
structure Psh (D : Addr) (v : Value) (s s' : Shared) : Prop where
  os : s'.os = s.os
  bare : AllBare s'.gens
  heap : s'.heap = s.heap.update D (Obj.mapSeq (·.push v))
def GItemL (D a : Addr) (g : Nat) : Protocol := fun _ _ v s kap =>
  s.heap.NoLimit ∧ s.heap.IsGen a g ∧ AllBare s.gens ∧ (∃ acc c, s.heap.get? D = some (lstObj acc c) ∧ acc.size < sizeLine) ∧ ∀ s', Psh D v s s' → kap (.send .none) s'

section
variable {X : Cx} {A1 : Around} {s4 : Shared} {H4 : Hp} {scope : Scope} {N : List Str} {cenv : Env} {fp : List Addr} {a D : Addr} {go : Obj} {tg elt iter : Expr} {ifs : List Expr} {pos : Pos} {it : Addr} {J : It} {tn : Nat → Heap → Prop} {ws : List Nat}
  {T : PyData → Mo Unit} {C : Mo Bool} {F : Mo Rv} {p0 : Hp} {tabs : List Addr} {G0 : Hp} {ds : List PyData} {Qd : List PyData → Prop} {g : Nat}
theorem seg_coll (hco : cenv.scope.isCoroutine = false) (hgen : ∀ h : Heap, h.get? a = some go → h.IsGen a g) (TT : Turn X.prog X.w X.K tg J fp it tn) (io : ItOk X.K J G0 ds) (hDf : D ∉ fp) (pD : p0 D = none) (nT : D ∉ tabs)
    (hg : ∀ p', PGv (genC X A1 s4 H4 scope N cenv fp [(a, go)]) ⟨p', [], tabs, fun _ _ => False⟩ tg ws T) (hc : ∀ p', PTsv (genC X A1 s4 H4 scope N cenv fp [(a, go)]) ⟨p', [], tabs, fun _ _ => False⟩ ifs C)
    (hb : ∀ p', PEv (genC X A1 s4 H4 scope N cenv fp [(a, go)]) ⟨p', [], tabs, fun _ _ => False⟩ elt F) :
    ∀ (k i n : Nat) (s₀ s : Shared) (env : Fv) (σ : L2.St) (H G : Hp) (acc : List PyData) (accV : List V), ds.length - i = k → k ≤ n → i ≤ ds.length → Inv (genC X A1 s4 H4 scope N cenv fp [(a, go)]) [] σ H s → tn i s.heap → (∀ b ∈ fp, FpOk (genC X A1 s4 H4 scope N cenv fp [(a, go)]) [] H b) →
      SR X.K ⟨p0, [], tabs, fun _ _ => False⟩ env σ H G → Sub G0 G → H D = some (.lst accV) → DqAll X.K G accV acc → G D = none → (∀ (i : Nat) (t : Option Nat) (es : List PyData), env[i]? = some (.own t es) → σ[i]? ≠ some (some (.ref D))) →
      wpM (collL T C F (ds.drop i) acc) env (fun acc _ => Qd acc) (fun _ _ => False) →
      Seg (model X.prog X.w) A1 (GRestL (genC X A1 s4 H4 scope N cenv fp [(a, go)]) ⟨p0, [], tabs, fun _ _ => False⟩ G0 D Qd) (GItemL D a g) n s₀
        (.compLoop (.GeneratorExp elt [⟨tg, iter, ifs, 0⟩] scope pos) 0 (.ref it) .none cenv) ((model X.prog X.w).den (.compLoop (.GeneratorExp elt [⟨tg, iter, ifs, 0⟩] scope pos) 0 (.ref it) .none cenv)) [] s := by
  intro k
  induction k with
  | zero =>
    intro i n s₀ s env σ H G acc accV hk hn hi I st hf h sG hD dA gD nA w
    have hin : i = ds.length := by omega
    subst hin
    rw [List.drop_length] at w
    show Seg _ A1 _ _ _ s₀ _ ((compTurn (.GeneratorExp elt [⟨tg, iter, ifs, 0⟩] scope pos) 0 (.ref it) .none cenv).onRaise (leaving cenv)) [] s
    rw [compTurn_gen, Sem.onRaise_eq_wrap]
    refine seg_bind_wrap (wpAny_standAt ?_)
    refine seg_bind_wrap ?_
    rw [over_comp]
    refine wpAny_mono (TT.done (genC X A1 s4 H4 scope N cenv fp [(a, go)]) rfl rfl rfl rfl _ [] s σ H (fun _ _ => False) I hf st (io.stop H G sG h.sub)) (fun r s5 ⟨hr, I5⟩ => ?_) fun _ _ e => e.elim
    subst hr
    exact seg_end (.ok .next) ⟨rfl, σ, H, G, env, acc, accV, w, I5, h, sG, hD, dA, gD⟩
  | succ k ih =>
    intro i n s₀ s env σ H G acc accV hk hn hi I st hf h sG hD dA gD nA w
    have hlt : i < ds.length := by omega
    have stat : ∀ {H' : Hp}, (∀ b ∈ fp, H' b = none) → ∀ b ∈ fp, FpOk (genC X A1 s4 H4 scope N cenv fp [(a, go)]) [] H' b := fun hn b hb => ⟨hn b hb, (hf b hb).2⟩
    rw [List.drop_eq_getElem_cons hlt] at w
    unfold collL at w
    have w1 := wpM_T w
    show Seg _ A1 _ _ _ s₀ _ ((compTurn (.GeneratorExp elt [⟨tg, iter, ifs, 0⟩] scope pos) 0 (.ref it) .none cenv).onRaise (leaving cenv)) [] s
    rw [compTurn_gen, Sem.onRaise_eq_wrap]
    refine seg_bind_wrap (wpAny_standAt ?_)
    refine seg_bind_wrap ?_
    rw [over_comp]
    refine wpAny_mono (TT.item (genC X A1 s4 H4 scope N cenv fp [(a, go)]) rfl rfl rfl rfl i [] s σ H (fun _ _ => False) I hf st (io.go i H G sG h.sub hlt)) (fun r s4' ⟨u, hr, h4⟩ => ?_) fun _ _ e => e.elim
    subst hr
    refine seg_bind_wrap ?_
    rw [over_comp]
    refine wpAny_mono h4 (fun _ s5 ⟨x, H5, I5, r5, y5, st5, fr5⟩ => ?_) fun _ _ e => e.elim
    have I5' := I5.pinned (stat fr5) (TT.obj _ _ st5)
    obtain ⟨G5, d, e5, stp, q5⟩ := io.yld i H G x H5 sG h.sub hlt y5
    rw [List.getElem?_eq_getElem hlt] at e5
    cases e5
    have gD5 : G5 D = none := by
      cases z : G5 D with
      | none => rfl
      | some o =>
        rcases stp.new D (ne_none_of z) with q | q
        · exact absurd gD q
        · rw [hD] at q; cases q
    have h5 := (h.stp stp).guard (stp.ext _ _ hD) gD5 nT nA (fun _ _ => False)
    refine seg_bind_wrap ?_
    rw [over_comp]
    refine wpAny_mono ((hg (upd p0 D (.lst accV))).run _ s5 σ H5 x u (fun σ6 H6 => ∃ env6 G6, SR X.K ⟨upd p0 D (.lst accV), [], tabs, fun _ _ => False⟩ env6 σ6 H6 G6 ∧ Sub G5 G6 ∧ wpM (C >>= fun c => if c = true then (F >>= fun r => force r >>= fun x => if acc.length < sizeLine then collL T C F (ds.drop (i + 1)) (acc ++ [x]) else stuckM) else collL T C F (ds.drop (i + 1)) acc) env6 (fun b _ => Qd b) (fun _ _ => False)) I5' r5
      ⟨env, G5, _, h5, q5, wpM_mono w1 (fun _ env6 w6 σ6 G6 _ h6 s6 => ⟨env6, G6, h6, s6, w6⟩) fun _ _ z => z⟩) (fun _ s6 ⟨σ6, H6, I6, env6, G6, h6, s56, w6⟩ => ?_) fun _ _ e => e.elim
    have keep : ∀ {σ7 : L2.St} {H7 : Hp} {s7 : Shared}, Inv (genC X A1 s4 H4 scope N cenv fp [(a, go)]) ([] ++ pinsAt fp s5.heap) σ7 H7 s7 → tn (i + 1) s7.heap ∧ ∀ b ∈ fp, FpOk (genC X A1 s4 H4 scope N cenv fp [(a, go)]) [] H7 b := fun {σ7 H7 s7} I7 =>
      ⟨TT.keep _ _ _ st5 fun b hb o e => (I7.pin (b, o) (List.mem_append_right _ (List.mem_append_right _ (mem_pinsAt hb e)))).1, stat fun b hb => by
        obtain ⟨o, e, d⟩ := TT.obj _ _ st5 b hb
        exact (I7.pin (b, o) (List.mem_append_right _ (List.mem_append_right _ (mem_pinsAt hb e)))).2.1⟩
    have back : ∀ {env7 : Fv} {σ7 : L2.St} {H7 G7 : Hp}, SR X.K ⟨upd p0 D (.lst accV), [], tabs, fun _ _ => False⟩ env7 σ7 H7 G7 → SR X.K ⟨p0, [], tabs, fun _ _ => False⟩ env7 σ7 H7 G7 ∧ H7 D = some (.lst accV) ∧ G7 D = none ∧ ∀ (i : Nat) (t : Option Nat) (es : List PyData), env7[i]? = some (.own t es) → σ7[i]? ≠ some (some (.ref D)) := fun {env7 σ7 H7 G7} h7 =>
      SR.unguard (fr := ⟨p0, [], tabs, fun _ _ => False⟩) pD h7
    refine seg_bind_wrap ?_
    rw [over_comp]
    refine wpAny_mono ((hc (upd p0 D (.lst accV))).run _ s6 σ6 H6 (fun c H7 => ∃ env7 G7, SR X.K ⟨upd p0 D (.lst accV), [], tabs, fun _ _ => False⟩ env7 σ6 H7 G7 ∧ Sub G5 G7 ∧ wpM (if c = true then (F >>= fun r => force r >>= fun x => if acc.length < sizeLine then collL T C F (ds.drop (i + 1)) (acc ++ [x]) else stuckM) else collL T C F (ds.drop (i + 1)) acc) env7 (fun b _ => Qd b) (fun _ _ => False)) I6
      ⟨env6, G6, h6, wpM_mono (wpM_bind.mp w6) (fun c env7 w7 H7 G7 h7 s7 => ⟨env7, G7, h7, s56.trans s7, w7⟩) fun _ _ z => z.elim⟩) (fun ok s7 ⟨H7, I7, env7, G7, h7, s57, w7⟩ => ?_) fun _ _ e => e.elim
    cases ok with
    | false =>
      simp only [Bool.false_eq_true, if_false] at w7 ⊢
      obtain ⟨k1, k2⟩ := keep I7
      obtain ⟨b1, b2, b3, b4⟩ := back h7
      exact seg_again rfl (ih (i + 1) n s₀ s7 env7 σ6 H7 G7 acc accV (by omega) (by omega) hlt I7.unpinned k1 k2 b1 ((sG.trans stp.mono).trans s57) b2 (Sub.dqAll (stp.mono.trans s57) _ _ dA) b3 b4 w7)
    | true =>
      simp only [if_true] at w7 ⊢
      obtain ⟨n, rfl⟩ : ∃ m, n = m + 1 := ⟨n - 1, by omega⟩
      have hy : ∀ v, yieldOut cenv v = yieldValue v := fun v => by simp only [yieldOut, hco, Bool.false_eq_true, if_false]
      simp only [hy]
      rw [Sem.bind_eq_wrap', Sem.bind_eq_wrap', Sem.wrap_wrap, Sem.wrap_wrap]
      refine seg_wrap ?_
      rw [over_comp]
      refine wpAny_mono (PE.run (hb (upd p0 D (.lst accV))) _ s7 σ6 H7 (fun v H8 => ∃ x env8 G8, SR X.K ⟨upd p0 D (.lst accV), [], tabs, fun _ _ => False⟩ env8 σ6 H8 G8 ∧ Sub G5 G8 ∧ Dq X.K G8 v x ∧ wpM (if acc.length < sizeLine then collL T C F (ds.drop (i + 1)) (acc ++ [x]) else stuckM) env8 (fun b _ => Qd b) (fun _ _ => False)) I7
        (tE_then h7 w7 (fun r env8 H8 G8 v h8 s8 q8 w8 => by
          obtain ⟨x6, env9, G9, h9, s9, d9, w9⟩ := force_ok h8 q8 (wpM_bind.mp w8)
          exact ⟨x6, env9, G9, h9, (s57.trans s8).trans s9, d9, w9⟩) fun c e1 E1 H1 G1 h1 s1 => E1.elim)) (fun y s8 ⟨v, H8, I8, rv, x, env8, G8, h8, s58, d8, w8⟩ => ?_) fun _ _ e => e.elim
      split at w8
      case isFalse => exact w8.elim
      rename_i hz
      obtain ⟨k1, k2⟩ := keep I8
      obtain ⟨b1, b2, b3, b4⟩ := back h8
      have hgen8 := hgen _ (I8.pin (a, go) (List.mem_append_left _ (List.mem_singleton.mpr rfl))).1
      have dA8 := Sub.dqAll (stp.mono.trans s58) _ _ dA
      obtain ⟨hz1, its, c8, r8, l8, e8⟩ := I8.lstM b2
      have hz2 : its.toArray.size < sizeLine := by rw [List.size_toArray, ← l8, dA8.length]; exact hz
      refine seg_at (seg_yield rfl rfl rfl ⟨I8.nolimit, hgen8, I8.bare, ⟨_, _, e8, hz2⟩, fun s' z => ?_⟩)
      have I8' : Inv (genC X A1 s4 H4 scope N cenv fp [(a, go)]) [] σ6 (upd H8 D (.lst (accV ++ [v]))) s' := by
        have I9 := (I8.unpinned (pins := [])).lset (ys := accV ++ [v]) (its' := its ++ [y]) (f := (·.push y)) (t' := s8.toks) b2 e8 (by simp) (r8.append (.cons rv .nil)) (by rw [List.length_append, dA8.length]; show acc.length + 1 ≤ sizeLine; omega)
        obtain ⟨z1, z2, z3⟩ := z
        refine I9.call' (ch := []) z1 (Un.kept fun b o e => by rw [z3]; exact e) (I9.hok.kept fun b o e => by rw [z3]; exact e) z2 fun b z => by simp at z
      have k1' : tn (i + 1) s'.heap := by
        rw [z.heap]
        exact TT.keep _ _ _ k1 fun b hb o e => (Heap.get?_update_other _ _ (fun q => hDf (by rw [q]; exact hb))).trans e
      refine seg_again rfl (ih (i + 1) n s' s' env8 σ6 (upd H8 D (.lst (accV ++ [v]))) G8 (acc ++ [x]) (accV ++ [v]) (by omega) (by omega) hlt I8' k1' (fun b hb => ⟨by rw [upd_ne (fun q => hDf (by rw [← q]; exact hb))]; exact (k2 b hb).1, (k2 b hb).2⟩)
        (b1.poke b2 pD b3 nT b4) ((sG.trans stp.mono).trans s58) upd_same (dA8.append (.cons d8 .nil)) b3 b4 w8)
end

/-! ### the consumer -/
section
variable {P : Program} {w : World} {A : Around} {X' : Cx} {fr' : Fr} {G0 : Hp} {Qd : List PyData → Prop} {a D : Addr} {g : Nat} {res : Value} {R' : Result → Shared → Prop}
theorem ext_loop (hh : A.handled = none) (hroom : A.depth < recursionLimit) (hDa : D ≠ a) (hDc : D ≠ cStatics)
    (hR : ∀ s' σ H G env acc accV, GFinL X' fr' G0 D Qd s' σ H G env acc accV → R' (.ok (.ret res)) s') :
    ∀ (n : Nat) (s : Shared), s.heap.NoLimit → s.heap.IsGen a g → (∃ gs, s.gens[g]? = some gs ∧ gs.Goes (model P w) A.in1.in1 (GRestL X' fr' G0 D Qd) (GItemL D a g) n (.send .none) (s.setGen g .running)) →
      codeAny (model P w) A (.builtin "list.extend.loop" ⟨[.ref D, .ref a, res], []⟩) R' s := by
  have fin : ∀ (s1 : Shared) (h' : Heap), (∃ σ H G env acc accV, GFinL X' fr' G0 D Qd s1 σ H G env acc accV) → (∀ b o, s1.heap.get? b = some o → h'.get? b = some o) → R' (.ok (.ret res)) { s1.setGen g .finished with heap := h' } := by
    intro s1 h' ⟨σ, H, G, env, acc, accV, z⟩ hk
    refine hR _ σ H G env acc accV ⟨z.q, ?_, z.sr, z.sub, z.hD, z.da, z.gD⟩
    exact z.inv.call' (ch := []) rfl (Un.kept hk) (z.inv.hok.kept hk) (allBare_setGen z.inv.bare rfl) fun b z => by simp at z
  intro n
  induction n with
  | zero =>
    intro s hl hg ⟨gs, hgs, hgo⟩
    refine codeAny_builtin F.entry_extend_loop ?_
    rw [Around.under_plainId F.plain_extend_loop _]
    show wpAny _ A.in1 (pyNext (.ref a) >>= _) _ _ s
    refine wpAny_bind (wpAny_pyNext_genexpQ (A := A.in1) (P := fun _ _ s1 => ∃ σ H G env acc accV, GFinL X' fr' G0 D Qd s1 σ H G env acc accV) hh hl hroom hg hgs hgo (fun v s₁ gs' hb hv => ?_) (fun s₁ hp h' hk => ?_))
    · obtain ⟨_, _, hb1, ⟨acc, c, hS1, _⟩, hk⟩ := hv
      exact (hk { s₁ with heap := s₁.heap.update D (Obj.mapSeq (·.push v)) } ⟨rfl, hb1, rfl⟩).elim
    · exact wpAny_pure (fin s₁ h' hp hk)
  | succ n ih =>
    intro s hl hg ⟨gs, hgs, hgo⟩
    have hgl : g < s.gens.size := (Array.getElem?_eq_some_iff.mp hgs).1
    refine codeAny_builtin F.entry_extend_loop ?_
    rw [Around.under_plainId F.plain_extend_loop _]
    show wpAny _ A.in1 (pyNext (.ref a) >>= _) _ _ s
    refine wpAny_bind (wpAny_gsz (n := g + 1) hgl (wpAny_pyNext_genexpQ (A := A.in1) (P := fun _ _ s1 => ∃ σ H G env acc accV, GFinL X' fr' G0 D Qd s1 σ H G env acc accV) hh hl hroom hg hgs hgo (fun v s₁ gs' hb hv => ?_) (fun s₁ hp h' hk => ?_)))
    · intro hsz
      obtain ⟨hl1, hg1, hb1, ⟨acc, c, hS1, hasz⟩, hk⟩ := hv
      show wpAny _ A.in1 (updateSeq D (·.push v) >>= _) _ _ _
      refine wpAny_bind ?_
      refine wpAny_updateSeq hS1 rfl (wpAny_pure ⟨plainId_quiet F.plain_extend_loop _, ?_⟩) (Nat.le_of_lt hasz) (by show (acc.push v).size ≤ sizeLine + 1; rw [Array.size_push]; omega)
      have keep3 : ∀ b o, b ≠ D → s₁.heap.get? b = some o → (s₁.heap.update D (Obj.mapSeq (·.push v))).get? b = some o := fun b o hbS e => (Heap.get?_update_other _ _ (Ne.symm hbS)).trans e
      have hsz1 : g < s₁.gens.size := by
        have q : (s₁.setGen g gs').gens.size = s₁.gens.size := setGen_size _ _ _
        have hsz' : g + 1 ≤ (s₁.setGen g gs').gens.size := hsz
        omega
      refine ih { s₁.setGen g gs' with heap := s₁.heap.update D (Obj.mapSeq (·.push v)) } ?_ ?_ ⟨gs', setGen_at hsz1, ?_⟩
      · obtain ⟨mc, hns, hnn⟩ := hl1
        exact ⟨mc, hns.at' fun o e => keep3 _ o (Ne.symm hDc) e, hnn⟩
      · obtain ⟨o, nm, qn, ho, r⟩ := hg1
        exact ⟨o, nm, qn, keep3 a o (Ne.symm hDa) ho, r⟩
      · exact hk _ ⟨rfl, allBare_setGen (s := s₁.setGen g gs') (allBare_setGen hb1 hb) rfl, rfl⟩
    · intro _
      exact wpAny_pure (fin s₁ h' hp hk)
end

/-- in the generator's context, as tuple(..) runs it -/
abbrev gA (X : Cx) : Around := X.A.in1.in1.in1.in1
abbrev InGenT (X : Cx) (fr : Fr) (k : Nat) (scope : Scope) (N : List Str) (J : Cx → Fr → Prop) : Prop := ∀ (p : Hp) (s : Shared) (H : Hp) (C : Addr) (code : Value) (fp : List Addr) (pn : List (Addr × Obj)),
  Room k ((gA X).deeper (genEnv scope (cloFrom X.env.cells scope.names []) C code builtinsNs X.env)) →
    J (genC X (gA X) s H scope N (genEnv scope (cloFrom X.env.cells scope.names []) C code builtinsNs X.env) fp pn) ⟨p, [], fr.tabs, fun _ _ => False⟩

section
variable {X : Cx} {fr : Fr} {k m : Nat} {tg elt iter : Expr} {ifs : List Expr} {scope : Scope} {N : List Str} {ixs : List Nat} {ws : List Nat} {I : Mo (List PyData)} {T : PyData → Mo Unit} {C : Mo Bool} {F : Mo Rv} {c P : Addr} {gpos : Pos}
theorem gen_madeL (hr : Room (k + 5) X.A) (TB : TabB X.base X.mg c P) (hcode : X.env.code = .ref c) (hPt : P ∈ fr.tabs) (ok : GenOk X.N X.env.scope scope N ixs m)
    (hi : PIq X fr tg iter I) (hg : InGenT X fr k scope N fun X fr => PGv X fr tg ws T) (hc : InGenT X fr k scope N fun X fr => PTsv X fr ifs C) (hb : InGenT X fr k scope N fun X fr => PEv X fr elt F)
    (hs : ∀ v, genFold iter X.env v = pure v) {pins : List (Addr × Obj)} {s : Shared} {σ : L2.St} {H G : Hp} {env : Fv} {R : List PyData → Fv → Prop} (I0 : Inv X pins σ H s) (h0 : SR X.K fr env σ H G)
    (w : wpM (collF ixs m I T C F) env R fun c e' => ∀ H' G', SR X.K fr e' σ H' G' → Sub G G' → fr.W c H') {Qg : Value → Shared → Prop}
    (hQ : ∀ (X' : Cx) (fr' : Fr) (G0 : Hp) (Qd : List PyData → Prop) (a : Addr) (g n : Nat) (gs : GenState) (s5 : Shared), s5.heap.NoLimit → s5.heap.IsGen a g → s5.gens[g]? = some gs → AllBare s5.gens →
      (∀ (D : Addr) (cd : Nat) (sB : Shared), s5.heap.objs.size ≤ D → (∀ b o, s5.heap.get? b = some o → sB.heap.get? b = some o) → sB.heap.get? D = some (lstObj #[] cd) → sB.os = s5.os → AllBare sB.gens →
        gs.Goes (model X.prog X.w) (gA X) (GRestL X' fr' G0 D Qd) (GItemL D a g) n (.send .none) sB) →
      (∀ D s' σ' H' G' env' acc accV, s5.heap.objs.size ≤ D → GFinL X' fr' G0 D Qd s' σ' H' G' env' acc accV → ∃ env2 G2, Inv X pins σ H' s' ∧ SR X.K fr env2 σ H' G2 ∧ Sub G G2 ∧ H' D = some (.lst accV) ∧ DqAll X.K G2 accV acc ∧ R acc env2) → Qg (.ref a) s5) :
    wpAny (model X.prog X.w) X.A (eval (.GeneratorExp elt [⟨tg, iter, ifs, 0⟩] scope gpos) X.env) Qg X.xe s := by
  have hfree : ∀ y ∈ scope.names, y.2 = .free → ∃ c, X.env.cells.lookup y.1 = some c := fun y hy e => by
    rcases ok.free y hy e with k | k
    · exact I0.ok.has _ (.inl k)
    · exact I0.ok.has _ (.inr k)
  refine wpAny_GeneratorExp_make ok.co (closure_ok hfree) ok.cell ok.dot ok.kind hr.depth ?_ hs
  unfold collF at w
  have hTI : tIq X.K fr I σ H fun J H1 => ∃ env1 G1 ds, SR X.K fr env1 σ H1 G1 ∧ Sub G G1 ∧ ItOk X.K J (lay G1 H1 (ownA env1 σ)) ds ∧
      wpM (inGen ixs m (collL T C F ds [] >>= fun xs => if noLsts xs = true then pure xs else stuckM)) env1 R (fun c env' => ∀ H' G', SR X.K fr env' σ H' G' → Sub G G' → fr.W c H') :=
    ⟨env, G, h0, wpM_mono (wpM_bind.mp w) (fun ds env1 w1 H1 G1 J h1 s1 io => ⟨env1, G1, ds, h1, s1, io, w1⟩) fun _ _ q => q⟩
  refine thn (hi.run pins s σ H _ I0 hTI) fun xv s1 h1 => thn h1 fun itv s2 hp => ?_
  obtain ⟨it, fp, tn, J, H2, rfl, I2, TT, st2, f2, env2, G2, ds, h2, sG2, io, w2⟩ := hp
  refine ⟨I2.nolimit, ?_⟩
  obtain ⟨⟨ps, hP, ht⟩, gP⟩ := h2.tab P hPt
  have hPs : s2.heap.get? P = some { cls := .none, data := .fields ps } := I2.hok P _ hP
  have cd : PySem.W.CodeHd s2.heap c P := TB.code.keeps fun b u e => I2.bk b u e
  have cont : ∀ (code : Value) (h3 : Heap) (tk : Nat) (ps' : Array Value), Heap.ExtBut P s2.heap h3 → s2.heap.objs.size ≤ h3.objs.size → h3.get? P = some { cls := .none, data := .fields ps' } → (∃ more, ps' = ps ++ more) → TriplesOk ps'.toList →
      wpAny (model X.prog X.w) X.A (builtinsFor X.env.globals X.env.builtins) (fun bi s₄ => ∀ h', h'.Ns s₄.heap.objs.size (fun y => if y = ".0" then some (.ref it) else none) → Heap.SameBut s₄.heap.objs.size (s₄.heap.push { cls := .type "frame", data := .dict #[] }) h' →
          Qg (.ref h'.objs.size) { s₄ with
            gens := s₄.gens.push (.fresh (.compStart (.GeneratorExp elt [⟨tg, iter, ifs, 0⟩] scope gpos) 0 (.ref it) .none (genEnv scope (cloFrom X.env.cells scope.names []) s₄.heap.objs.size code bi X.env))),
            toks := s₄.toks + 1 + 1 + 1,
            heap := h'.push { cls := .type "generator", data := .fields #[.int s₄.gens.size 0, .str "<genexpr>" (s₄.toks + 1), .str (X.env.qual ++ "<genexpr>") (s₄.toks + 1 + 1)] } }) X.xe { s2 with heap := h3, toks := tk } := by
    intro code h3 tk ps' hx hsz hP3 hmore ht3
    obtain ⟨more, em⟩ := hmore
    obtain ⟨bm, ob, e1, e2, e3, e4, e5, e6, e7, e8⟩ := TB.bm
    have keep3 : ∀ b u, b ≠ P → s2.heap.get? b = some u → h3.get? b = some u := fun b u hb e => hx b u hb e
    have I4 : Inv X pins σ (upd H2 P (.tbl (ps ++ more))) { s2 with heap := h3, gens := s2.gens, drawn := s2.drawn, toks := tk } := inv_tab I2 hP keep3 (by rw [← em]; exact hP3) I2.bare
    have S4 : SR X.K fr env2 σ (upd H2 P (.tbl (ps ++ more))) G2 := h2.grow (ps := ps) hPt (by rw [← em]; exact ht3)
    refine wpAny_builtinsFor (m := X.mg) (by rw [I2.ok.glob]; exact (I2.mod.glob.keeps I2.bk).extBut hx TB.gP) e1 e2 (keep3 _ _ e4 (I2.bk _ _ e5)) e6 e7 e8 ?_
    intro h' hn' hs'
    have hsz' : h'.objs.size = h3.objs.size + 1 := by rw [hs'.1, Heap.size_push]
    have keep' : ∀ b o, h3.get? b = some o → h'.get? b = some o := fun b o e => hs'.extBut b o (Nat.ne_of_lt (Heap.lt_size e)) (Heap.get?_push_of_some _ e)
    have nP : ∀ b ∈ fp, b ≠ P := fun b hb z => by rw [z] at hb; have q := (f2 P hb).1; rw [hP] at q; cases q
    have own_P : ownA env2 σ P = false := by
      cases z : ownA env2 σ P with
      | false => rfl
      | true =>
        obtain ⟨⟨xs, e⟩, _⟩ := h2.ownA_at z
        rw [e] at hP; cases hP
    have fpo : ∀ b ∈ fp, FpOk X pins (upd H2 P (.tbl (ps ++ more))) b ∧ b < h3.objs.size := fun b hb => by
      refine ⟨⟨by rw [upd_ne (nP b hb)]; exact (f2 b hb).1, (f2 b hb).2⟩, ?_⟩
      obtain ⟨o, e, _⟩ := TT.obj _ _ st2 b hb
      exact Nat.lt_of_lt_of_le (Heap.lt_size e) hsz
    generalize hgo : ({ cls := .type "generator", data := .fields #[.int s2.gens.size 0, .str "<genexpr>" (tk + 1), .str (X.env.qual ++ "<genexpr>") (tk + 1 + 1)] } : Obj) = go
    have kp5 : ∀ b o, h3.get? b = some o → (h'.push go).get? b = some o := fun b o e => Heap.get?_push_of_some _ (keep' b o e)
    have hpushed : (h'.push go).get? h'.objs.size = some go := by subst hgo; exact Heap.get?_push_size _ rfl
    have hgen : ∀ h : Heap, h.get? h'.objs.size = some go → h.IsGen h'.objs.size s2.gens.size := fun h e => by subst hgo; exact ⟨_, _, _, e, rfl, rfl, rfl⟩
    have hgod : ∀ v, go.data ≠ .cell v := fun v q => by subst hgo; cases q
    have lim5 : (h'.push go).NoLimit := I4.nolimit.keeps kp5
    have hfr : (gA X).frames = some X.stack := I2.ok.frames
    have hgr : Room k ((gA X).deeper (genEnv scope (cloFrom X.env.cells scope.names []) h3.objs.size code builtinsNs X.env)) := (Room.in1 (Room.in1 (Room.in1 (Room.in1 hr)))).deeper _
    have Lw : lay G2 (upd H2 P (.tbl (ps ++ more))) (ownA env2 σ) = lay G2 H2 (ownA env2 σ) := lay_grow own_P
    have SC := S4.cap ixs m
    rw [Lw] at SC
    have w3 := wpM_mono (wpM_bind.mp (wpM_inGen w2)) (Q' := fun xs _ => noLsts xs = true ∧ R xs env2) (fun xs e' q => by
      by_cases z : noLsts xs = true
      · rw [if_pos z] at q; exact ⟨z, q⟩
      · rw [if_neg z] at q; exact q.elim) fun _ _ q => q
    refine hQ (genC X (gA X) { s2 with heap := h3, toks := tk } (upd H2 P (.tbl (ps ++ more))) scope N (genEnv scope (cloFrom X.env.cells scope.names []) h3.objs.size code builtinsNs X.env) fp [(h'.objs.size, go)])
      ⟨privOf fr.tabs (fun _ => False) (upd H2 P (.tbl (ps ++ more))) (lay G2 H2 (ownA env2 σ)), [], fr.tabs, fun _ _ => False⟩ (lay G2 H2 (ownA env2 σ))
      (fun xs => noLsts xs = true ∧ R xs env2) h'.objs.size s2.gens.size ds.length _ _ lim5 (hgen _ hpushed) (Array.getElem?_push_size ..) (AllBare.push I2.bare rfl) ?_ ?_
    · intro D cdn sB hD5 kB eB oB bB
      refine ⟨rfl, ?_⟩
      have hD5' : (h'.push go).objs.size ≤ D := hD5
      have hDh : h'.objs.size < D := by rw [Heap.size_push] at hD5'; omega
      have hD3 : h3.objs.size < D := by omega
      have Is0 : Inv (genC X (gA X) { s2 with heap := h3, toks := tk } (upd H2 P (.tbl (ps ++ more))) scope N (genEnv scope (cloFrom X.env.cells scope.names []) h3.objs.size code builtinsNs X.env) fp [(h'.objs.size, go)]) [] (capS ixs m σ) (upd H2 P (.tbl (ps ++ more)))
          ({ s2 with heap := h'.push go, gens := s2.gens, toks := tk }) :=
        gen_start (s := { s2 with heap := h3, toks := tk }) I4 ok hr.hd hfr fpo (hn'.push _) kp5 hpushed (by show h3.objs.size < h'.objs.size; omega) hgod I2.bare
      have Is : Inv (genC X (gA X) { s2 with heap := h3, toks := tk } (upd H2 P (.tbl (ps ++ more))) scope N (genEnv scope (cloFrom X.env.cells scope.names []) h3.objs.size code builtinsNs X.env) fp [(h'.objs.size, go)]) [] (capS ixs m σ) (upd (upd H2 P (.tbl (ps ++ more))) D (.lst [])) sB :=
        Inv.drained (H' := upd H2 P (.tbl (ps ++ more))) (ex := []) (acc := #[]) (c := cdn) (out := []) Is0 hD5 (Nat.zero_le _) eB .nil ExOk.nil oB bB (Un.kept kB) (Is0.hok.kept kB) (Is0.hok.fresh hD5)
      have hDn : upd H2 P (.tbl (ps ++ more)) D = none := Is0.hok.fresh hD5
      have SD := SC.stp (Stp.lay (o := .lst []) SC.sub hDn)
      have fpi : ∀ b ∈ fp, FpOk (genC X (gA X) { s2 with heap := h3, toks := tk } (upd H2 P (.tbl (ps ++ more))) scope N (genEnv scope (cloFrom X.env.cells scope.names []) h3.objs.size code builtinsNs X.env) fp [(h'.objs.size, go)]) [] (upd (upd H2 P (.tbl (ps ++ more))) D (.lst [])) b := fun b hb => by
        obtain ⟨⟨z1, z2, z3, z4, z5, z6⟩, z7⟩ := fpo b hb
        refine ⟨by rw [upd_ne (Nat.ne_of_lt (Nat.lt_trans z7 hD3))]; exact z1, Nat.ne_of_lt z7, fun z => ?_, .inl hb, fun y c' e z => ?_, fun p hp z => ?_⟩
        · rcases List.mem_cons.mp (I4.stkSub b z) with y | y
          · exact z2 y
          · exact z3 y
        · refine z5 y c' ?_ z
          rcases cloFrom_mem (PySem.mem_of_lookup e) with hm | ⟨hm1, rfl⟩
          · cases hm
          · obtain ⟨c1, hc1⟩ := hfree _ hm1 rfl
            rw [hc1]
            rfl
        · have e : p = (h'.objs.size, go) := by simpa using hp
          rw [e] at z
          have z' : h'.objs.size = b := z
          rw [hsz'] at z'
          rw [← z'] at z7
          exact absurd (Nat.lt_of_succ_lt z7) (Nat.lt_irrefl _)
      have tB : tn 0 sB.heap := TT.keep _ _ _ st2 fun b hb o e => kB _ _ (kp5 b o (keep3 b o (nP b hb) e))
      refine seg_start (X := X) (fun A Q' E' hq => TT.self A 0 _ Q' E' tB hq) ?_
      refine seg_coll (scope := scope) (iter := iter) (ds := ds) (D := D) ok.co hgen TT io (fun z => Nat.lt_irrefl _ (Nat.lt_trans (fpo D z).2 hD3)) ?_ ?_ (fun p' => hg p' _ _ _ _ _ _ hgr) (fun p' => hc p' _ _ _ _ _ _ hgr) (fun p' => hb p' _ _ _ _ _ _ hgr) ds.length 0 ds.length _ _ _ _ _ _ [] [] (by omega) (Nat.le_refl _) (Nat.zero_le _) Is
        tB fpi SD .refl upd_same .nil (sub_none SC.sub hDn) (SC.notOwn hDn) (by rw [List.drop_zero]; exact w3)
      · cases z : privOf fr.tabs (fun _ => False) (upd H2 P (.tbl (ps ++ more))) (lay G2 H2 (ownA env2 σ)) D with
        | none => rfl
        | some o =>
          have q := (privOf_some (ex := fun _ => False) z).1
          rw [hDn] at q; cases q
      · intro z
        obtain ⟨⟨ps', e, _⟩, _⟩ := S4.tab D z
        rw [hDn] at e; cases e
    · intro D s' σ' H' G' env' acc accV hD5 gf
      obtain ⟨⟨nl, qb⟩, I', h'', sG', hHD, dA, gD⟩ := gf
      have Io : Inv X pins σ H' s' := by
        refine I4.call' (ch := fp) I'.os I'.base I'.hok I'.bare fun b hb => ?_
        obtain ⟨⟨z1, z2, z3, z4, z5, z6⟩, _⟩ := fpo b hb
        exact ⟨z4, z2, z5, z6⟩
      have kept : Kept fr.tabs (fun _ => False) (upd H2 P (.tbl (ps ++ more))) (lay G2 (upd H2 P (.tbl (ps ++ more))) (ownA env2 σ)) H' G' := fun b o e1 e2 e3 e4 => by
        rw [Lw] at e2
        have e5 : privOf fr.tabs (fun _ => False) (upd H2 P (.tbl (ps ++ more))) (lay G2 H2 (ownA env2 σ)) b = some o := by
          unfold privOf
          rw [if_pos ⟨e2, e3, id⟩]
          exact e1
        exact ⟨h''.prot b o e5, h''.dj b (ne_none_of e5)⟩
      obtain ⟨h9, s9⟩ := S4.keptB (by rw [Lw]; exact sG') h''.sub h''.tab kept
      refine ⟨env2, _, Io, h9, sG2.trans s9, hHD, DqAll.dropped (fun a' za o zo => ?_) acc accV nl dA, qb⟩
      have q : lay G2 (upd H2 P (.tbl (ps ++ more))) (ownA env2 σ) a' = upd H2 P (.tbl (ps ++ more)) a' := by
        unfold lay; rw [if_pos za]
      obtain ⟨⟨xs, e⟩, _⟩ := S4.ownA_at za
      rw [e, Lw] at q
      rw [sG' _ _ q] at zo
      exact ⟨xs, (Option.some.inj zo).symm⟩
  cases hf : codeAmong gpos ps.toList with
  | none =>
    refine wpAny_genexprCodeX hcode (cd.code hPs ht) (cd.tab hPs) hf fun c' h' tk hx hge hlt hco' _ htab' _ => ?_
    obtain ⟨o1, vs, f1, tf, fl, tg, inF, tx, tt, op, _, _, _, _, _, _, _, _, _, htr, _⟩ := hco'
    exact cont _ h' tk _ hx (Nat.le_trans hge (Nat.le_of_lt hlt)) htab'.2 ⟨_, rfl⟩ htr
  | some cv =>
    refine wpAny_genexprCode_hit hcode (cd.code hPs ht) hf ?_
    exact cont cv s2.heap s2.toks ps (Heap.ExtBut.refl _ _) (Nat.le_refl _) hPs ⟨#[], by simp⟩ ht
end

section
variable {X : Cx} {fr : Fr} {k m : Nat} {tg elt iter : Expr} {ifs : List Expr} {scope : Scope} {N : List Str} {ixs : List Nat} {ws : List Nat} {I : Mo (List PyData)} {T : PyData → Mo Unit} {C : Mo Bool} {F : Mo Rv} {c P : Addr} {p pos gpos : Pos}
/-- collect(g): the list D holds what was collected -/
theorem collect_gen {A : Around} {a g n : Nat} {gs : GenState} {s5 : Shared} {X' : Cx} {fr' : Fr} {G0 : Hp} {Qd : List PyData → Prop} {Q : List Value → Shared → Prop} {E : Value → Shared → Prop} (hh : A.handled = none) (hroom : A.depth < recursionLimit)
    (hl : s5.heap.NoLimit) (hg : s5.heap.IsGen a g) (hgs : s5.gens[g]? = some gs) (hb : AllBare s5.gens)
    (hgo : ∀ (D : Addr) (cd : Nat) (sB : Shared), s5.heap.objs.size ≤ D → (∀ b o, s5.heap.get? b = some o → sB.heap.get? b = some o) → sB.heap.get? D = some (lstObj #[] cd) → sB.os = s5.os → AllBare sB.gens →
        gs.Goes (model X.prog X.w) A.in1.in1 (GRestL X' fr' G0 D Qd) (GItemL D a g) n (.send .none) sB)
    (hQ : ∀ D s' σ' H' G' env' acc accV (its : List Value) (c : Nat), s5.heap.objs.size ≤ D → GFinL X' fr' G0 D Qd s' σ' H' G' env' acc accV → Vals accV its → its.length ≤ sizeLine → s'.heap.get? D = some { cls := .type "list", data := .seq its.toArray c } → Q its s') :
    wpAny (model X.prog X.w) A (collect (.ref a)) Q E s5 := by
  have hlt : ∀ b o, s5.heap.get? b = some o → s5.heap.objs.size ≠ b := fun b o e => Nat.ne_of_gt (Heap.lt_size e)
  have hDa : s5.heap.objs.size ≠ a := by obtain ⟨o, _, _, ho, _⟩ := id hg; exact hlt a o ho
  have hDc : s5.heap.objs.size ≠ cStatics := by obtain ⟨_, hn, _⟩ := id hl; exact Nat.ne_of_gt hn.lt
  unfold collect
  refine wpAny_bind (wpAny_runValue (codeAny_builtin F.entry_proto_collect ?_))
  rw [Around.under_plainId F.plain_proto_collect _]
  show wpAny _ A.in1 (newList [] >>= fun l => again (.builtin "list.__iadd__" ⟨[l, .ref a], []⟩)) _ _ s5
  refine wpAny_bind (wpAny_newObj_type ?_)
  refine wpAny_pure ⟨plainId_quiet F.plain_list_iadd _, codeAny_builtin F.entry_list_iadd ?_⟩
  rw [Around.under_plainId F.plain_list_iadd _]
  show wpAny _ A.in1 (Builtin.List.listExtendWith (.ref s5.heap.objs.size) (.ref a) (.ref s5.heap.objs.size)) _ _ _
  unfold Builtin.List.listExtendWith
  have k1 : ∀ b o, s5.heap.get? b = some o → (s5.heap.push { cls := .type "list", data := .seq ([] : List Value).toArray }).get? b = some o := fun b o e => Heap.get?_push_of_some _ e
  have gty : ∀ {h : Heap}, (∀ b o, s5.heap.get? b = some o → h.get? b = some o) → h.IsGen a g := fun {h} q => hg.keeps q
  refine wpAny_bind (wpAny_typeOf (Heap.IsGen.typeIs (s := { s5 with heap := _ }) (gty k1)) ?_)
  have h1 : Builtin.List.listSameRef (.ref s5.heap.objs.size) (.ref a) = false := by simp [Builtin.List.listSameRef, hDa]
  have h2 : (Value.type "generator" == Value.type "list") = false := by decide
  have h3 : (Value.type "generator" == Value.type "tuple") = false := by decide
  simp only [h1, h2, h3, Bool.or_false, Bool.false_eq_true, if_false]
  refine wpAny_bind (wpAny_pyIter_gen (s := { s5 with heap := _ }) (gty k1) ?_)
  refine wpAny_bind (wpAny_holding ?_)
  unfold Builtin.List.listLengthHint
  refine wpAny_bind (wpAny_specialOf (Heap.IsGen.typeIs (s := { s5 with heap := _ }) (gty k1)) F.gen_no_len ?_)
  show wpAny _ A.in1 (specialOf (Value.ref a) (Str.ofString "__length_hint__") >>= _) _ _ _
  refine wpAny_bind (wpAny_specialOf (Heap.IsGen.typeIs (s := { s5 with heap := _ }) (gty k1)) F.gen_no_hint ?_)
  refine wpAny_pure ?_
  show wpAny _ A.in1 (rule "list.extend.makes-room" >>= fun _ => Builtin.List.listTouch (.ref s5.heap.objs.size) >>= fun _ =>
    again (.builtin "list.extend.loop" ⟨[.ref s5.heap.objs.size, .ref a, .ref s5.heap.objs.size], []⟩)) _ _ _
  refine wpAny_bind (wpAny_rule ?_)
  have hS1 : (s5.heap.push { cls := .type "list", data := .seq ([] : List Value).toArray }).get? s5.heap.objs.size = some { cls := .type "list", data := .seq ([] : List Value).toArray } := Heap.get?_push_size _ rfl
  refine wpAny_bind ?_
  show wpAny _ A.in1 (updateSeq s5.heap.objs.size (·.push .none) >>= fun _ => updateSeq s5.heap.objs.size (·.pop)) _ _ _
  refine wpAny_bind (wpAny_updateSeq hS1 rfl ?_)
  have hS2 := Heap.get?_update_self (Obj.mapSeq (·.push Value.none)) hS1 rfl
  refine wpAny_updateSeq (hz := by seq_fits) hS2 rfl ?_
  have hS3 := Heap.get?_update_self (Obj.mapSeq (·.pop)) hS2 rfl
  have up : ∀ (h : Heap) (f : Obj → Obj), (∀ b o, s5.heap.get? b = some o → h.get? b = some o) → ∀ b o, s5.heap.get? b = some o → (h.update s5.heap.objs.size f).get? b = some o := fun h f q b o e =>
    (Heap.get?_update_other _ _ (hlt b o e)).trans (q b o e)
  have k3 := up _ (Obj.mapSeq (·.pop)) (up _ (Obj.mapSeq (·.push Value.none)) k1)
  refine wpAny_pure ⟨plainId_quiet F.plain_extend_loop _, ?_⟩
  refine ext_loop (A := A) (g := g) hh hroom hDa hDc (fun s' σ' H' G' env' acc accV gf => ?_) n _ (hl.keeps k3) (gty k3) ⟨gs, hgs, hgo _ _ _ (Nat.le_refl _) k3 hS3 rfl (allBare_setGen (s := { s5 with heap := _ }) hb rfl)⟩
  obtain ⟨hz, its, cc, hv, hlen, he⟩ := gf.inv.lstM gf.hD
  show wpAny _ A (load s5.heap.objs.size >>= _) _ _ s'
  refine wpAny_bind (wpAny_load he ?_)
  refine wpAny_pure ?_
  exact hQ _ s' σ' H' G' env' acc accV its cc (Nat.le_refl _) gf hv (by omega) he
/-- the tuple of what g hands out -/
theorem call_tup_gen {A : Around} {a g n : Nat} {gs : GenState} {s5 : Shared} {X' : Cx} {fr' : Fr} {G0 : Hp} {Qd : List PyData → Prop} {Q : Value → Shared → Prop} {E : Value → Shared → Prop} (hh : A.handled = none) (hroom : A.depth < recursionLimit)
    (hl : s5.heap.NoLimit) (hg : s5.heap.IsGen a g) (hgs : s5.gens[g]? = some gs) (hb : AllBare s5.gens)
    (hgo : ∀ (D : Addr) (cd : Nat) (sB : Shared), s5.heap.objs.size ≤ D → (∀ b o, s5.heap.get? b = some o → sB.heap.get? b = some o) → sB.heap.get? D = some (lstObj #[] cd) → sB.os = s5.os → AllBare sB.gens →
        gs.Goes (model X.prog X.w) A.in1.in1.in1.in1 (GRestL X' fr' G0 D Qd) (GItemL D a g) n (.send .none) sB)
    (hQ : ∀ D s' σ' H' G' env' acc accV (its : List Value) (c : Nat), s5.heap.objs.size ≤ D → GFinL X' fr' G0 D Qd s' σ' H' G' env' acc accV → Vals accV its → its.length ≤ sizeLine → s'.heap.get? D = some { cls := .type "list", data := .seq its.toArray c } →
      Q (.ref s'.heap.objs.size) { s' with heap := s'.heap.push { cls := .type "tuple", data := .seq its.toArray } }) :
    wpAny (model X.prog X.w) A (call (.type "tuple") [.ref a]) Q E s5 := by
  have hT : s5.TypeIs (.ref a) "generator" := Heap.IsGen.typeIs hg
  refine callType_codes (Q₁ := fun obj s₁ => s₁.TypeIs obj "tuple" ∧ Q obj s₁) F.called_tuple (F.typeCall_tuple_1 _) F.entry_object_init ?_ fun obj s₁ h₁ => ?_
  · refine codeAny_of_tree ?_
    show wpAny _ A.in1.in1 (do checkBuiltinCall "tuple.__new__" ⟨[.type "tuple", .ref a], []⟩; again (.builtin "tuple.__new__" ⟨[.type "tuple", .ref a], []⟩)) _ _ s5
    refine wpAny_bind (wpAny_of_eq (F.newCall_tuple_1 _) (wpAny_pure ⟨plainId_quiet F.plain_tuple_new _, codeAny_builtin F.entry_tuple_new ?_⟩))
    rw [Around.under_plainId F.plain_tuple_new _]
    have hsub := sub_tuple_self
    have hinit := init_tuple_lookup
    have hmh := madeHere_tuple
    wp_walk using wpAny_typeOf hT, collect_gen (X := X) (A := A.in1.in1) hh hroom hl hg hgs hb hgo
    intro D s' σ' H' G' env' acc accV its c hD gf hv hz he
    show wpAny _ _ (Builtin.Tuple.tupleExact its.toArray >>= fun v => ret v) _ _ _
    unfold Builtin.Tuple.tupleExact
    refine wpAny_bind (wpAny_newObj_type ?_ (by show its.toArray.size ≤ sizeLine; rw [List.size_toArray]; exact hz))
    refine wpAny_pure ?_
    exact ⟨⟨_, Heap.get?_push_size _ rfl, rfl⟩, hQ D s' σ' H' G' env' acc accV its c hD gf hv hz he⟩
  · exact ⟨h₁.1, F.args_object_init_2 obj _, object_init_meets F.called_tuple.init.lookup F.called_tuple.made (by decide) X.prog X.w A.in1 _ s₁ ⟨h₁.1, rfl, h₁.2⟩⟩
theorem ev_tupGen (hr : Room (k + 5) X.A) (hgl : Gl X "tuple") (hm : X.mg "tuple" = none) (TB : TabB X.base X.mg c P) (hcode : X.env.code = .ref c) (hPt : P ∈ fr.tabs) (ok : GenOk X.N X.env.scope scope N ixs m)
    (hi : PIq X fr tg iter I) (hg : InGenT X fr k scope N fun X fr => PGv X fr tg ws T) (hc : InGenT X fr k scope N fun X fr => PTsv X fr ifs C) (hb : InGenT X fr k scope N fun X fr => PEv X fr elt F)
    (hs : ∀ v, genFold iter X.env v = pure v := by intro _; rfl)
    (he : starEach [.GeneratorExp elt [⟨tg, iter, ifs, 0⟩] scope gpos] X.env = (false, eval (.GeneratorExp elt [⟨tg, iter, ifs, 0⟩] scope gpos) X.env) :: starEach [] X.env := by rfl) :
    PEv X fr (.Call (.Name "tuple" p) [.GeneratorExp elt [⟨tg, iter, ifs, 0⟩] scope gpos] [] pos) (tupGen ixs m I T C F) := by
  refine ⟨fun pins s σ H Q I0 ⟨env, G, h0, w⟩ => ?_⟩
  unfold tupGen at w
  refine wpAny_Call_Name_kw (ld_blt I0 hgl hm (by rfl) ?_)
  refine PyProof.Rows.callWith_type1 ?_ he (by rfl)
  rw [he]
  show wpAny _ _ (spliced ((false, eval (.GeneratorExp elt [⟨tg, iter, ifs, 0⟩] scope gpos) X.env) :: backTo pos (starEach [] X.env))) _ _ s
  refine Calls.spliced_cons (gen_madeL hr TB hcode hPt ok hi hg hc hb hs I0 h0 (wpM_bind.mp w) fun X' fr' G0 Qd a g n gs s5 hl5 hg5 hgs5 hb5 hgo hfin => ?_)
  refine Calls.spliced_nil ?_
  refine call_tup_gen (X := X) hr.hd hr.depth hl5 hg5 hgs5 hb5 hgo fun D s' σ' H' G' env' acc accV its cc hD gf hv hz hD' => ?_
  obtain ⟨env2, G2, I2, h2, s2, hHD, dA, q⟩ := hfin D s' σ' H' G' env' acc accV hD gf
  have hp := I2.fresh
  have IT : Inv X pins σ (upd H' s'.heap.objs.size (.tup accV)) { s' with heap := s'.heap.push { cls := .type "tuple", data := .seq its.toArray } } := by
    refine I2.laid (t' := s'.toks) (fun _ _ q => Heap.get?_push_of_some _ q) (Nat.le_refl _) ?_
    exact ⟨by rw [hv.length]; exact hz, its, hv, IsTup.new _ _⟩
  have st := Stp.fix (o := .tup accV) h2.sub hp
  have h3 := h2.stp st
  refine ⟨.ref s'.heap.objs.size, _, IT, rfl, ?_⟩
  exact q _ _ _ h3 (s2.trans st.mono) (Dq.tup (.inl (.inl upd_same)) (Sub.dqAll st.mono _ _ dA))
end
end Cf
/-! Cg, part C: what tuple(..) of a generator expression is. -/
namespace Cf
open PySem PySem.Spec PyProof.Rows L2
theorem coll_tab {v : Nat} {F : Mo Rv} {c : Fv} (hv : v < c.length) : ∀ {l : List (PyData × PyData)} {acc : List PyData} {x : Sl}, acc.length + l.length ≤ sizeLine →
    (∀ d ∈ l, F (c.set v (.sh d.1)) = .ok (.sh d.2) (c.set v (.sh d.1))) → ∃ c', collL (toSlot v) yesF F (l.map Prod.fst) acc (c.set v x) = .ok (acc ++ l.map Prod.snd) c'
  | [], acc, x, _, _ => ⟨_, by simp [collL]; rfl⟩
  | d :: l, acc, x, hl, h => by
    have h1 := h d (by simp)
    obtain ⟨c', e⟩ := coll_tab hv (l := l) (acc := acc ++ [d.2]) (x := .sh d.1) (by simp at hl ⊢; omega) fun d hd => h d (by simp [hd])
    refine ⟨c', ?_⟩
    have hz : acc.length < sizeLine := by simp at hl; omega
    rw [List.map_cons]
    unfold collL
    rw [show acc ++ (d :: l).map Prod.snd = acc ++ [d.2] ++ l.map Prod.snd by simp, ← e]
    simp [toSlot, storeF, thenU, List.set_set, h1, hz, hv]
theorem tup_tab {ixs : List Nat} {m v : Nat} {Io : Mo (List PyData)} {F : Mo Rv} {e e' : Fv} (l : List (PyData × PyData)) (hI : Io e = .ok (l.map Prod.fst) e') (hv : (capE ixs m e')[v]? = some .un) (hl : l.length ≤ sizeLine) (hn : noLsts (l.map Prod.snd) = true)
    (h : ∀ d ∈ l, F ((capE ixs m e').set v (.sh d.1)) = .ok (.sh d.2) ((capE ixs m e').set v (.sh d.1))) : tupGen ixs m Io (toSlot v) yesF F e = .ok (.sh (.tuple (l.map Prod.snd))) e' := by
  have hv2 : v < (capE ixs m e').length := (List.getElem?_eq_some_iff.mp hv).1
  obtain ⟨c', k⟩ := coll_tab hv2 (l := l) (acc := []) (x := .un) (by simpa using hl) h
  have e0 : (capE ixs m e').set v .un = capE ixs m e' := by
    apply List.ext_getElem?
    intro i
    rw [List.getElem?_set]
    by_cases hi : v = i
    · subst hi; rw [if_pos rfl, if_pos hv2, hv]
    · rw [if_neg hi]
  rw [e0] at k
  rw [List.nil_append] at k
  have k2 : inGen ixs m (collL (toSlot v) yesF F (l.map Prod.fst) [] >>= fun xs => if noLsts xs = true then pure xs else stuckM) e' = .ok (l.map Prod.snd) e' := by
    unfold inGen
    rw [bind_eq]
    unfold Mo.bind
    rw [k]
    simp only [hn, if_true]
    rfl
  show Mo.bind (Mo.bind Io fun ds => inGen ixs m (collL (toSlot v) yesF F ds [] >>= fun xs => if noLsts xs = true then pure xs else stuckM)) _ e = _
  unfold Mo.bind
  rw [hI]
  simp only [k2]
  rfl
theorem loop_nx {T : PyData → Mo Unit} {B : Mo Out} {d : PyData} {ds : List PyData} {e e' : Fv} (h : thenU (T d) B e = .ok .nx e') : loopF T B (d :: ds) e = loopF T B ds e' := by
  rw [loop_cons, h]
theorem loop_end {T : PyData → Mo Unit} {B : Mo Out} {e : Fv} : loopF T B [] e = .ok .nx e := rfl
end Cf
/-! Cg, part D: starred displays, extend. -/
namespace Cf
open PySem PySem.Spec PyProof.Rows L2 PySem.W

@[simp] def starD : PyData → Option (List PyData)
  | .list ds => some ds
  | .tuple ds => some ds
  | _ => none
def starF (F : Mo Rv) (Fs : Mo (List Rv)) : Mo (List Rv) := do
  let r ← F
  let d ← peek (hold r)
  let ds ← liftO (starD d)
  let rs ← Fs
  pure (ds.map .sh ++ rs)
section
variable {K : PySem.W.Frag} {σ : L2.St} {G : Hp}
theorem rvs_shs : ∀ {xs ys : List V} {ds : List PyData} {rs : List Rv}, DqAll K G xs ds → RvsOk K σ G ys rs → RvsOk K σ G (xs ++ ys) (ds.map .sh ++ rs)
  | _, _, _, _, .nil, h => h
  | _, _, _, _, .cons r t, h => rvsOk_cons.mpr ⟨r, rvs_shs t h⟩
end
section
variable {X : Cx} {fr : Fr} {e : Expr} {es : List Expr} {F : Mo Rv} {Fs : Mo (List Rv)}
/-- a list or a tuple, read now: its items stand still -/
theorem tE_seq {σ : L2.St} {H G : Hp} {env : Fv} {Q : VK} {ED : Nat → Fv → Prop} {k : PyData → Mo (List Rv)} {EQ : List Rv → Fv → Prop} (h : SR X.K fr env σ H G) (w : wpM (F >>= fun r => peek (hold r) >>= k) env EQ ED)
    (hk : ∀ (d : PyData) (ds : List PyData) env1 H1 G1 p xs, starD d = some ds → SR X.K fr env1 σ H1 G1 → Sub G G1 → (SqT X.K H1 p xs ∨ SqL X.K H1 p xs) → DqAll X.K G1 xs ds → wpM (k d) env1 EQ ED → Q (.ref p) H1)
    (hs : ∀ d env1, starD d = none → ¬ wpM (k d) env1 EQ ED) (hE : ∀ c env1, ED c env1 → ∀ H1 G1, SR X.K fr env1 σ H1 G1 → Sub G G1 → fr.W c H1) : tE X.K fr F σ H Q := by
  refine tE_then h w (fun r env1 H1 G1 v h1 s1 q1 w1 => ?_) fun c e1 E1 H1 G1 h1 s1 => hE c e1 E1 H1 G1 h1 s1
  obtain ⟨G2, h2, s2, q2⟩ := hold_ok' h1 q1
  have w1' := wpM_bind.mp w1
  have fin : ∀ d : PyData, Dq X.K G2 v d → wpM (k d) env1 EQ ED → Q v H1 := fun d dq w3 => by
    cases dq with
    | lst k1 k2 => exact hk _ _ env1 H1 G2 _ _ rfl h2 (s1.trans s2) (.inr (.of (h2.sub _ _ k1))) k2 w3
    | tup k1 k2 => exact hk _ _ env1 H1 G2 _ _ rfl h2 (s1.trans s2) (.inl (h2.sub.sqT k1)) k2 w3
    | _ => exact (hs _ _ rfl w3).elim
  cases hr : hold r with
  | fr ds => rw [hr] at q2; exact q2.elim
  | sh d =>
    rw [hr] at q2 w1'
    exact fin d q2 w1'
  | sl i =>
    rw [hr] at q2 w1'
    have q' : σ[i]? = some (some v) := q2
    unfold wpM peek at w1'
    cases e : env1[i]? with
    | none => simp [e] at w1'
    | some sl =>
      cases sl with
      | un => simp [e] at w1'
      | sh d =>
        simp only [e] at w1'
        obtain ⟨x, e1, e2⟩ := h2.shAt e
        rw [q'] at e1; cases e1
        exact fin d e2 w1'
      | own t ds =>
        simp only [e] at w1'
        obtain ⟨a, xs, e1, e2, e3, _⟩ := h2.ownAt e
        rw [q'] at e1; cases e1
        exact hk _ _ env1 H1 G2 _ _ rfl h2 (s1.trans s2) (.inr (.of e2)) e3 w1'
theorem ea_star {p : Pos} (he : PEv X fr e F) (hr : PAv X fr es Fs) (hs : starEach (.Starred e p :: es) X.env = (true, eval e X.env) :: starEach es X.env := by rfl) : PAv X fr (.Starred e p :: es) (starF F Fs) :=
  weakA (StX.pa_star he hr hs) fun σ H Q ⟨env, G, h, w⟩ => by
    unfold starF at w
    refine tE_seq h w (fun d ds env1 H1 G1 p xs ed h1 s1 hx dq w1 => ⟨p, xs, rfl, hx, ?_⟩) (fun d env1 hn w => by rw [hn] at w; exact w.elim) fun c env1 E1 H1 G1 h1 s1 => E1 H1 G1 h1 s1
    rw [ed] at w1
    have w2 : wpM (Fs >>= fun rs => pure (ds.map .sh ++ rs)) env1 _ _ := w1
    refine tA_then h1 w2 (fun rs env2 H2 G2 vs h2 s2 q2 w3 => ?_) fun c e1 E1 H2 G2 h2 s2 => E1 H2 G2 h2 (s1.trans s2)
    exact w3 H2 G2 _ h2 (s1.trans s2) (rvs_shs (Sub.dqAll s2 _ _ dq) q2)
end

/-! ### xs.extend(ys) -/
def lstD : PyData → Option (List PyData)
  | .list ds => some ds
  | _ => none
def extendF (i : Nat) (F : Mo Rv) : Mo Rv := do
  needOwn i
  let r ← F
  let d ← peek (hold r)
  let es ← liftO (lstD d)
  let ds ← getOwn i
  if ds.length + es.length ≤ sizeLine then do
    putOwn i (ds ++ es)
    pure (.sh .none)
  else stuckM
section
variable {X : Cx} {fr : Fr} {o e : Expr} {F : Mo Rv} {i : Nat} {apos cpos : Pos}
theorem ev_extend (ho : PEv X fr o (readF i)) (ha : PEv X fr e F) (hbase : attributeBase o "extend" X.env (eval o X.env) = eval o X.env := by rfl)
    (hfew : ((backTo cpos (starEach [e] X.env)).all (fun x => !x.1) && (backToKw cpos (keywordEach [] X.env)).all (fun x => x.1.isSome) && decide ([e].length + ([] : List Keyword).length + (if ([] : List Keyword).isEmpty then 0 else 1) < 30)) = true := by rfl)
    (hline : (apos.endLine == cpos.line) = true := by rfl) (hs : starEach [e] X.env = (false, eval e X.env) :: starEach [] X.env := by rfl) : PEv X fr (.Call (.Attribute o "extend" apos) [e] [] cpos) (extendF i F) :=
  weakE (pe_bm PySem.F.plainAttrs_list PySem.F.slot_list_extend PySem.F.type_list_extend mt_extend ho (pa_cons ha pa_nil hs) hbase hfew hline hs rfl) fun σ H Q ⟨env, G, h, w⟩ => by
    unfold extendF at w
    obtain ⟨t, ds, e0, w1⟩ := wpM_need w
    refine tE_read h e0 fun a H1 G1 xs h1 s1 e1 k1 k2 => ⟨.inl ⟨rfl, xs, .of k1⟩, ?_⟩
    refine tE_then h1 w1 (fun r env2 H2 G2 v h2 s2 q2 w2 => ?_) fun c e1 E1 H2 G2 h2 s2 => E1 H2 G2 h2 (s1.trans s2)
    obtain ⟨G3, h3, s3, q3⟩ := hold_ok' h2 q2
    have fin : ∀ (b : Addr) (zs : List V) (es : List PyData), v = .ref b → H2 b = some (.lst zs) → DqAll X.K G3 zs es → wpM (getOwn i >>= fun ds => if ds.length + es.length ≤ sizeLine then (putOwn i (ds ++ es) >>= fun _ => pure (.sh .none)) else stuckM) env2
        (fun r env' => ∀ H' G' v, SR X.K fr env' σ H' G' → Sub G G' → RvOk X.K fr env' σ H' G' v r → Q v H') (fun c env' => ∀ H' G', SR X.K fr env' σ H' G' → Sub G G' → fr.W c H') →
        ∃ l b xs zs, (V.ref a) = .ref l ∧ [v] = [.ref b] ∧ H2 l = some (.lst xs) ∧ H2 b = some (.lst zs) ∧ xs.length + zs.length ≤ sizeLine ∧ Q .non (upd H2 l (.lst (xs ++ zs))) := fun b zs es ev hb dz w3 => by
      obtain ⟨t4, ds4, e4, w4⟩ := wpM_own w3
      obtain ⟨a4, xs4, z4, m1, m2, _⟩ := h3.ownAt e4
      rw [e1] at z4
      cases z4
      split at w4
      · rename_i hz
        have w5 := wpM_put e4 w4
        have h5 := h3.write e4 e1 (m2.append dz)
        exact ⟨a, b, xs4, zs, rfl, by rw [ev], m1, hb, by rw [m2.length, dz.length]; exact hz, w5 _ _ _ h5 ((s1.trans s2).trans s3) .non⟩
      · exact w4.elim
    have w2' := wpM_bind.mp w2
    have sh : ∀ d, Dq X.K G3 v d → wpM (liftO (lstD d) >>= fun es => getOwn i >>= fun ds => if ds.length + es.length ≤ sizeLine then (putOwn i (ds ++ es) >>= fun _ => pure (.sh .none)) else stuckM) env2
        (fun r env' => ∀ H' G' v, SR X.K fr env' σ H' G' → Sub G G' → RvOk X.K fr env' σ H' G' v r → Q v H') (fun c env' => ∀ H' G', SR X.K fr env' σ H' G' → Sub G G' → fr.W c H') →
        ∃ l b xs zs, (V.ref a) = .ref l ∧ [v] = [.ref b] ∧ H2 l = some (.lst xs) ∧ H2 b = some (.lst zs) ∧ xs.length + zs.length ≤ sizeLine ∧ Q .non (upd H2 l (.lst (xs ++ zs))) := fun d dq w3 => by
      cases dq with
      | lst k1 k2 => exact fin _ _ _ rfl (h3.sub _ _ k1) k2 w3
      | _ => exact w3.elim
    cases hr : hold r with
    | fr ds => rw [hr] at q3; exact q3.elim
    | sh d =>
      rw [hr] at q3 w2'
      exact sh d q3 w2'
    | sl j =>
      rw [hr] at q3 w2'
      have q' : σ[j]? = some (some v) := q3
      unfold wpM peek at w2'
      cases e : env2[j]? with
      | none => simp [e] at w2'
      | some sl =>
        cases sl with
        | un => simp [e] at w2'
        | sh d =>
          simp only [e] at w2'
          obtain ⟨x, e1, e2⟩ := h3.shAt e
          rw [q'] at e1; cases e1
          exact sh d e2 w2'
        | own t ds =>
          simp only [e] at w2'
          obtain ⟨b, zs, e1, e2, e3, _⟩ := h3.ownAt e
          rw [q'] at e1; cases e1
          exact fin b zs ds rfl e2 e3 w2'
end

/-! ### what they are -/
@[simp ↓] theorem starF_app {F : Mo Rv} {Fs : Mo (List Rv)} {e : Fv} : starF F Fs e = (F >>= fun r => peek (hold r) >>= fun d => liftO (starD d) >>= fun ds => Fs >>= fun rs => pure (ds.map .sh ++ rs)) e := rfl
@[simp ↓] theorem extendF_app {i : Nat} {F : Mo Rv} {e : Fv} : extendF i F e = (needOwn i >>= fun _ => F >>= fun r => peek (hold r) >>= fun d => liftO (lstD d) >>= fun es => getOwn i >>= fun ds => if ds.length + es.length ≤ sizeLine then putOwn i (ds ++ es) >>= fun _ => pure (.sh .none) else stuckM) e := rfl

/-! ### min(a, b) of tuples -/
section
variable {prog : Program} {w : World} {A : Around} {E : Value → Shared → Prop} {s : Shared}
theorem call_min_twoH {a b : Value} {Q : Value → Shared → Prop}
    (h : wpAny (model prog w) A.in1 (pyIter (.ref s.heap.objs.size)) (fun it s₂ => ∃ I fp wr G n P St H bt, it = .ref I ∧ WalksS prog w A.in1 I fp wr G n P St ∧ St 0 s₂ ∧ (∀ b ∈ fp, b < s₂.heap.objs.size) ∧ 0 < n ∧
      (∀ b o, H.get? b = some o → b ∉ wr) ∧ (∀ b o, H.get? b = some o → s₂.heap.get? b = some o) ∧ CmpIn prog w A.in1 .Lt H P bt ∧ ∀ v s', P (argBest bt (n - 1)) v → Moved wr G s₂ s' → Q v s') E
      { s with heap := s.heap.push { cls := .type "tuple", data := .seq #[a, b] } }) :
    wpAny (model prog w) A (call (.builtin "min") [a, b]) Q E s := by
  have hname : (toString "min" ++ toString ".loop" : String) = "min.loop" := by decide
  refine call_function_tree F.kind_min F.plain_min F.entry_min (F.args_min2 _ _) ?_
  show wpAny _ A.in1 (Builtin.Builtins.bindParams "min" ["key", "default"] 0 ⟨[], []⟩ >>= _) _ _ s
  refine wpAny_bind (wpAny_of_eq (show Builtin.Builtins.bindParams "min" ["key", "default"] 0 ⟨[], []⟩ = pure [none, none] from rfl) ?_)
  show wpAny _ A.in1 (newTuple [a, b] >>= _) _ _ s
  refine wpAny_bind (wpAny_newObj_type ?_)
  refine wpAny_bind (wpAny_mono h (fun it s₂ h₂ => ?_) fun _ _ e => e)
  obtain ⟨I, fp, wr, G, n, P, St, H, bt, rfl, W, hst, hfp, hn, hw, hkeep, hcmp, hQ⟩ := h₂
  refine wpAny_bind (wpAny_newObj_type ?_)
  have hSf : s₂.heap.objs.size ∉ fp := fun hm => Nat.lt_irrefl _ (hfp _ hm)
  rw [hname]
  refine wpAny_pure ⟨plainId_quiet F.plain_min_loop _, codeAny_min_loop_firstH W H hw bt hcmp s₂.heap.objs.size hSf (fresh_in hkeep) _ hn (fun b o e => Heap.get?_push_of_some _ (hkeep b o e)) (W.frame 0 s₂ _ s₂.toks hst (Nat.le_refl _) fun b _ o e => Heap.get?_push_of_some _ e) (Heap.get?_push_size _ rfl) fun v s' hP hm => ?_⟩
  exact hQ v s' hP (Moved.drop_new (tk := s₂.toks) hm (Nat.le_refl _))
end
def min2D : List PyData → Option Rv
  | [.tuple xs, .tuple ys] => if alikeOk [.tuple xs, .tuple ys] = true then some (.sh (minD (.tuple xs) [.tuple ys])) else none
  | _ => none
theorem cr_min2D {X : Cx} (hc : X.calm = true) (hu : X.A.units + 100 < cLine) : CallR X (.builtin "min") (fun vs H Q => ∃ (v u : V) (da db : PyData) (G : Hp), Sub G H ∧ vs = [v, u] ∧ Dq X.K G v da ∧ Dq X.K G u db ∧ alikeOk [da, db] = true ∧ ∀ z, Dq X.K G z (minD da [db]) → Q z H) := by
  intro pins s σ H vs us Q I r h
  obtain ⟨v, u, da, db, G, sG, rfl, d1, d2, hok, q⟩ := h
  obtain ⟨al, cl, dp⟩ := alikeOk_p hok
  obtain ⟨a, b, rfl⟩ : ∃ a b, us = [a, b] := by
    cases r with
    | cons r1 t => cases t with
      | cons r2 t2 => cases t2; exact ⟨_, _, rfl⟩
  have hd : DqAll X.K G [v, u] [da, db] := .cons d1 (.cons d2 .nil)
  have I1 : Inv X pins σ H { s with heap := s.heap.push { cls := .type "tuple", data := .seq #[a, b] } } := I.kept (t' := s.toks) fun _ _ q => Heap.get?_push_of_some _ q
  obtain ⟨as, hr⟩ := Dp.readsAll I1 [da, db] _ [a, b] (canLay_dps [da, db] cl _ (Sub.dqAll sG _ _ hd)) r
  have fin : ∀ (v : Value) (h' : Heap) (tk : Tok), [a, b].toArray[argBest (fun i j => dataLt ([da, db].getD i .none) ([da, db].getD j .none)) 1]? = some v → (∀ b o, s.heap.get? b = some o → h'.get? b = some o) →
      ∃ x H', Inv X pins σ H' { s with heap := h', toks := tk } ∧ RelV x v ∧ Q x H' := fun v h' tk hv hk => by
    obtain ⟨x, rx, dx⟩ := best_take (f := dataLt) r hd hv
    exact ⟨x, H, I.kept hk, rx, q x dx⟩
  refine call_min_twoH ?_
  refine iter_tupleW (A := X.A.in1) (vs := #[a, b]) (I1.ok.hd hc) (show (s.heap.push { cls := .type "tuple", data := .seq #[a, b] }).IsTuple s.heap.objs.size #[a, b] from ⟨_, Heap.get?_push_size _ rfl, rfl, _, rfl⟩) fun s₂ e W st hfp hw hk => ?_
  refine ⟨_, _, _, _, _, _, _, _, _, rfl, W, st, hfp, by simp, hw, hk, cmpIn_lt (A := X.A.in1) hr al (by show X.A.units + 1 + _ < _; omega), fun v s' hP m => ?_⟩
  obtain ⟨h', tk, rfl, hk'⟩ := moved_old e rfl m
  exact fin v h' tk hP fun b o e => hk' b o (Heap.get?_push_of_some _ e)
theorem opN_min2D {X : Cx} (hc : X.calm = true) (hu : X.A.units + 100 < cLine) : OpN X (.builtin "min") min2D := by
  refine ⟨_, cr_min2D hc hu, fun vs H G ds res Q s p e q => ?_⟩
  match ds, e with
  | [.tuple xs, .tuple ys], e =>
    simp only [min2D] at e
    split at e
    · rename_i hok
      cases e
      obtain ⟨v, u, rfl, p1, p2⟩ := pks2 p
      exact ⟨v, u, _, _, G, s, rfl, p1, p2, hok, fun z hz => q H G z (.refl s) hz⟩
    · cases e
def min2X (ds : List PyData) : Option Rv := (min2G ds).or (min2D ds)
theorem opN_min2X {X : Cx} (hc : X.calm = true) (hu : X.A.units + 100 < cLine) : OpN X (.builtin "min") min2X := (opN_min2 hc).or (opN_min2D hc hu)
@[simp] theorem min2X_int {i j : Int} : min2X [.int i, .int j] = some (.sh (.int (min i j))) := rfl
theorem min2X_tup {xs ys : List PyData} (h : alikeOk [.tuple xs, .tuple ys] = true) : min2X [.tuple xs, .tuple ys] = some (.sh (minD (.tuple xs) [.tuple ys])) := by
  show (if alikeOk [.tuple xs, .tuple ys] = true then some (Rv.sh (minD (.tuple xs) [.tuple ys])) else none) = _
  exact if_pos h

/-! ### max(a, b) of tuples -/
section
variable {prog : Program} {w : World} {A : Around} {E : Value → Shared → Prop} {s : Shared}
theorem call_max_twoH {a b : Value} {Q : Value → Shared → Prop}
    (h : wpAny (model prog w) A.in1 (pyIter (.ref s.heap.objs.size)) (fun it s₂ => ∃ I fp wr G n P St H bt, it = .ref I ∧ WalksS prog w A.in1 I fp wr G n P St ∧ St 0 s₂ ∧ (∀ b ∈ fp, b < s₂.heap.objs.size) ∧ 0 < n ∧
      (∀ b o, H.get? b = some o → b ∉ wr) ∧ (∀ b o, H.get? b = some o → s₂.heap.get? b = some o) ∧ CmpIn prog w A.in1 .Gt H P bt ∧ ∀ v s', P (argBest bt (n - 1)) v → Moved wr G s₂ s' → Q v s') E
      { s with heap := s.heap.push { cls := .type "tuple", data := .seq #[a, b] } }) :
    wpAny (model prog w) A (call (.builtin "max") [a, b]) Q E s := by
  have hname : (toString "max" ++ toString ".loop" : String) = "max.loop" := by decide
  refine call_function_tree F.kind_max F.plain_max F.entry_max (F.args_max2 _ _) ?_
  show wpAny _ A.in1 (Builtin.Builtins.bindParams "max" ["key", "default"] 0 ⟨[], []⟩ >>= _) _ _ s
  refine wpAny_bind (wpAny_of_eq (show Builtin.Builtins.bindParams "max" ["key", "default"] 0 ⟨[], []⟩ = pure [none, none] from rfl) ?_)
  show wpAny _ A.in1 (newTuple [a, b] >>= _) _ _ s
  refine wpAny_bind (wpAny_newObj_type ?_)
  refine wpAny_bind (wpAny_mono h (fun it s₂ h₂ => ?_) fun _ _ e => e)
  obtain ⟨I, fp, wr, G, n, P, St, H, bt, rfl, W, hst, hfp, hn, hw, hkeep, hcmp, hQ⟩ := h₂
  refine wpAny_bind (wpAny_newObj_type ?_)
  have hSf : s₂.heap.objs.size ∉ fp := fun hm => Nat.lt_irrefl _ (hfp _ hm)
  rw [hname]
  refine wpAny_pure ⟨plainId_quiet F.plain_max_loop _, codeAny_max_loop_firstH W H hw bt hcmp s₂.heap.objs.size hSf (fresh_in hkeep) _ hn (fun b o e => Heap.get?_push_of_some _ (hkeep b o e)) (W.frame 0 s₂ _ s₂.toks hst (Nat.le_refl _) fun b _ o e => Heap.get?_push_of_some _ e) (Heap.get?_push_size _ rfl) fun v s' hP hm => ?_⟩
  exact hQ v s' hP (Moved.drop_new (tk := s₂.toks) hm (Nat.le_refl _))
end
def max2D : List PyData → Option Rv
  | [.tuple xs, .tuple ys] => if alikeOk [.tuple xs, .tuple ys] = true then some (.sh (maxD (.tuple xs) [.tuple ys])) else none
  | _ => none
theorem cr_max2D {X : Cx} (hc : X.calm = true) (hu : X.A.units + 100 < cLine) : CallR X (.builtin "max") (fun vs H Q => ∃ (v u : V) (da db : PyData) (G : Hp), Sub G H ∧ vs = [v, u] ∧ Dq X.K G v da ∧ Dq X.K G u db ∧ alikeOk [da, db] = true ∧ ∀ z, Dq X.K G z (maxD da [db]) → Q z H) := by
  intro pins s σ H vs us Q I r h
  obtain ⟨v, u, da, db, G, sG, rfl, d1, d2, hok, q⟩ := h
  obtain ⟨al, cl, dp⟩ := alikeOk_p hok
  obtain ⟨a, b, rfl⟩ : ∃ a b, us = [a, b] := by
    cases r with
    | cons r1 t => cases t with
      | cons r2 t2 => cases t2; exact ⟨_, _, rfl⟩
  have hd : DqAll X.K G [v, u] [da, db] := .cons d1 (.cons d2 .nil)
  have I1 : Inv X pins σ H { s with heap := s.heap.push { cls := .type "tuple", data := .seq #[a, b] } } := I.kept (t' := s.toks) fun _ _ q => Heap.get?_push_of_some _ q
  obtain ⟨as, hr⟩ := Dp.readsAll I1 [da, db] _ [a, b] (canLay_dps [da, db] cl _ (Sub.dqAll sG _ _ hd)) r
  have fin : ∀ (v : Value) (h' : Heap) (tk : Tok), [a, b].toArray[argBest (fun i j => dataLt ([da, db].getD j .none) ([da, db].getD i .none)) 1]? = some v → (∀ b o, s.heap.get? b = some o → h'.get? b = some o) →
      ∃ x H', Inv X pins σ H' { s with heap := h', toks := tk } ∧ RelV x v ∧ Q x H' := fun v h' tk hv hk => by
    obtain ⟨x, rx, dx⟩ := best_take (f := (fun x y => dataLt y x)) r hd hv
    exact ⟨x, H, I.kept hk, rx, q x dx⟩
  refine call_max_twoH ?_
  refine iter_tupleW (A := X.A.in1) (vs := #[a, b]) (I1.ok.hd hc) (show (s.heap.push { cls := .type "tuple", data := .seq #[a, b] }).IsTuple s.heap.objs.size #[a, b] from ⟨_, Heap.get?_push_size _ rfl, rfl, _, rfl⟩) fun s₂ e W st hfp hw hk => ?_
  refine ⟨_, _, _, _, _, _, _, _, _, rfl, W, st, hfp, by simp, hw, hk, cmpIn_gt (A := X.A.in1) hr al (by show X.A.units + 1 + _ < _; omega), fun v s' hP m => ?_⟩
  obtain ⟨h', tk, rfl, hk'⟩ := moved_old e rfl m
  exact fin v h' tk hP fun b o e => hk' b o (Heap.get?_push_of_some _ e)
theorem opN_max2D {X : Cx} (hc : X.calm = true) (hu : X.A.units + 100 < cLine) : OpN X (.builtin "max") max2D := by
  refine ⟨_, cr_max2D hc hu, fun vs H G ds res Q s p e q => ?_⟩
  match ds, e with
  | [.tuple xs, .tuple ys], e =>
    simp only [max2D] at e
    split at e
    · rename_i hok
      cases e
      obtain ⟨v, u, rfl, p1, p2⟩ := pks2 p
      exact ⟨v, u, _, _, G, s, rfl, p1, p2, hok, fun z hz => q H G z (.refl s) hz⟩
    · cases e
def max2X (ds : List PyData) : Option Rv := (max2G ds).or (max2D ds)
theorem opN_max2X {X : Cx} (hc : X.calm = true) (hu : X.A.units + 100 < cLine) : OpN X (.builtin "max") max2X := (opN_max2 hc).or (opN_max2D hc hu)
@[simp] theorem max2X_int {i j : Int} : max2X [.int i, .int j] = some (.sh (.int (max i j))) := rfl
theorem max2X_tup {xs ys : List PyData} (h : alikeOk [.tuple xs, .tuple ys] = true) : max2X [.tuple xs, .tuple ys] = some (.sh (maxD (.tuple xs) [.tuple ys])) := by
  show (if alikeOk [.tuple xs, .tuple ys] = true then some (Rv.sh (maxD (.tuple xs) [.tuple ys])) else none) = _
  exact if_pos h
end Cf
/-! Ch, part A: fractions. -/
namespace Cf
open PySem PySem.Spec PyProof.Rows L2

/-! ### sizes -/
/-- less than 2 ^ n in size -/
def Sz (n : Nat) (x : Int) : Prop := x.natAbs < 2 ^ n
theorem Sz.mono {n m : Nat} {x : Int} (h : Sz n x) (hm : n ≤ m) : Sz m x := Nat.lt_of_lt_of_le h (Nat.pow_le_pow_right (by decide) hm)
theorem Sz.neg {n : Nat} {x : Int} (h : Sz n x) : Sz n (-x) := by
  unfold Sz at *
  omega
theorem Sz.mul {n m : Nat} {x y : Int} (h : Sz n x) (k : Sz m y) : Sz (n + m) (x * y) := by
  unfold Sz at *
  rw [Int.natAbs_mul, Nat.pow_add]
  exact Nat.mul_lt_mul'' h k
theorem Sz.add {n : Nat} {x y : Int} (h : Sz n x) (k : Sz n y) : Sz (n + 1) (x + y) := by
  unfold Sz at *
  rw [Nat.pow_succ]
  omega
theorem Sz.sub {n : Nat} {x y : Int} (h : Sz n x) (k : Sz n y) : Sz (n + 1) (x - y) := by
  unfold Sz at *
  rw [Nat.pow_succ]
  omega
theorem Sz.of {n : Nat} {x : Int} {k : Nat} (h : x.natAbs < k) (hk : k ≤ 2 ^ n) : Sz n x := Nat.lt_of_lt_of_le h hk
theorem bits_le {n : Nat} {x : Int} (h : Sz n x) : Builtin.Int.intBits x ≤ n := by
  unfold Builtin.Int.intBits
  split
  · omega
  · rename_i z
    have : x.natAbs ≠ 0 := by simpa using z
    have := (Nat.log2_lt this).mpr h
    omega
theorem mulOk_sz {n m : Nat} {x y : Int} (h : Sz n x) (k : Sz m y) (hs : n + m ≤ 100000) : mulOk x y = true := by
  have b1 := bits_le h
  have b2 := bits_le k
  have : Builtin.Int.intTooBig (Builtin.Int.intBits x + Builtin.Int.intBits y) = false := by
    unfold Builtin.Int.intTooBig bitsLine
    exact decide_eq_false (by omega)
  simp [mulOk, this]
theorem mulG_sz {n m : Nat} {x y : Int} (h : Sz n x) (k : Sz m y) (hs : n + m ≤ 100000) : mulG (.int x) (.int y) = some (.sh (.int (x * y))) := by
  rw [mulG, if_pos (mulOk_sz h k hs)]
theorem fdivG_sz {n : Nat} {x y : Int} (h0 : y ≠ 0) (h : Sz n y) (hs : n ≤ 8000) : fdivG (.int x) (.int y) = some (.sh (.int (x.fdiv y))) := by
  have : Builtin.divisionGoesByPylong x y = false := by
    unfold Builtin.divisionGoesByPylong
    have hz : (y == 0) = false := by simpa using h0
    simp only [hz, Bool.false_eq_true, if_false]
    have h1 : y.natAbs.log2 < n := (Nat.log2_lt (by omega)).mpr h
    have : ¬ (y.natAbs.log2 / 30 + 1 > 300) := by omega
    simp [this]
  rw [fdivG, if_pos ⟨h0, this⟩]

/-! ### fractions as data -/
def rD (q : Rat) : PyData := .tuple [.int q.num, .int q.den]
/-- both numbers less than 2 ^ n -/
structure Rz (n : Nat) (q : Rat) : Prop where
  num : Sz n q.num
  den : Sz n (q.den : Int)
theorem Rz.mono {n m : Nat} {q : Rat} (h : Rz n q) (hm : n ≤ m) : Rz m q := ⟨h.num.mono hm, h.den.mono hm⟩
theorem Rz.int {n : Nat} {i : Int} (h : Sz n i) (h0 : 0 < n) : Rz n (i : Rat) := by
  refine ⟨by rw [Rat.num_intCast]; exact h, ?_⟩
  rw [Rat.den_intCast]
  exact Nat.one_lt_two_pow (by omega)
theorem rD_inj {p q : Rat} : rD p = rD q ↔ p = q := by
  constructor
  · intro h
    simp only [rD, PyData.tuple.injEq, List.cons.injEq, PyData.int.injEq, and_true] at h
    exact Rat.ext h.1 (by omega)
  · rintro rfl
    rfl
theorem rD_int (i : Int) : rD (i : Rat) = .tuple [.int i, .int 1] := by
  simp [rD, Rat.num_intCast, Rat.den_intCast]
theorem rD_plain {n : Nat} {q : Rat} : Plain (n + 1) (rD q) := .tup fun d hd => by
  simp only [List.mem_cons, List.not_mem_nil, or_false] at hd
  rcases hd with rfl | rfl <;> exact .int _
theorem rD_deep {n : Nat} {q : Rat} : Deepn (n + 2) (rD q) := .tup (by simp) fun d hd => by
  simp only [List.mem_cons, List.not_mem_nil, or_false] at hd
  rcases hd with rfl | rfl <;> exact .int _
theorem at_num {q : Rat} : atI [PyData.int q.num, PyData.int (q.den : Int)] 0 = some (.int q.num) := atI_cons
theorem at_den {q : Rat} : atI [PyData.int q.num, PyData.int (q.den : Int)] 1 = some (.int q.den) := by
  rw [atI_nat (by omega) (by simp only [List.length_cons, List.length_nil]; omega)]
  rfl
/-- a fraction is told by its lowest terms -/
theorem low_unique {p w a b : Int} (hw : w ≠ 0) (hb : 0 < b) (hg : Nat.gcd a.natAbs b.natAbs = 1) (h : a * w = p * b) : rD (Rat.divInt p w) = .tuple [.int a, .int b] := by
  have e : Rat.divInt a b = Rat.divInt p w := (Rat.divInt_eq_divInt_iff (by omega) hw).mpr h
  have m : (⟨a, b.natAbs, by omega, hg⟩ : Rat) = Rat.divInt a b := by
    have := Rat.num_divInt_den (⟨a, b.natAbs, by omega, hg⟩ : Rat)
    rw [← this]
    show Rat.divInt a (b.natAbs : Int) = _
    rw [show ((b.natAbs : Nat) : Int) = b by omega]
  rw [← e, ← m]
  simp only [rD]
  rw [show ((b.natAbs : Nat) : Int) = b by omega]
theorem low_fdiv (p w : Int) (hw : w ≠ 0) : rD (Rat.divInt p w) = .tuple [.int (p.fdiv (if w < 0 then -(Nat.gcd p.natAbs w.natAbs : Int) else (Nat.gcd p.natAbs w.natAbs : Nat))), .int (w.fdiv (if w < 0 then -(Nat.gcd p.natAbs w.natAbs : Int) else (Nat.gcd p.natAbs w.natAbs : Nat)))] := by
  have hG : 0 < Nat.gcd p.natAbs w.natAbs := Nat.gcd_pos_of_pos_right _ (by omega)
  have d1 : (Nat.gcd p.natAbs w.natAbs : Int) ∣ p := Int.ofNat_dvd_left.mpr (Nat.gcd_dvd_left _ _)
  have d2 : (Nat.gcd p.natAbs w.natAbs : Int) ∣ w := Int.ofNat_dvd_left.mpr (Nat.gcd_dvd_right _ _)
  obtain ⟨p', hp⟩ := d1
  obtain ⟨w', hw'⟩ := d2
  have hc : Nat.gcd p'.natAbs w'.natAbs = 1 := by
    have e1 : p.natAbs = Nat.gcd p.natAbs w.natAbs * p'.natAbs := by
      conv => lhs; rw [hp]
      rw [Int.natAbs_mul, Int.natAbs_natCast]
    have e2 : w.natAbs = Nat.gcd p.natAbs w.natAbs * w'.natAbs := by
      conv => lhs; rw [hw']
      rw [Int.natAbs_mul, Int.natAbs_natCast]
    have key : Nat.gcd (Nat.gcd p.natAbs w.natAbs * p'.natAbs) (Nat.gcd p.natAbs w.natAbs * w'.natAbs) = Nat.gcd p.natAbs w.natAbs := by rw [← e1, ← e2]
    rw [Nat.gcd_mul_left] at key
    exact Nat.eq_of_mul_eq_mul_left hG (by rw [Nat.mul_one]; exact key)
  generalize Nat.gcd p.natAbs w.natAbs = G at *
  have hGi : (0 : Int) < (G : Int) := by omega
  by_cases hn : w < 0
  · rw [if_pos hn]
    have hw0 : w' < 0 := by
      apply Int.not_le.mp
      intro h
      have := Int.mul_nonneg (show (0 : Int) ≤ G by omega) h
      omega
    have f1 : p.fdiv (-(G : Int)) = -p' := by
      rw [hp, show (G : Int) * p' = (-p') * (-(G : Int)) by grind, Int.mul_fdiv_cancel _ (by omega)]
    have f2 : w.fdiv (-(G : Int)) = -w' := by
      rw [hw', show (G : Int) * w' = (-w') * (-(G : Int)) by grind, Int.mul_fdiv_cancel _ (by omega)]
    rw [f1, f2]
    refine low_unique hw (by omega) (by rw [Int.natAbs_neg, Int.natAbs_neg]; exact hc) ?_
    rw [hp, hw']
    grind
  · rw [if_neg hn]
    have hw0 : 0 < w' := by
      apply Int.not_le.mp
      intro h
      have : (G : Int) * w' ≤ 0 := by
        have := Int.mul_le_mul_of_nonneg_left h (show (0 : Int) ≤ G by omega)
        simpa using this
      omega
    have f1 : p.fdiv (G : Int) = p' := by
      rw [hp, Int.mul_comm, Int.mul_fdiv_cancel _ (by omega)]
    have f2 : w.fdiv (G : Int) = w' := by
      rw [hw', Int.mul_comm, Int.mul_fdiv_cancel _ (by omega)]
    rw [f1, f2]
    refine low_unique hw hw0 hc ?_
    rw [hp, hw']
    grind
theorem gcd_sz {n : Nat} {p w : Int} (hw : w ≠ 0) (h : Sz n w) : Sz n (Nat.gcd p.natAbs w.natAbs : Nat) := by
  unfold Sz at *
  rw [Int.natAbs_natCast]
  exact Nat.lt_of_le_of_lt (Nat.gcd_le_right _ (by omega)) h
theorem Rz.low {n : Nat} {p w : Int} (hw : w ≠ 0) (h1 : Sz n p) (h2 : Sz n w) : Rz n (Rat.divInt p w) := by
  have e := low_fdiv p w hw
  have hG : 0 < Nat.gcd p.natAbs w.natAbs := Nat.gcd_pos_of_pos_right _ (by omega)
  simp only [rD, PyData.tuple.injEq, List.cons.injEq, PyData.int.injEq, and_true] at e
  have q : ∀ (x : Int) (y : Nat), 0 < y → Sz n x → Sz n (x.fdiv y) ∧ Sz n (x.fdiv (-(y : Int))) := fun x y hy h => by
    unfold Sz at *
    have a : (x.fdiv y).natAbs ≤ x.natAbs := by
      rw [Int.fdiv_eq_ediv_of_nonneg _ (by omega)]
      rcases Int.le_total 0 x with hx | hx
      · have := Int.ediv_le_self (y : Int) hx
        have := Int.ediv_nonneg hx (show (0 : Int) ≤ y by omega)
        omega
      · have h1 : x ≤ x / (y : Int) := by
          apply Int.le_ediv_of_mul_le (by omega)
          have : x * (y : Int) ≤ x * 1 := Int.mul_le_mul_of_nonpos_left hx (by omega)
          omega
        have h2 : x / (y : Int) < 1 := Int.ediv_lt_of_lt_mul (by omega) (by omega)
        omega
    have b : (x.fdiv (-(y : Int))).natAbs ≤ x.natAbs := by
      have : x.fdiv (-(y : Int)) = (-x).fdiv y := by
        have := Int.neg_fdiv_neg x (-(y : Int))
        rw [Int.neg_neg] at this
        exact this.symm
      rw [this, Int.fdiv_eq_ediv_of_nonneg _ (by omega)]
      rcases Int.le_total 0 (-x) with hx | hx
      · have := Int.ediv_le_self (y : Int) hx
        have := Int.ediv_nonneg hx (show (0 : Int) ≤ y by omega)
        omega
      · have h1 : -x ≤ -x / (y : Int) := by
          apply Int.le_ediv_of_mul_le (by omega)
          have : -x * (y : Int) ≤ -x * 1 := Int.mul_le_mul_of_nonpos_left hx (by omega)
          omega
        have h2 : -x / (y : Int) < 1 := Int.ediv_lt_of_lt_mul (by omega) (by omega)
        omega
    exact ⟨by omega, by omega⟩
  have q1 := q p _ hG h1
  have q2 := q w _ hG h2
  constructor
  · rw [e.1]
    split
    · exact q1.2
    · exact q1.1
  · rw [e.2]
    split
    · exact q2.2
    · exact q2.1
end Cf
/-! Ch, part B: what reckons with fractions. -/
namespace Cf
open PySem PySem.Spec PyProof.Rows L2

/-- f brings two ints to lowest terms -/
def LowOk (f : List PyData → FnR) : Prop := ∀ (n : Nat) (p w : Int), w ≠ 0 → Sz n w → n ≤ 8000 → f [.int p, .int w] = .ok (.sh (rD (Rat.divInt p w)))
abbrev lowB : Mo Out :=
  seqF (setF 2 (callBF gcdG (consF (readF 0) (consF (readF 1) (nilF)))))
    (seqF (ifF (boolF (binF ltG (readF 1) (constF (.int 0)))) (setF 2 (unF negG (readF 2))) (skipF))
    (retF (tupF (consF (binF fdivG (readF 0) (readF 2)) (consF (binF fdivG (readF 1) (readF 2)) (nilF))))))
theorem lowB_ok : LowOk (runF 3 lowB) := fun n p w hw hs hn => by
  have hG : 0 < Nat.gcd p.natAbs w.natAbs := Nat.gcd_pos_of_pos_right _ (by omega)
  have hz := gcd_sz (p := p) hw hs
  rw [low_fdiv p w hw]
  generalize hGG : Nat.gcd p.natAbs w.natAbs = G at *
  have z2 : 2 ≤ sizeLine := by decide
  by_cases h : w < 0
  · have f1 := fdivG_sz (x := p) (y := -(G : Int)) (by omega) hz.neg hn
    have f2 := fdivG_sz (x := w) (y := -(G : Int)) (by omega) hz.neg hn
    simp [runF, h, hGG, f1, f2, z2]
  · have f1 := fdivG_sz (x := p) (y := (G : Int)) (by omega) hz hn
    have f2 := fdivG_sz (x := w) (y := (G : Int)) (by omega) hz hn
    simp [runF, h, hGG, f1, f2, z2]
abbrev plusB (f : List PyData → FnR) : Mo Out :=
  retF (callF 2 f (consF (binF addG (binF mulG (binF itemG (readF 0) (constF (.int 0))) (binF itemG (readF 1) (constF (.int 1)))) (binF mulG (binF itemG (readF 1) (constF (.int 0))) (binF itemG (readF 0) (constF (.int 1))))) (consF (binF mulG (binF itemG (readF 0) (constF (.int 1))) (binF itemG (readF 1) (constF (.int 1)))) (nilF))))
abbrev minusB (f : List PyData → FnR) : Mo Out :=
  retF (callF 2 f (consF (binF subG (binF mulG (binF itemG (readF 0) (constF (.int 0))) (binF itemG (readF 1) (constF (.int 1)))) (binF mulG (binF itemG (readF 1) (constF (.int 0))) (binF itemG (readF 0) (constF (.int 1))))) (consF (binF mulG (binF itemG (readF 0) (constF (.int 1))) (binF itemG (readF 1) (constF (.int 1)))) (nilF))))
abbrev timesB (f : List PyData → FnR) : Mo Out :=
  retF (callF 2 f (consF (binF mulG (binF itemG (readF 0) (constF (.int 0))) (binF itemG (readF 1) (constF (.int 0)))) (consF (binF mulG (binF itemG (readF 0) (constF (.int 1))) (binF itemG (readF 1) (constF (.int 1)))) (nilF))))
abbrev lessB : Mo Out :=
  retF (binF ltG (binF mulG (binF itemG (readF 0) (constF (.int 0))) (binF itemG (readF 1) (constF (.int 1)))) (binF mulG (binF itemG (readF 1) (constF (.int 0))) (binF itemG (readF 0) (constF (.int 1)))))
abbrev minusB2 (plus : List PyData → FnR) : Mo Out :=
  retF (callF 2 plus (consF (readF 0) (consF (tupF (consF (unF negG (binF itemG (readF 1) (constF (.int 0)))) (consF (binF itemG (readF 1) (constF (.int 1))) (nilF)))) (nilF))))
theorem den_ne (q : Rat) : (q.den : Int) ≠ 0 := by
  have := q.den_nz
  omega
theorem den_mul_ne (p q : Rat) : (p.den : Int) * (q.den : Int) ≠ 0 := Int.mul_ne_zero (den_ne p) (den_ne q)
theorem add_low (p q : Rat) : p + q = Rat.divInt (p.num * q.den + q.num * p.den) (p.den * q.den) := by
  conv => lhs; rw [← Rat.num_divInt_den p, ← Rat.num_divInt_den q]
  rw [Rat.divInt_add_divInt _ _ (den_ne p) (den_ne q)]
theorem sub_low (p q : Rat) : p - q = Rat.divInt (p.num * q.den - q.num * p.den) (p.den * q.den) := by
  conv => lhs; rw [← Rat.num_divInt_den p, ← Rat.num_divInt_den q]
  rw [Rat.divInt_sub_divInt _ _ (den_ne p) (den_ne q)]
theorem mul_low (p q : Rat) : p * q = Rat.divInt (p.num * q.num) (p.den * q.den) := by
  conv => lhs; rw [← Rat.num_divInt_den p, ← Rat.num_divInt_den q]
  rw [Rat.divInt_mul_divInt]
section
variable {n m : Nat} {p q : Rat}
theorem Rz.add (h : Rz n p) (k : Rz m q) : Rz (n + m + 1) (p + q) := by
  rw [add_low]
  exact Rz.low (den_mul_ne p q) (Sz.add (h.num.mul k.den) ((k.num.mul h.den).mono (by omega))) ((h.den.mul k.den).mono (by omega))
theorem Rz.sub (h : Rz n p) (k : Rz m q) : Rz (n + m + 1) (p - q) := by
  rw [sub_low]
  exact Rz.low (den_mul_ne p q) (Sz.sub (h.num.mul k.den) ((k.num.mul h.den).mono (by omega))) ((h.den.mul k.den).mono (by omega))
theorem Rz.mul (h : Rz n p) (k : Rz m q) : Rz (n + m) (p * q) := by
  rw [mul_low]
  exact Rz.low (den_mul_ne p q) (h.num.mul k.num) (h.den.mul k.den)
theorem Rz.neg (h : Rz n p) : Rz n (-p) := by
  have e : (-p).num = -p.num := Rat.neg_num p
  have d : (-p).den = p.den := Rat.neg_den p
  exact ⟨by rw [e]; exact h.num.neg, by rw [d]; exact h.den⟩
variable {f : List PyData → FnR} (hf : LowOk f) (h : Rz n p) (k : Rz m q) (hs : n + m ≤ 8000)
include hf h k hs
theorem plusB_ok : runF 2 (plusB f) [rD p, rD q] = .ok (.sh (rD (p + q))) := by
  rw [add_low]
  have e := hf (n + m) (p.num * q.den + q.num * p.den) (p.den * q.den) (den_mul_ne p q) (h.den.mul k.den) hs
  simp [runF, rD, at_num, at_den, mulG_sz h.num k.den (by omega), mulG_sz k.num h.den (by omega), mulG_sz h.den k.den (by omega), e]
theorem minusB_ok : runF 2 (minusB f) [rD p, rD q] = .ok (.sh (rD (p - q))) := by
  rw [sub_low]
  have e := hf (n + m) (p.num * q.den - q.num * p.den) (p.den * q.den) (den_mul_ne p q) (h.den.mul k.den) hs
  simp [runF, rD, at_num, at_den, mulG_sz h.num k.den (by omega), mulG_sz k.num h.den (by omega), mulG_sz h.den k.den (by omega), e]
theorem timesB_ok : runF 2 (timesB f) [rD p, rD q] = .ok (.sh (rD (p * q))) := by
  rw [mul_low]
  have e := hf (n + m) (p.num * q.num) (p.den * q.den) (den_mul_ne p q) (h.den.mul k.den) hs
  simp [runF, rD, at_num, at_den, mulG_sz h.num k.num (by omega), mulG_sz h.den k.den (by omega), e]
omit hf in
theorem lessB_ok : runF 2 lessB [rD p, rD q] = .ok (.sh (.bool (decide (p < q)))) := by
  simp [runF, rD, at_num, at_den, mulG_sz h.num k.den (by omega), mulG_sz k.num h.den (by omega), Rat.lt_iff]
end
theorem minusB2_ok {p q : Rat} {plus : List PyData → FnR} (h : plus [rD p, rD (-q)] = .ok (.sh (rD (p - q)))) : runF 2 (minusB2 plus) [rD p, rD q] = .ok (.sh (rD (p - q))) := by
  have e : (-q).num = -q.num := Rat.neg_num q
  have d : (-q).den = q.den := Rat.neg_den q
  simp only [rD, e, d] at h
  simp [runF, rD, at_num, at_den, h, show 2 ≤ sizeLine by decide]

/-! ### Euclid's loop -/
abbrev eucL (i j : Nat) : Mo Out := parF [i, j] (consU (readF j) (consU (binF modG (callBF intG (consF (readF i) (nilF))) (readF j)) (nilF)))
abbrev eucC (j : Nat) : Mo Bool := boolF (binF gtG (readF j) (constF (.int 0)))
theorem mod_half {a b : Nat} (hb : b < a) (h0 : 0 < b) : a % b < a - a / 2 := by
  rcases Nat.lt_or_ge (a / 2) b with h | h
  · have := Nat.mod_add_div a b
    have h1 : 1 ≤ a / b := (Nat.le_div_iff_mul_le h0).mpr (by omega)
    have : b * 1 ≤ b * (a / b) := Nat.mul_le_mul_left _ h1
    omega
  · have := Nat.mod_lt a h0
    omega
theorem euclid {i j : Nat} (hij : i ≠ j) {L : Mo Out} (hL : ∀ e : Fv, L e = eucL i j e) : ∀ (k : Nat) (a b : Nat) (e : Fv) (n : Nat), i < e.length → j < e.length → e[i]? = some (.sh (.int a)) → e[j]? = some (.sh (.int b)) → b < 2 ^ k → 2 * k + 1 ≤ n →
    ∃ e', whileN (eucC j) L n e = .ok .nx e' ∧ Agr [i, j] e e' ∧ e'[i]? = some (.sh (.int (Nat.gcd a b : Nat))) ∧ e'[j]? = some (.sh (.int 0)) := by
  have stop : ∀ (a : Nat) (e : Fv) (n : Nat), e[i]? = some (.sh (.int a)) → e[j]? = some (.sh (.int 0)) → ∃ e', whileN (eucC j) L (n + 1) e = .ok .nx e' ∧ Agr [i, j] e e' ∧ e'[i]? = some (.sh (.int (Nat.gcd a 0 : Nat))) ∧ e'[j]? = some (.sh (.int 0)) := fun a e n h1 h2 => by
    refine ⟨e, ?_, .refl, by simpa using h1, h2⟩
    unfold whileN
    rw [bind_app, show eucC j e = .ok false e by simp [-getElem?_pos, h2]]
    rfl
  have step : ∀ (a b : Nat) (e : Fv) (n : Nat), i < e.length → j < e.length → e[i]? = some (.sh (.int a)) → e[j]? = some (.sh (.int b)) → 0 < b →
      ∃ e1, whileN (eucC j) L (n + 1) e = whileN (eucC j) L n e1 ∧ Agr [i, j] e e1 ∧ e1[i]? = some (.sh (.int b)) ∧ e1[j]? = some (.sh (.int (a % b : Nat))) := fun a b e n l1 l2 h1 h2 hb => by
    refine ⟨(e.set i (.sh (.int b))).set j (.sh (.int (a % b : Nat))), ?_, (Agr.refl.set (by simp)).set (by simp), ?_, ?_⟩
    · conv => lhs; unfold whileN
      rw [bind_app, show eucC j e = .ok true e by simp [-getElem?_pos, h2]; omega]
      simp only [if_true]
      have f : (a : Int).fmod (b : Int) = ((a % b : Nat) : Int) := by
        rw [Int.fmod_eq_emod_of_nonneg _ (by omega)]
        omega
      have hb0 : b ≠ 0 := by omega
      have : L e = .ok .nx ((e.set i (.sh (.int b))).set j (.sh (.int (a % b : Nat)))) := by
        rw [hL]
        simp [-getElem?_pos, h1, h2, hb0]
        rw [Int.fmod_eq_emod_of_nonneg _ (by omega)]
      rw [bind_app, this]
    · rw [List.getElem?_set_ne (Ne.symm hij), List.getElem?_set_self l1]
    · rw [List.getElem?_set_self (by rw [List.length_set]; exact l2)]
  intro k
  induction k with
  | zero =>
    intro a b e n l1 l2 h1 h2 hb hn
    have : b = 0 := by simpa using hb
    subst this
    obtain ⟨n, rfl⟩ : ∃ m, n = m + 1 := ⟨n - 1, by omega⟩
    exact stop a e n h1 h2
  | succ k ih =>
    intro a b e n l1 l2 h1 h2 hb hn
    obtain ⟨n, rfl⟩ : ∃ m, n = m + 1 := ⟨n - 1, by omega⟩
    by_cases hb0 : b = 0
    · subst hb0
      exact stop a e n h1 h2
    · obtain ⟨e1, q1, a1, c1, d1⟩ := step a b e n l1 l2 h1 h2 (by omega)
      have g1 : Nat.gcd a b = Nat.gcd b (a % b) := by rw [Nat.gcd_comm a b, Nat.gcd_rec b a, Nat.gcd_comm]
      have lt1 : a % b < b := Nat.mod_lt _ (by omega)
      obtain ⟨n, rfl⟩ : ∃ m, n = m + 1 := ⟨n - 1, by omega⟩
      by_cases hr : a % b = 0
      · rw [hr] at d1
        obtain ⟨e2, q2, a2, c2, d2⟩ := stop b e1 n c1 d1
        exact ⟨e2, q1.trans q2, a1.trans a2, by rw [g1, hr]; exact c2, d2⟩
      · obtain ⟨e2, q2, a2, c2, d2⟩ := step b (a % b) e1 n (by rw [a1.len]; exact l1) (by rw [a1.len]; exact l2) c1 d1 (by omega)
        have lt2 : b % (a % b) < 2 ^ k := by
          have := mod_half lt1 (by omega)
          rw [Nat.pow_succ] at hb
          omega
        obtain ⟨e3, q3, a3, c3, d3⟩ := ih (a % b) (b % (a % b)) e2 n (by rw [a2.len, a1.len]; exact l1) (by rw [a2.len, a1.len]; exact l2) c2 d2 lt2 (by omega)
        have g2 : Nat.gcd b (a % b) = Nat.gcd (a % b) (b % (a % b)) := by rw [Nat.gcd_comm b, Nat.gcd_rec (a % b) b, Nat.gcd_comm]
        exact ⟨e3, q1.trans (q2.trans q3), (a1.trans a2).trans a3, by rw [g1, g2]; exact c3, d3⟩
/-- the law's own way to lowest terms -/
theorem lowE_ok {L : Mo Out} (hL : ∀ e : Fv, L e = eucL 2 3 e) : LowOk (runF 4 (seqF (parF [2, 3] (consU (callBF absG (consF (readF 0) (nilF))) (consU (callBF absG (consF (readF 1) (nilF))) (nilF))))
    (seqF (whileN (eucC 3) L 1000000)
    (seqF (ifF (boolF (binF ltG (readF 1) (constF (.int 0)))) (setF 2 (unF negG (readF 2))) (skipF))
    (retF (tupF (consF (binF fdivG (readF 0) (readF 2)) (consF (binF fdivG (readF 1) (readF 2)) (nilF))))))))) := fun n p w hw hs hn => by
  have hG : 0 < Nat.gcd p.natAbs w.natAbs := Nat.gcd_pos_of_pos_right _ (by omega)
  have hz := gcd_sz (p := p) hw hs
  obtain ⟨e', k1, a, k2, k3⟩ := euclid (i := 2) (j := 3) (by decide) hL n p.natAbs w.natAbs [.sh (.int p), .sh (.int w), .sh (.int p.natAbs), .sh (.int w.natAbs)] 1000000 (by simp) (by simp) rfl rfl hs (by omega)
  have z0 := a.at_ 0 (by decide)
  have z1 := a.at_ 1 (by decide)
  have len := a.len
  rw [low_fdiv p w hw]
  generalize hGG : Nat.gcd p.natAbs w.natAbs = G at *
  have z2 : 2 ≤ sizeLine := by decide
  unfold runF
  rw [seq_nx (e' := [.sh (.int p), .sh (.int w), .sh (.int p.natAbs), .sh (.int w.natAbs)]) (by simp), seq_nx k1]
  simp only [List.getElem?_cons_zero, List.getElem?_cons_succ] at z0 z1
  have l4 : e'.length = 4 := len
  by_cases h : w < 0
  · have f1 := fdivG_sz (x := p) (y := -(G : Int)) (by omega) hz.neg hn
    have f2 := fdivG_sz (x := w) (y := -(G : Int)) (by omega) hz.neg hn
    simp [-getElem?_pos, List.getElem?_set, z0, z1, k2, l4, h, f1, f2, z2]
  · have f1 := fdivG_sz (x := p) (y := (G : Int)) (by omega) hz hn
    have f2 := fdivG_sz (x := w) (y := (G : Int)) (by omega) hz hn
    simp [-getElem?_pos, List.getElem?_set, z0, z1, k2, l4, h, f1, f2, z2]
end Cf
/-! Ch, part C: _law_same. -/
namespace Cf
open PySem PySem.Spec PyProof.Rows L2
abbrev sameL (self : List PyData → FnR) : Mo Out :=
  ifF (notF (truthF (callF 2 self (consF (binF itemG (readF 0) (readF 2)) (consF (binF itemG (readF 1) (readF 2)) (nilF)))))) (retF (constF (.bool false))) (skipF)
noncomputable def sameG (L : Mo Out) : Mo Out :=
  seqF (ifF (orF (boolF (binF isG (readF 1) (constF .none))) (boolF (binF isG (readF 0) (constF .none)))) (retF (ofB (andF (boolF (binF isG (readF 1) (constF .none))) (boolF (binF isG (readF 0) (constF .none)))))) (skipF))
    (seqF (ifF (orF (isF "tuple" (readF 1)) (isF "list" (readF 1))) (seqF (ifF (orF (boolF (binF neG (ofB (isF "tuple" (readF 1))) (ofB (isF "tuple" (readF 0))))) (boolF (binF neG (ofB (isF "list" (readF 1))) (ofB (isF "list" (readF 0)))))) (retF (constF (.bool false))) (skipF))
    (seqF (ifF (boolF (binF neG (callBF lenG (consF (readF 0) (nilF))) (callBF lenG (consF (readF 1) (nilF))))) (retF (constF (.bool false))) (skipF))
    (seqF (forF (range1I (consF (callBF lenG (consF (readF 1) (nilF))) (nilF))) (toSlot 2) L)
    (retF (constF (.bool true)))))) (skipF))
    (seqF (ifF (boolF (binF neG (ofB (isF "bool" (readF 1))) (ofB (isF "bool" (readF 0))))) (retF (constF (.bool false))) (skipF))
    (seqF (ifF (orF (boolF (binF neG (ofB (isF "int" (readF 1))) (ofB (isF "int" (readF 0))))) (boolF (binF neG (ofB (isF "str" (readF 1))) (ofB (isF "str" (readF 0)))))) (retF (constF (.bool false))) (skipF))
    (retF (binF eqG (readF 0) (readF 1))))))
theorem same_seq {f : List PyData → FnR} {n : Nat} {L : Mo Out} (hL : ∀ e : Fv, L e = sameL f e) {w : List PyData → PyData} (hw : w = .tuple ∨ w = .list) {ds : List PyData} (hl : ds.length < 2 ^ 24) (h : ∀ d ∈ ds, f [d, d] = .ok (.sh (.bool true))) :
    runF 3 (sameG L) [w ds, w ds] = .ok (.sh (.bool true)) := by
  obtain ⟨e', k1, ⟨x, rfl⟩⟩ := loop_range (T := toSlot 2) (B := L) (cnt := ds.length) (e := [.sh (w ds), .sh (w ds), .un]) (J := fun k e => ∃ x, e = [.sh (w ds), .sh (w ds), x]) (fun k e hk ⟨x, he⟩ => by
    subst he
    refine ⟨[.sh (w ds), .sh (w ds), .sh (.int k)], .inl ?_, .sh (.int k), rfl⟩
    have ea : atI ds (k : Int) = some ds[k] := by
      rw [atI_nat (by omega) (by omega)]
      simp [List.getElem?_eq_getElem hk]
    have := h ds[k] (List.getElem_mem hk)
    rcases hw with rfl | rfl <;> simp [hL, ea, this]) ⟨.un, rfl⟩
  have fo : (forF (range1I (consF (callBF lenG (consF (readF 1) (nilF))) (nilF))) (toSlot 2) L : Mo Out) [.sh (w ds), .sh (w ds), .un] = .ok .nx [.sh (w ds), .sh (w ds), x] := by
    rw [for_ok (range1_ok (j := ds.length) (e' := [.sh (w ds), .sh (w ds), .un]) (by rcases hw with rfl | rfl <;> simp) (by omega) (by omega)), Int.toNat_natCast]
    exact k1
  unfold runF sameG
  generalize forF (range1I (consF (callBF lenG (consF (readF 1) (nilF))) (nilF))) (toSlot 2) L = F at fo
  rcases hw with rfl | rfl <;> simp [neG_bool, neG_int, fo]
/-- d with itself -/
theorem same_one {f : List PyData → FnR} {n : Nat} {L : Mo Out} (hL : ∀ e : Fv, L e = sameL f e) (ih : ∀ d, Deepn n d → f [d, d] = .ok (.sh (.bool true))) : ∀ {d : PyData}, Deepn (n + 1) d → runF 3 (sameG L) [d, d] = .ok (.sh (.bool true))
  | _, .int i => by simp [runF, sameG, eqG_int, neG_bool]
  | _, .bool b => by simp [runF, sameG, eqG_bool, neG_bool]
  | _, .str x h => by simp [runF, sameG, neG_bool, eqG, eqOk, PyData.canLay0, PyData.depth, PyData.eqv, h]
  | _, .non => by simp [runF, sameG]
  | _, .tup hl h => same_seq (n := n) hL (.inl rfl) hl fun d hd => ih d (h d hd)
  | _, .lst hl h => same_seq (n := n) hL (.inr rfl) hl fun d hd => ih d (h d hd)
end Cf
/-! Ch, part D: order of tuples. -/
namespace Cf
open PySem PySem.Spec PyProof.Rows L2 PySem.W

def tupOk (a b : PyData) : Bool := isTup0 a && alike a b && eqOk a b
theorem tupOk_c (a b : PyData) (h : tupOk a b = true) : a.canLay0 = true ∧ b.canLay0 = true := by
  unfold tupOk at h
  simp only [Bool.and_eq_true] at h
  exact eqOk_c _ _ h.2
theorem tupOk_p {a b : PyData} (h : tupOk a b = true) : alike a b = true ∧ a ≠ .none ∧ min a.depth b.depth ≤ 64 := by
  unfold tupOk eqOk at h
  simp only [Bool.and_eq_true, decide_eq_true_eq] at h
  obtain ⟨⟨h1, h2⟩, ⟨h3, h4⟩, h5⟩ := h
  exact ⟨h2, fun e => (by rw [e] at h1; cases h1), h5⟩
def ltT (a b : PyData) : Option Rv := if tupOk a b = true then some (.sh (.bool (dataLt a b))) else none
def gtT (a b : PyData) : Option Rv := if tupOk a b = true then some (.sh (.bool (dataLt b a))) else none
def leT (a b : PyData) : Option Rv := if tupOk a b = true then some (.sh (.bool (!dataLt b a))) else none
def geT (a b : PyData) : Option Rv := if tupOk a b = true then some (.sh (.bool (!dataLt a b))) else none
def ltX (a b : PyData) : Option Rv := (ltG a b).or (ltT a b)
def gtX (a b : PyData) : Option Rv := (gtG a b).or (gtT a b)
def leX (a b : PyData) : Option Rv := (leG a b).or (leT a b)
def geX (a b : PyData) : Option Rv := (geG a b).or (geT a b)
section
variable {X : Cx}
theorem op2_ltX (hu : X.A.units + 100 < cLine) : Op2 X (compareOp .Lt) ltX := by
  refine op2_lt.or (op2_rd (fun pins s σ H x y v u Q I rx ry h => ?_) tupOk_c)
  obtain ⟨d, e, hd, he, ok, q⟩ := h
  obtain ⟨as, r1⟩ := Dp.reads I d x v hd rx
  obtain ⟨bs, r2⟩ := Dp.reads I e y u he ry
  obtain ⟨k1, k2, k3⟩ := tupOk_p ok
  exact lt_data r1 r2 k1 k2 (by omega) ⟨.bl _, H, I, rfl, q⟩
theorem op2_gtX (hu : X.A.units + 100 < cLine) : Op2 X (compareOp .Gt) gtX := by
  refine op2_gt.or (op2_rd (k := fun a b => dataLt b a) (fun pins s σ H x y v u Q I rx ry h => ?_) tupOk_c)
  obtain ⟨d, e, hd, he, ok, q⟩ := h
  obtain ⟨as, r1⟩ := Dp.reads I d x v hd rx
  obtain ⟨bs, r2⟩ := Dp.reads I e y u he ry
  obtain ⟨k1, k2, k3⟩ := tupOk_p ok
  exact gt_data r1 r2 k1 k2 (by omega) ⟨.bl _, H, I, rfl, q⟩
theorem op2_leX (hu : X.A.units + 100 < cLine) : Op2 X (compareOp .LtE) leX := by
  refine op2_le.or (op2_rd (k := fun a b => !dataLt b a) (fun pins s σ H x y v u Q I rx ry h => ?_) tupOk_c)
  obtain ⟨d, e, hd, he, ok, q⟩ := h
  obtain ⟨as, r1⟩ := Dp.reads I d x v hd rx
  obtain ⟨bs, r2⟩ := Dp.reads I e y u he ry
  obtain ⟨k1, k2, k3⟩ := tupOk_p ok
  exact le_data r1 r2 k1 k2 (by omega) ⟨.bl _, H, I, rfl, q⟩
theorem op2_geX (hu : X.A.units + 100 < cLine) : Op2 X (compareOp .GtE) geX := by
  refine op2_ge.or (op2_rd (k := fun a b => !dataLt a b) (fun pins s σ H x y v u Q I rx ry h => ?_) tupOk_c)
  obtain ⟨d, e, hd, he, ok, q⟩ := h
  obtain ⟨as, r1⟩ := Dp.reads I d x v hd rx
  obtain ⟨bs, r2⟩ := Dp.reads I e y u he ry
  obtain ⟨k1, k2, k3⟩ := tupOk_p ok
  exact ge_data r1 r2 k1 k2 (by omega) ⟨.bl _, H, I, rfl, q⟩
end
end Cf
/-! Cn, part A: what is known of the slots; expressions from there to native values. -/
namespace Cn
open PySem PySem.Spec PyProof.Rows L2 Cf

/-- what is known of a slot -/
inductive Pt where
  | any
  | now
  | sh (d : PyData)
  | own (t : Option Nat) (ds : List PyData)
  | lst (ds : List PyData)
def Fit : Pt → Sl → Prop
  | .any, _ => True
  | .now, s => ∀ t ds, s ≠ .own t ds
  | .sh d, s => s = .sh d
  | .own t ds, s => s = .own t ds
  | .lst ds, s => s = .sh (.list ds) ∨ s = .own none ds
def Mat : List Pt → Fv → Prop
  | [], [] => True
  | p :: P, s :: e => Fit p s ∧ Mat P e
  | _, _ => False
def nth : List Pt → Nat → Option Pt
  | [], _ => none
  | p :: _, 0 => some p
  | _ :: P, i + 1 => nth P i
def put : List Pt → Nat → Pt → List Pt
  | [], _, _ => []
  | _ :: P, 0, q => q :: P
  | p :: P, i + 1, q => p :: put P i q
def Le : List Pt → List Pt → Prop
  | [], [] => True
  | p :: P, q :: Q => (∀ s, Fit p s → Fit q s) ∧ Le P Q
  | _, _ => False
theorem Le.refl : ∀ {P : List Pt}, Le P P
  | [] => trivial
  | _ :: _ => ⟨fun _ h => h, Le.refl⟩
theorem Le.mat : ∀ {P Q : List Pt} {e : Fv}, Le P Q → Mat P e → Mat Q e
  | [], [], [], _, _ => trivial
  | _ :: _, _ :: _, _ :: _, l, m => ⟨l.1 _ m.1, Le.mat l.2 m.2⟩
  | [], [], _ :: _, _, m => m
  | _ :: _, _ :: _, [], _, m => m
theorem wk {p : Pt} : ∀ s, Fit p s → Fit p s := fun _ h => h
theorem wk_any {p : Pt} : ∀ s, Fit p s → Fit .any s := fun _ _ => trivial
theorem wk_now {d : PyData} : ∀ s, Fit (.sh d) s → Fit .now s := fun s h t ds z => by
  rw [show s = _ from h] at z; cases z
theorem wk_own {ds : List PyData} : ∀ s, Fit (.own none ds) s → Fit (.lst ds) s := fun s h => .inr h
theorem wk_sh {ds : List PyData} : ∀ s, Fit (.sh (.list ds)) s → Fit (.lst ds) s := fun s h => .inl h
theorem Mat.get : ∀ {P : List Pt} {e : Fv} {i : Nat} {p : Pt}, Mat P e → nth P i = some p → ∃ s, e[i]? = some s ∧ Fit p s
  | _ :: _, s :: _, 0, _, m, h => ⟨s, rfl, by cases h; exact m.1⟩
  | _ :: _, _ :: _, i + 1, _, m, h => by
    obtain ⟨s, h1, h2⟩ := Mat.get (i := i) m.2 h
    exact ⟨s, by simpa using h1, h2⟩
  | [], _, _, _, _, h => by cases h
  | _ :: _, [], _, _, m, _ => m.elim
theorem Mat.set : ∀ {P : List Pt} {e : Fv} {i : Nat} {q : Pt} {s : Sl}, Mat P e → Fit q s → Mat (put P i q) (e.set i s)
  | _ :: _, _ :: _, 0, _, _, m, f => ⟨f, m.2⟩
  | _ :: _, _ :: _, i + 1, _, _, m, f => ⟨m.1, Mat.set (i := i) m.2 f⟩
  | [], [], _, _, _, _, _ => trivial
  | [], _ :: _, _, _, _, m, _ => m.elim
  | _ :: _, [], _, _, _, m, _ => m.elim
theorem nth_put_same : ∀ {P : List Pt} {i : Nat} {p q : Pt}, nth P i = some p → nth (put P i q) i = some q
  | _ :: _, 0, _, _, _ => rfl
  | _ :: _, i + 1, _, _, h => nth_put_same (i := i) h
  | [], _, _, _, h => by cases h
theorem nth_put_ne : ∀ {P : List Pt} {i j : Nat} {q : Pt}, i ≠ j → nth (put P i q) j = nth P j
  | [], _, _, _, _ => rfl
  | _ :: _, 0, 0, _, h => absurd rfl h
  | _ :: _, 0, _ + 1, _, _ => rfl
  | _ :: _, _ + 1, 0, _, _ => rfl
  | _ :: _, i + 1, j + 1, _, h => nth_put_ne (i := i) (j := j) fun z => h (by rw [z])
theorem Mat.len : ∀ {P : List Pt} {e : Fv}, Mat P e → P.length = e.length
  | [], [], _ => rfl
  | _ :: _, _ :: _, m => by rw [List.length_cons, List.length_cons, Mat.len m.2]
  | [], _ :: _, m => m.elim
  | _ :: _, [], m => m.elim

/-- the kind of a result: a datum that stands still, a new list, one of both, what slot i holds -/
inductive Kd where
  | s
  | f
  | u
  | v (i : Nat)
def Rk (P : List Pt) : Kd → Rv → PyData → Prop
  | .s, r, d => r = .sh d
  | .f, r, d => ∃ ds, d = .list ds ∧ r = .fr ds
  | .u, r, d => r = .sh d ∨ ∃ ds, d = .list ds ∧ r = .fr ds
  | .v i, r, d => ∃ ds, d = .list ds ∧ ((r = .sl i ∧ ∃ t, nth P i = some (.own t ds)) ∨ ((nth P i = some (.lst ds) ∨ nth P i = some (.sh (.list ds))) ∧ (r = .sl i ∨ r = .sh d)))
def Stab : Kd → List Pt → List Pt → Prop
  | .v i, P, Q => nth Q i = nth P i ∨ ∃ ds, nth P i = some (.own none ds) ∧ nth Q i = some (.sh (.list ds))
  | _, _, _ => True
theorem Rk.stab {P Q : List Pt} {k : Kd} {r : Rv} {d : PyData} (h : Rk P k r d) (s : Stab k P Q) : Rk Q k r d := by
  cases k with
  | v i =>
    obtain ⟨ds, e, h⟩ := h
    rcases (show nth Q i = nth P i ∨ ∃ ds, nth P i = some (.own none ds) ∧ nth Q i = some (.sh (.list ds)) from s) with s' | ⟨es, s1, s2⟩
    · exact ⟨ds, e, by rw [s']; exact h⟩
    · rcases h with ⟨hr, t, h⟩ | ⟨h | h, _⟩
      · rw [s1] at h
        cases h
        exact ⟨ds, e, .inr ⟨.inr s2, .inl hr⟩⟩
      · rw [s1] at h; cases h
      · rw [s1] at h; cases h
  | _ => exact h
theorem Rk.peek {P : List Pt} {k : Kd} {r : Rv} {d : PyData} {e : Fv} (h : Rk P k r d) (m : Mat P e) : peek r e = .ok d e := by
  cases k with
  | s => cases h; rfl
  | f => obtain ⟨ds, rfl, rfl⟩ := h; rfl
  | u =>
    rcases h with rfl | ⟨ds, rfl, rfl⟩ <;> rfl
  | v i =>
    obtain ⟨ds, rfl, ⟨rfl, t, h⟩ | ⟨h, hr⟩⟩ := h
    · obtain ⟨s, h1, h2⟩ := m.get h
      cases (show s = _ from h2)
      simp [h1]
    · rcases hr with rfl | rfl
      · rcases h with h | h
        · obtain ⟨s, h1, h2⟩ := m.get h
          rcases (show s = _ ∨ s = _ from h2) with rfl | rfl <;> simp [h1]
        · obtain ⟨s, h1, h2⟩ := m.get h
          cases (show s = _ from h2)
          simp [h1]
      · rfl
theorem Rk.peekH {P : List Pt} {k : Kd} {r : Rv} {d : PyData} {e : Fv} (h : Rk P k r d) (m : Mat P e) : Cf.peek (hold r) e = .ok d e := by
  have := h.peek m
  cases r <;> exact this
/-- behind the freezing of what a result stands for -/
def frz1P : Pt → Pt
  | .own none ds => .sh (.list ds)
  | p => p
def modP : List Pt → Nat → List Pt
  | [], _ => []
  | p :: P, 0 => frz1P p :: P
  | p :: P, i + 1 => p :: modP P i
def frzK : Kd → List Pt → List Pt
  | .v i, P => modP P i
  | _, P => P
def okK : Kd → List Pt → Bool
  | .v i, P => match nth P i with
    | some (.own none _) => true
    | some (.lst _) => true
    | some (.sh _) => true
    | _ => false
  | _, _ => true
theorem modP_put : ∀ {P : List Pt} {i : Nat} {p : Pt}, nth P i = some p → modP P i = put P i (frz1P p)
  | _ :: _, 0, _, h => by cases h; rfl
  | _ :: P, i + 1, p, h => by
    exact congrArg (List.cons _) (modP_put (i := i) h)
  | [], _, _, h => by cases h
theorem Mat.same : ∀ {P : List Pt} {e : Fv} {i : Nat} {q : Pt} {s : Sl}, Mat P e → e[i]? = some s → Fit q s → Mat (put P i q) e
  | _ :: _, _ :: _, 0, _, _, m, h, f => ⟨by simp at h; rw [h]; exact f, m.2⟩
  | _ :: _, _ :: _, i + 1, _, _, m, h, f => ⟨m.1, Mat.same (i := i) m.2 (by simpa using h) f⟩
  | [], [], _, _, _, _, _, _ => trivial
  | [], _ :: _, _, _, _, m, _, _ => m.elim
  | _ :: _, [], _, _, _, m, _, _ => m.elim
theorem Rk.force {P : List Pt} {k : Kd} {r : Rv} {d : PyData} {e : Fv} (h : Rk P k r d) (m : Mat P e) (ok : okK k P = true) : ∃ e', Cf.force r e = .ok d e' ∧ Mat (frzK k P) e' := by
  cases k with
  | s => cases h; exact ⟨e, rfl, m⟩
  | f => obtain ⟨ds, rfl, rfl⟩ := h; exact ⟨e, rfl, m⟩
  | u =>
    rcases h with rfl | ⟨ds, rfl, rfl⟩ <;> exact ⟨e, rfl, m⟩
  | v i =>
    obtain ⟨ds, rfl, ⟨rfl, t, h⟩ | ⟨h, hr⟩⟩ := h
    · obtain ⟨s, h1, h2⟩ := m.get h
      cases (show s = _ from h2)
      have ht : t = none := by
        have ok' : (match nth P i with
          | some (.own none _) => true
          | some (.lst _) => true
          | some (.sh _) => true
          | _ => false) = true := ok
        rw [h] at ok'
        cases t with
        | none => rfl
        | some _ => cases ok'
      subst ht
      refine ⟨e.set i (.sh (.list ds)), by simp [h1], ?_⟩
      show Mat (modP P i) _
      rw [modP_put h]
      exact m.set rfl
    · rcases h with h | h
      · obtain ⟨s, h1, h2⟩ := m.get h
        have em : Mat (modP P i) e := by
          rw [modP_put h]
          exact m.same h1 h2
        rcases hr with rfl | rfl
        · rcases (show s = _ ∨ s = _ from h2) with rfl | rfl
          · exact ⟨e, by simp [h1], em⟩
          · refine ⟨e.set i (.sh (.list ds)), by simp [h1], ?_⟩
            show Mat (modP P i) _
            rw [modP_put h]
            exact m.set (.inl rfl)
        · exact ⟨e, rfl, em⟩
      · obtain ⟨s, h1, h2⟩ := m.get h
        have em : Mat (modP P i) e := by
          rw [modP_put h]
          exact m.same h1 h2
        cases (show s = _ from h2)
        rcases hr with rfl | rfl
        · exact ⟨e, by simp [h1], em⟩
        · exact ⟨e, rfl, em⟩
end Cn
/-! Cn, part B: expressions. -/
namespace Cn
open PySem PySem.Spec PyProof.Rows L2 Cf

/-! ### native steps -/
def letO {α β : Type} (v : α) (k : α → Option β) : Option β := k v
theorem letO_eq {α β : Type} (v : α) (k : α → Option β) : letO v k = k v := rfl
theorem letE {α β : Type} {v : α} {k : α → Option β} {r : β} {G : Prop} (h : letO v k = some r) (g : ∀ x, x = v → k x = some r → G) : G := g v rfl h
theorem bindE {α β : Type} {o : Option α} {k : α → Option β} {r : β} {G : Prop} (h : o.bind k = some r) (g : ∀ x, o = some x → k x = some r → G) : G := by
  cases o with
  | none => cases h
  | some x => exact g x rfl h
theorem someE {α : Type} {v r : α} (h : some v = some r) : v = r := Option.some.inj h

theorem bo {α β : Type} {m : Mo α} {k : α → Mo β} {e e1 : Fv} {a : α} {x : Res β} (h : m e = .ok a e1) (g : k a e1 = x) : (m >>= k) e = x := by
  rw [bind_app, h]
  exact g
theorem lo {α : Type} {o : Option α} {a : α} {e : Fv} (h : o = some a) : (liftO o : Mo α) e = .ok a e := by
  rw [h]
  rfl

/-! ### the judgements -/
def Ef (P : List Pt) (F : Mo Rv) (k : Kd) (d : PyData) (P' : List Pt) : Prop := ∀ e, Mat P e → ∃ r e', F e = .ok r e' ∧ Mat P' e' ∧ Rk P' k r d
def Eb (P : List Pt) (F : Mo Bool) (b : Bool) (P' : List Pt) : Prop := ∀ e, Mat P e → ∃ e', F e = .ok b e' ∧ Mat P' e'
def Rks (P : List Pt) : List Kd → List Rv → List PyData → Prop
  | [], [], [] => True
  | k :: ks, r :: rs, d :: ds => Rk P k r d ∧ Rks P ks rs ds
  | _, _, _ => False
def Ea (P : List Pt) (Fs : Mo (List Rv)) (ks : List Kd) (ds : List PyData) (P' : List Pt) : Prop := ∀ e, Mat P e → ∃ rs e', Fs e = .ok rs e' ∧ Mat P' e' ∧ Rks P' ks rs ds
def It (P : List Pt) (I : Mo (List PyData)) (ds : List PyData) (P' : List Pt) : Prop := ∀ e, Mat P e → ∃ e', I e = .ok ds e' ∧ Mat P' e'
def frzs : List Kd → List Pt → List Pt
  | [], P => P
  | k :: ks, P => frzs ks (frzK k P)
def okKs : List Kd → List Pt → Bool
  | [], _ => true
  | k :: ks, P => okK k P && okKs ks P
section
variable {P P' P1 P2 P3 : List Pt} {F F1 F2 F3 : Mo Rv} {k k1 k2 k3 : Kd} {d d1 d2 d3 : PyData}
theorem Ef.cast (h : Ef P F k d P') (e : d = d1) : Ef P F k d1 P' := e ▸ h
theorem Ef.weak (h : Ef P F k d P1) (s : Stab k P1 P2) (l : Le P1 P2) : Ef P F k d P2 := fun e m => by
  obtain ⟨r, e', h1, h2, h3⟩ := h e m
  exact ⟨r, e', h1, l.mat h2, h3.stab s⟩
theorem Ef.to_u (h : Ef P F .f d P') : Ef P F .u d P' := fun e m => by
  obtain ⟨r, e', h1, h2, h3⟩ := h e m
  exact ⟨r, e', h1, h2, .inr h3⟩
theorem Ef.to_u' (h : Ef P F .s d P') : Ef P F .u d P' := fun e m => by
  obtain ⟨r, e', h1, h2, h3⟩ := h e m
  exact ⟨r, e', h1, h2, .inl h3⟩
theorem Ef.app {G : Mo Rv} (q : ∀ e, F e = G e) (h : Ef P G k d P') : Ef P F k d P' := fun e m => by
  rw [q]; exact h e m
theorem Eb.app {F G : Mo Bool} {b : Bool} (q : ∀ e, F e = G e) (h : Eb P G b P') : Eb P F b P' := fun e m => by
  rw [q]; exact h e m
theorem Eb.cast {F : Mo Bool} {b b' : Bool} (h : Eb P F b P') (e : b = b') : Eb P F b' P' := e ▸ h
theorem ef_var {i : Nat} (h : nth P i = some (.sh d)) : Ef P (readF i) .s d P := fun e m => by
  obtain ⟨s, h1, h2⟩ := m.get h
  cases (show s = _ from h2)
  exact ⟨.sh d, e, by simp [h1], m, rfl⟩
theorem ef_own {i : Nat} {t : Option Nat} {ds : List PyData} (h : nth P i = some (.own t ds)) : Ef P (readF i) (.v i) (.list ds) P := fun e m => by
  obtain ⟨s, h1, h2⟩ := m.get h
  cases (show s = _ from h2)
  exact ⟨.sl i, e, by simp [h1], m, ds, rfl, .inl ⟨rfl, t, h⟩⟩
theorem ef_lst {i : Nat} {ds : List PyData} (h : nth P i = some (.lst ds)) : Ef P (readF i) (.v i) (.list ds) P := fun e m => by
  obtain ⟨s, h1, h2⟩ := m.get h
  rcases (show s = _ ∨ s = _ from h2) with rfl | rfl
  · exact ⟨.sh (.list ds), e, by simp [h1], m, ds, rfl, .inr ⟨.inl h, .inr rfl⟩⟩
  · exact ⟨.sl i, e, by simp [h1], m, ds, rfl, .inr ⟨.inl h, .inl rfl⟩⟩
theorem ef_const : Ef P (constF d) .s d P := fun e m => ⟨.sh d, e, rfl, m, rfl⟩
theorem ef_bin {g : PyData → PyData → Option Rv} (h1 : Ef P F1 k1 d1 P1) (h2 : Ef P1 F2 k2 d2 P2) (st : Stab k1 P1 P2) (hg : g d1 d2 = some (.sh d)) : Ef P (binF g F1 F2) .s d P2 := fun e m => by
  obtain ⟨r1, e1, a1, m1, q1⟩ := h1 e m
  obtain ⟨r2, e2, a2, m2, q2⟩ := h2 e1 m1
  exact ⟨.sh d, e2, bo a1 (bo a2 (bo ((q1.stab st).peekH m2) (bo (q2.peek m2) (lo hg)))), m2, rfl⟩
theorem ef_binL {g : PyData → PyData → Option Rv} {ds : List PyData} (h1 : Ef P F1 k1 d1 P1) (h2 : Ef P1 F2 k2 d2 P2) (st : Stab k1 P1 P2) (hg : g d1 d2 = some (.fr ds)) : Ef P (binF g F1 F2) .f (.list ds) P2 := fun e m => by
  obtain ⟨r1, e1, a1, m1, q1⟩ := h1 e m
  obtain ⟨r2, e2, a2, m2, q2⟩ := h2 e1 m1
  exact ⟨.fr ds, e2, bo a1 (bo a2 (bo ((q1.stab st).peekH m2) (bo (q2.peek m2) (lo hg)))), m2, ds, rfl, rfl⟩
theorem ef_un {g : PyData → Option Rv} (h1 : Ef P F1 k1 d1 P1) (hg : g d1 = some (.sh d)) : Ef P (unF g F1) .s d P1 := fun e m => by
  obtain ⟨r1, e1, a1, m1, q1⟩ := h1 e m
  exact ⟨.sh d, e1, bo a1 (bo (q1.peek m1) (lo hg)), m1, rfl⟩
theorem ef_chain {g g' : PyData → PyData → Option Rv} {b1 b2 : Bool} (h1 : Ef P F1 k1 d1 P1) (h2 : Ef P1 F2 k2 d2 P2) (h3 : Ef P2 F3 k3 d3 P2) (st : Stab k1 P1 P2) (hg : g d1 d2 = some (.sh (.bool b1))) (hg' : g' d2 d3 = some (.sh (.bool b2))) :
    Ef P (chainF g g' F1 F2 F3) .s (.bool (b1 && b2)) P2 := fun e m => by
  obtain ⟨r1, e1, a1, m1, q1⟩ := h1 e m
  obtain ⟨r2, e2, a2, m2, q2⟩ := h2 e1 m1
  obtain ⟨r3, e3, a3, m3, q3⟩ := h3 e2 m2
  have p1 := (q1.stab st).peekH m2
  have p2 := q2.peekH m2
  have p2' := q2.peekH m3
  have p3 := q3.peek m3
  cases b1 with
  | true => exact ⟨_, e3, bo a1 (bo a2 (bo p1 (bo p2 (by rw [hg]; exact bo a3 (bo p2' (bo p3 (lo hg'))))))), m3, rfl⟩
  | false => exact ⟨_, e2, bo a1 (bo a2 (bo p1 (bo p2 (by rw [hg]; rfl)))), m2, rfl⟩
theorem ef_ofB {T : Mo Bool} {b : Bool} (h : Eb P T b P') : Ef P (ofB T) .s (.bool b) P' := fun e m => by
  obtain ⟨e1, a1, m1⟩ := h e m
  exact ⟨_, e1, bo a1 rfl, m1, rfl⟩
theorem eb_bool {b : Bool} (h : Ef P F .s (.bool b) P') : Eb P (boolF F) b P' := fun e m => by
  obtain ⟨r, e1, a1, m1, q⟩ := h e m
  cases (show r = _ from q)
  exact ⟨e1, bo a1 rfl, m1⟩
theorem eb_truth {b : Bool} (h : Ef P F k d P') (ht : truthD d = some b) : Eb P (truthF F) b P' := fun e m => by
  obtain ⟨r, e1, a1, m1, q⟩ := h e m
  exact ⟨e1, bo a1 (bo (q.peek m1) (lo ht)), m1⟩
theorem eb_is {T : String} {b : Bool} (h : Ef P F k d P') (ht : isTy T d = b) : Eb P (isF T F) b P' := fun e m => by
  obtain ⟨r, e1, a1, m1, q⟩ := h e m
  exact ⟨e1, bo a1 (bo (q.peek m1) (by rw [ht]; rfl)), m1⟩
theorem eb_not {T : Mo Bool} {b : Bool} (h : Eb P T b P') : Eb P (notF T) (!b) P' := fun e m => by
  obtain ⟨e1, a1, m1⟩ := h e m
  exact ⟨e1, bo a1 rfl, m1⟩
theorem eb_yes : Eb P yesF true P := fun e m => ⟨e, rfl, m⟩
/-- and, or: the second part in its own steps -/
theorem eb_andE {σ : Type} {T1 T2 : Mo Bool} {b1 : Bool} {o2 : Option σ} {s0 s : σ} (val : σ → Bool) (Q : σ → List Pt) (hs : (if b1 = true then o2 else some s0) = some s) (h1 : Eb P T1 b1 P1) (h0 : val s0 = false) (hQ : Le P1 (Q s0))
    (h2 : b1 = true → ∀ s, o2 = some s → Eb P1 T2 (val s) (Q s)) : Eb P (andF T1 T2) (val s) (Q s) := fun e m => by
  obtain ⟨e1, a1, m1⟩ := h1 e m
  cases b1 with
  | true =>
    rw [if_pos rfl] at hs
    obtain ⟨e2, a2, m2⟩ := h2 rfl s hs e1 m1
    exact ⟨e2, bo a1 a2, m2⟩
  | false =>
    rw [if_neg Bool.false_ne_true] at hs
    cases hs
    exact ⟨e1, bo a1 (by rw [h0]; rfl), hQ.mat m1⟩
theorem eb_orE {σ : Type} {T1 T2 : Mo Bool} {b1 : Bool} {o2 : Option σ} {s0 s : σ} (val : σ → Bool) (Q : σ → List Pt) (hs : (if b1 = true then some s0 else o2) = some s) (h1 : Eb P T1 b1 P1) (h0 : val s0 = true) (hQ : Le P1 (Q s0))
    (h2 : b1 = false → ∀ s, o2 = some s → Eb P1 T2 (val s) (Q s)) : Eb P (orF T1 T2) (val s) (Q s) := fun e m => by
  obtain ⟨e1, a1, m1⟩ := h1 e m
  cases b1 with
  | false =>
    rw [if_neg Bool.false_ne_true] at hs
    obtain ⟨e2, a2, m2⟩ := h2 rfl s hs e1 m1
    exact ⟨e2, bo a1 a2, m2⟩
  | true =>
    rw [if_pos rfl] at hs
    cases hs
    exact ⟨e1, bo a1 (by rw [h0]; rfl), hQ.mat m1⟩
theorem eb_and {T1 T2 : Mo Bool} {b1 b2 : Bool} (h1 : Eb P T1 b1 P1) (h2 : b1 = true → Eb P1 T2 b2 P1) : Eb P (andF T1 T2) (b1 && b2) P1 := fun e m => by
  obtain ⟨e1, a1, m1⟩ := h1 e m
  cases b1 with
  | true => obtain ⟨e2, a2, m2⟩ := h2 rfl e1 m1; exact ⟨e2, bo a1 a2, m2⟩
  | false => exact ⟨e1, bo a1 rfl, m1⟩
theorem eb_or {T1 T2 : Mo Bool} {b1 b2 : Bool} (h1 : Eb P T1 b1 P1) (h2 : b1 = false → Eb P1 T2 b2 P1) : Eb P (orF T1 T2) (b1 || b2) P1 := fun e m => by
  obtain ⟨e1, a1, m1⟩ := h1 e m
  cases b1 with
  | false => obtain ⟨e2, a2, m2⟩ := h2 rfl e1 m1; exact ⟨e2, bo a1 a2, m2⟩
  | true => exact ⟨e1, bo a1 rfl, m1⟩
theorem ef_if {α : Type} {T : Mo Bool} {b : Bool} {x y : α} (enc : α → PyData) (h1 : Eb P T b P1) (hx : b = true → Ef P1 F1 k (enc x) P2) (hy : b = false → Ef P1 F2 k (enc y) P2) : Ef P (ifF T F1 F2) k (enc (if b = true then x else y)) P2 := fun e m => by
  obtain ⟨e1, a1, m1⟩ := h1 e m
  cases b with
  | true => obtain ⟨r, e2, a2, m2, q⟩ := hx rfl e1 m1; exact ⟨r, e2, bo a1 a2, m2, q⟩
  | false => obtain ⟨r, e2, a2, m2, q⟩ := hy rfl e1 m1; exact ⟨r, e2, bo a1 a2, m2, q⟩
theorem ef_ifE {σ : Type} {T : Mo Bool} {b : Bool} {o1 o2 : Option σ} {s : σ} (val : σ → PyData) (Q : σ → List Pt) (hs : (if b = true then o1 else o2) = some s) (h1 : Eb P T b P1)
    (hx : b = true → ∀ s, o1 = some s → Ef P1 F1 k (val s) (Q s)) (hy : b = false → ∀ s, o2 = some s → Ef P1 F2 k (val s) (Q s)) : Ef P (ifF T F1 F2) k (val s) (Q s) := fun e m => by
  obtain ⟨e1, a1, m1⟩ := h1 e m
  cases b with
  | true => obtain ⟨r, e2, a2, m2, q⟩ := hx rfl s hs e1 m1; exact ⟨r, e2, bo a1 a2, m2, q⟩
  | false => obtain ⟨r, e2, a2, m2, q⟩ := hy rfl s hs e1 m1; exact ⟨r, e2, bo a1 a2, m2, q⟩

/-! ### arguments -/
def hK : Kd → Kd
  | .f => .s
  | .u => .s
  | k => k
theorem Rk.hold {r : Rv} (h : Rk P k r d) : Rk P (hK k) (hold r) d := by
  cases k with
  | s => cases h; rfl
  | f => obtain ⟨ds, rfl, rfl⟩ := h; rfl
  | u => rcases h with rfl | ⟨ds, rfl, rfl⟩ <;> rfl
  | v i =>
    obtain ⟨ds, rfl, ⟨rfl, t, h⟩ | ⟨h, rfl | rfl⟩⟩ := h
    · exact ⟨ds, rfl, .inl ⟨rfl, t, h⟩⟩
    · exact ⟨ds, rfl, .inr ⟨h, .inl rfl⟩⟩
    · exact ⟨ds, rfl, .inr ⟨h, .inr rfl⟩⟩
theorem Stab.hold (s : Stab k P P1) : Stab (hK k) P P1 := by
  cases k <;> first | exact s | trivial
theorem ea_nil : Ea P nilF [] [] P := fun e m => ⟨[], e, rfl, m, trivial⟩
theorem ea_cons {Fs : Mo (List Rv)} {ks : List Kd} {ds : List PyData} (h : Ef P F k d P1) (hs : Ea P1 Fs ks ds P2) (st : Stab k P1 P2) : Ea P (consF F Fs) (hK k :: ks) (d :: ds) P2 := fun e m => by
  obtain ⟨r, e1, a1, m1, q1⟩ := h e m
  obtain ⟨rs, e2, a2, m2, q2⟩ := hs e1 m1
  exact ⟨_, e2, bo a1 (bo a2 rfl), m2, (q1.stab st).hold, q2⟩
theorem Rks.peeks : ∀ {ks : List Kd} {rs : List Rv} {ds : List PyData} {e : Fv}, Rks P ks rs ds → Mat P e → Cf.peeks rs e = .ok ds e
  | [], [], [], _, _, _ => rfl
  | _ :: _, _ :: _, _ :: _, _, h, m => bo (h.1.peek m) (bo (Rks.peeks h.2 m) rfl)
  | [], [], _ :: _, _, h, _ => h.elim
  | [], _ :: _, _, _, h, _ => h.elim
  | _ :: _, [], _, _, h, _ => h.elim
  | _ :: _, _ :: _, [], _, h, _ => h.elim
theorem frz_stab : ∀ {k1 k2 : Kd} {P : List Pt} {r : Rv} {d : PyData}, Rk P k2 r d → okK k1 P = true → (∃ i, k1 = .v i ∧ k2 = .v i) ∨ Rk (frzK k1 P) k2 r d
  | .v i, .v j, P, r, d, h, ok => by
    by_cases hij : i = j
    · subst hij
      exact .inl ⟨i, rfl, rfl⟩
    · refine .inr ?_
      obtain ⟨ds, e, h⟩ := h
      have : nth (modP P i) j = nth P j := by
        cases hn : nth P i with
        | none =>
          have : ∀ (P : List Pt) (i : Nat), nth P i = none → modP P i = P := by
            intro P
            induction P with
            | nil => intro i _; rfl
            | cons p P ih =>
              intro i hi
              cases i with
              | zero => cases hi
              | succ i => exact congrArg (List.cons p) (ih i hi)
          rw [this P i hn]
        | some p => rw [modP_put hn, nth_put_ne hij]
      exact ⟨ds, e, by show _ ∨ _; rw [show nth (frzK (.v i) P) j = nth P j from this]; exact h⟩
  | .s, k2, P, r, d, h, ok => .inr h
  | .f, k2, P, r, d, h, ok => .inr h
  | .u, k2, P, r, d, h, ok => .inr h
  | .v i, .s, P, r, d, h, ok => .inr h
  | .v i, .f, P, r, d, h, ok => .inr h
  | .v i, .u, P, r, d, h, ok => .inr h
/-- no slot twice -/
def onceK : List Kd → Bool
  | [] => true
  | .v i :: ks => ks.all (fun k => match k with | .v j => i != j | _ => true) && onceK ks
  | _ :: ks => onceK ks
theorem Rks.frz : ∀ {ks : List Kd} {rs : List Rv} {ds : List PyData} {i : Nat}, Rks P ks rs ds → okK (.v i) P = true → (ks.all fun k => match k with | .v j => i != j | _ => true) = true → Rks (modP P i) ks rs ds
  | [], [], [], _, _, _, _ => trivial
  | k :: ks, r :: rs, d :: ds, i, h, ok, on => by
    rw [List.all_cons, Bool.and_eq_true] at on
    refine ⟨?_, Rks.frz h.2 ok on.2⟩
    rcases frz_stab (k1 := .v i) h.1 ok with ⟨j, e1, e2⟩ | z
    · cases e1; subst e2; simp at on
    · exact z
  | [], [], _ :: _, _, h, _, _ => h.elim
  | [], _ :: _, _, _, h, _, _ => h.elim
  | _ :: _, [], _, _, h, _, _ => h.elim
  | _ :: _, _ :: _, [], _, h, _, _ => h.elim
theorem Rks.forces : ∀ {ks : List Kd} {rs : List Rv} {ds : List PyData} {P : List Pt} {e : Fv}, Rks P ks rs ds → Mat P e → okKs ks P = true → onceK ks = true → ∃ e', Cf.forces rs e = .ok ds e' ∧ Mat (frzs ks P) e'
  | [], [], [], P, e, _, m, _, _ => ⟨e, rfl, m⟩
  | k :: ks, r :: rs, d :: ds, P, e, h, m, ok, on => by
    rw [okKs, Bool.and_eq_true] at ok
    obtain ⟨e1, a1, m1⟩ := h.1.force m ok.1
    have h2 : Rks (frzK k P) ks rs ds ∧ onceK ks = true ∧ okKs ks (frzK k P) = true := by
      cases k with
      | v i =>
        rw [onceK, Bool.and_eq_true] at on
        refine ⟨Rks.frz h.2 ok.1 on.1, on.2, ?_⟩
        have : ∀ ks : List Kd, (ks.all fun k => match k with | .v j => i != j | _ => true) = true → okKs ks P = true → okKs ks (modP P i) = true := by
          intro ks
          induction ks with
          | nil => intro _ _; rfl
          | cons k ks ih =>
            intro o1 o2
            rw [List.all_cons, Bool.and_eq_true] at o1
            rw [okKs, Bool.and_eq_true] at o2 ⊢
            refine ⟨?_, ih o1.2 o2.2⟩
            cases k with
            | v j =>
              have hij : i ≠ j := by simpa using o1.1
              have e : nth (modP P i) j = nth P j := by
                cases hn : nth P i with
                | none =>
                  exfalso
                  have := ok.1
                  unfold okK at this
                  simp [hn] at this
                | some p => rw [modP_put hn, nth_put_ne hij]
              have := o2.1
              unfold okK at this ⊢
              simp only [e] at this ⊢
              exact this
            | _ => rfl
        exact this ks on.1 ok.2
      | s => exact ⟨h.2, on, ok.2⟩
      | f => exact ⟨h.2, on, ok.2⟩
      | u => exact ⟨h.2, on, ok.2⟩
    obtain ⟨e2, a2, m2⟩ := Rks.forces h2.1 m1 h2.2.2 h2.2.1
    exact ⟨e2, bo a1 (bo a2 rfl), m2⟩
  | [], [], _ :: _, _, _, h, _, _, _ => h.elim
  | [], _ :: _, _, _, _, h, _, _, _ => h.elim
  | _ :: _, [], _, _, _, h, _, _, _ => h.elim
  | _ :: _, _ :: _, [], _, _, h, _, _, _ => h.elim
section
variable {Fs : Mo (List Rv)} {ks : List Kd} {ds : List PyData}
theorem ef_tup (h : Ea P Fs ks ds P') (hn : (ds.length ≤ sizeLine) = True) (ok : okKs ks P' = true := by rfl) (on : onceK ks = true := by rfl) : Ef P (tupF Fs) .s (.tuple ds) (frzs ks P') := fun e m => by
  obtain ⟨rs, e1, a1, m1, q⟩ := h e m
  obtain ⟨e2, a2, m2⟩ := q.forces m1 ok on
  exact ⟨_, e2, bo a1 (bo a2 (by rw [ite_app, if_pos (of_eq_true hn)]; rfl)), m2, rfl⟩
theorem ef_disp (h : Ea P Fs ks ds P') (hn : (ds.length ≤ sizeLine) = True) (ok : okKs ks P' = true := by rfl) (on : onceK ks = true := by rfl) : Ef P (lstF Fs) .f (.list ds) (frzs ks P') := fun e m => by
  obtain ⟨rs, e1, a1, m1, q⟩ := h e m
  obtain ⟨e2, a2, m2⟩ := q.forces m1 ok on
  exact ⟨_, e2, bo a1 (bo a2 (by rw [ite_app, if_pos (of_eq_true hn)]; rfl)), m2, ds, rfl, rfl⟩
/-- what a def hands back -/
def Ret (f : List PyData → FnR) (ds : List PyData) (k : Kd) (d : PyData) : Prop := ∃ r, f ds = .ok r ∧ Rk [] k r d
def isV : Kd → Bool
  | .v _ => true
  | _ => false
theorem Rk.clos {r : Rv} (h : Rk [] k r d) (Q : List Pt) : Rk Q k r d := by
  cases k with
  | v i =>
    obtain ⟨ds, _, ⟨_, t, h⟩ | ⟨h | h, _⟩⟩ := h <;> cases h
  | _ => exact h
theorem ef_call {n : Nat} {f : List PyData → FnR} (r : Ret f ds k d) (h : Ea P Fs ks ds P') (hn : ds.length = n := by rfl) (ok : okKs ks P' = true := by rfl) (on : onceK ks = true := by rfl) : Ef P (callF n f Fs) k d (frzs ks P') := fun e m => by
  obtain ⟨rs, e1, a1, m1, q⟩ := h e m
  obtain ⟨e2, a2, m2⟩ := q.forces m1 ok on
  obtain ⟨r, hr, hk⟩ := r
  exact ⟨r, e2, bo a1 (bo a2 (by rw [ite_app, if_pos hn, endF_app, hr]; rfl)), m2, hk.clos _⟩
theorem ef_callB {n : Nat} {f : List PyData → FnR} (r : Ret f ds .s d) (fr : noList d = true) (h : Ea P Fs ks ds P') (hn : ds.length = n := by rfl) : Ef P (callB n f Fs) .s d P' := fun e m => by
  obtain ⟨rs, e1, a1, m1, q⟩ := h e m
  obtain ⟨r, hr, hk⟩ := r
  cases (show r = _ from hk)
  refine ⟨_, e1, bo a1 (bo (q.peeks m1) ?_), m1, rfl⟩
  rw [ite_app, if_pos hn]
  simp only [hr]
  show (if noList d = true then _ else _ : Mo Rv) e1 = _
  rw [if_pos fr]
  rfl
theorem ef_bf {g : List PyData → Option Rv} (hg : g ds = some (.sh d)) (h : Ea P Fs ks ds P') : Ef P (callBF g Fs) .s d P' := fun e m => by
  obtain ⟨rs, e1, a1, m1, q⟩ := h e m
  exact ⟨_, e1, bo a1 (bo (q.peeks m1) (lo hg)), m1, rfl⟩
theorem ef_bfL {g : List PyData → Option Rv} {es : List PyData} (hg : g ds = some (.fr es)) (h : Ea P Fs ks ds P') : Ef P (callBF g Fs) .f (.list es) P' := fun e m => by
  obtain ⟨rs, e1, a1, m1, q⟩ := h e m
  exact ⟨_, e1, bo a1 (bo (q.peeks m1) (lo hg)), m1, es, rfl, rfl⟩
/-- a def that changes its first parameter -/
def RetL (f : List PyData → List PyData → FnL) (es ds : List PyData) (k : Kd) (d : PyData) (out : List PyData) : Prop := ∃ r, f es ds = .ok r out ∧ Rk [] k r d
theorem need_ok {i : Nat} {t : Option Nat} {es : List PyData} {e : Fv} (m : Mat P e) (h : nth P i = some (.own t es)) : needOwn i e = .ok () e := by
  obtain ⟨s, h1, h2⟩ := m.get h
  cases (show s = _ from h2)
  simp [h1]
theorem get_ok {i : Nat} {t : Option Nat} {es : List PyData} {e : Fv} (m : Mat P e) (h : nth P i = some (.own t es)) : getOwn i e = .ok es e := by
  obtain ⟨s, h1, h2⟩ := m.get h
  cases (show s = _ from h2)
  simp [h1]
theorem put_ok {i : Nat} {t : Option Nat} {es : List PyData} {e : Fv} (m : Mat P e) (h : nth P i = some (.own t es)) (out : List PyData) : ∃ e', putOwn i out e = .ok () e' ∧ Mat (put P i (.own t out)) e' := by
  obtain ⟨s, h1, h2⟩ := m.get h
  cases (show s = _ from h2)
  exact ⟨_, by simp [h1], m.set rfl⟩
theorem ef_callL {n j : Nat} {f : List PyData → List PyData → FnL} {es out : List PyData} {t t' : Option Nat} {es0 : List PyData} (r : RetL f es ds k d out) (hj : nth P j = some (.own t es0)) (h : Ea P Fs ks ds P') (hj' : nth (frzs ks P') j = some (.own t' es)) (hn : ds.length + 1 = n := by rfl) (ok : okKs ks P' = true := by rfl) (on : onceK ks = true := by rfl) :
    Ef P (callL n f j Fs) k d (put (frzs ks P') j (.own t' out)) := fun e m => by
  obtain ⟨rs, e1, a1, m1, q⟩ := h e m
  obtain ⟨e2, a2, m2⟩ := q.forces m1 ok on
  obtain ⟨r, hr, hk⟩ := r
  obtain ⟨e3, a3, m3⟩ := put_ok m2 hj' out
  refine ⟨r, e3, bo (need_ok m hj) (bo a1 (bo a2 (bo (get_ok m2 hj') ?_))), m3, hk.clos _⟩
  rw [ite_app, if_pos hn]
  simp only [hr]
  exact bo a3 rfl
end
theorem ef_append {i : Nat} {t t' : Option Nat} {es es0 : List PyData} (h0 : nth P i = some (.own t es0)) (h : Ef P F k d P1) (h1 : nth (frzK k P1) i = some (.own t' es)) (hl : es.length < sizeLine) (ok : okK k P1 = true := by rfl) :
    Ef P (appendF i F) .s .none (put (frzK k P1) i (.own t' (es ++ [d]))) := fun e m => by
  obtain ⟨r, e1, a1, m1, q⟩ := h e m
  obtain ⟨e2, a2, m2⟩ := q.force m1 ok
  obtain ⟨e3, a3, m3⟩ := put_ok m2 h1 (es ++ [d])
  refine ⟨.sh .none, e3, bo (need_ok m h0) (bo a1 (bo a2 (bo (get_ok m2 h1) ?_))), m3, rfl⟩
  rw [ite_app, if_pos hl]
  exact bo a3 rfl
theorem ef_extend {i : Nat} {t t' : Option Nat} {es es0 xs : List PyData} (h0 : nth P i = some (.own t es0)) (h : Ef P F k d P1) (hd : lstD d = some xs) (h1 : nth P1 i = some (.own t' es)) (hl : es.length + xs.length ≤ sizeLine) :
    Ef P (extendF i F) .s .none (put P1 i (.own t' (es ++ xs))) := fun e m => by
  obtain ⟨r, e1, a1, m1, q⟩ := h e m
  obtain ⟨e3, a3, m3⟩ := put_ok m1 h1 (es ++ xs)
  refine ⟨.sh .none, e3, bo (need_ok m h0) (bo a1 (bo (q.peekH m1) (bo (lo hd) (bo (get_ok m1 h1) ?_)))), m3, rfl⟩
  rw [ite_app, if_pos hl]
  exact bo a3 rfl
theorem ef_pop {i : Nat} {t : Option Nat} {es es' : List PyData} (h : nth P i = some (.own t es)) (hl : es.getLast? = some d) (hd : es.dropLast = es') : Ef P (popF i) .s d (put P i (.own t es')) := fun e m => by
  subst hd
  obtain ⟨e3, a3, m3⟩ := put_ok m h es.dropLast
  refine ⟨.sh d, e3, bo (get_ok m h) ?_, m3, rfl⟩
  simp only [hl]
  exact bo a3 rfl
/-- a slice's part -/
def Eo (P : List Pt) : Option (Mo Rv) → Option Int → Prop
  | none, none => True
  | some F, some i => Ef P F .s (.int i) P
  | _, _ => False
theorem Eo.run {o : Option (Mo Rv)} {x : Option Int} (h : Eo P o x) {e : Fv} (m : Mat P e) : ∃ e', partF o e = .ok x e' ∧ Mat P e' := by
  match o, x, h with
  | none, none, _ => exact ⟨e, rfl, m⟩
  | some F, some i, h =>
    obtain ⟨r, e1, a1, m1, q⟩ := h e m
    cases (show r = _ from q)
    exact ⟨e1, bo a1 rfl, m1⟩
theorem ef_slice {lo hi : Option (Mo Rv)} {x y : Option Int} (h : Ef P F k d1 P1) (hl : Eo P1 lo x) (hh : Eo P1 hi y) (hg : sliceG x y d1 = some (.sh d)) : Ef P (sliceF F lo hi) .s d P1 := fun e m => by
  obtain ⟨r, e1, a1, m1, q⟩ := h e m
  obtain ⟨e2, a2, m2⟩ := hl.run m1
  obtain ⟨e3, a3, m3⟩ := hh.run m2
  exact ⟨_, e3, bo a1 (bo a2 (bo a3 (bo (q.peekH m3) (Cn.lo hg)))), m3, rfl⟩
theorem ef_sliceL {lo hi : Option (Mo Rv)} {x y : Option Int} {ds : List PyData} (h : Ef P F k d1 P1) (hl : Eo P1 lo x) (hh : Eo P1 hi y) (hg : sliceG x y d1 = some (.fr ds)) : Ef P (sliceF F lo hi) .f (.list ds) P1 := fun e m => by
  obtain ⟨r, e1, a1, m1, q⟩ := h e m
  obtain ⟨e2, a2, m2⟩ := hl.run m1
  obtain ⟨e3, a3, m3⟩ := hh.run m2
  exact ⟨_, e3, bo a1 (bo a2 (bo a3 (bo (q.peekH m3) (Cn.lo hg)))), m3, ds, rfl, rfl⟩
theorem ef_rev {ds : List PyData} (h : Ef P F k (.list ds) P1) : Ef P (revL F) .f (.list ds.reverse) P1 := fun e m => by
  obtain ⟨r, e1, a1, m1, q⟩ := h e m
  exact ⟨_, e1, bo a1 (bo (q.peek m1) rfl), m1, _, rfl, rfl⟩
theorem ea_star {Fs : Mo (List Rv)} {ks : List Kd} {ds xs : List PyData} (h : Ef P F k d P1) (hx : starD d = some xs) (hs : Ea P1 Fs ks ds P2) : Ea P (starF F Fs) (xs.map (fun _ => .s) ++ ks) (xs ++ ds) P2 := fun e m => by
  obtain ⟨r, e1, a1, m1, q1⟩ := h e m
  obtain ⟨rs, e2, a2, m2, q2⟩ := hs e1 m1
  refine ⟨xs.map .sh ++ rs, e2, bo a1 (bo (q1.peekH m1) (bo (lo hx) (bo a2 rfl))), m2, ?_⟩
  clear hx
  induction xs with
  | nil => exact q2
  | cons x xs ih => exact ⟨rfl, ih⟩
end
end Cn
/-! Cn, part C: walks, targets, statements. -/
namespace Cn
open PySem PySem.Spec PyProof.Rows L2 Cf

section
variable {P P' P1 P2 P3 : List Pt} {F F1 F2 F3 : Mo Rv} {k k1 k2 k3 : Kd} {d d1 d2 d3 : PyData} {ds : List PyData} {Fs : Mo (List Rv)} {ks : List Kd} {I : Mo (List PyData)}
theorem It.cast {ds' : List PyData} (h : It P I ds P') (e : ds = ds') : It P I ds' P' := e ▸ h
theorem it_seq (h : Ef P F k d P1) (hi : itemsG d = some ds) (ok : okK k P1 = true := by rfl) : It P (seqI F) ds (frzK k P1) := fun e m => by
  obtain ⟨r, e1, a1, m1, q⟩ := h e m
  obtain ⟨e2, a2, m2⟩ := q.force m1 ok
  exact ⟨e2, bo a1 (bo a2 (lo hi)), m2⟩
theorem it_pk (h : Ef P F k d P1) (hi : itemsG d = some ds) : It P (pkI F) ds P1 := fun e m => by
  obtain ⟨r, e1, a1, m1, q⟩ := h e m
  exact ⟨e1, bo a1 (bo (q.peekH m1) (lo hi)), m1⟩
theorem it_range1 {j : Int} (h : Ea P Fs [.s] [.int j] P1) (hj : rangeOk j = true) : It P (range1I Fs) (rangeD 0 j.toNat) P1 := fun e m => by
  obtain ⟨rs, e1, a1, m1, q⟩ := h e m
  refine ⟨e1, ?_, m1⟩
  match rs, q with
  | [r], q =>
    cases (show r = _ from q.1)
    exact range1_ok a1 (rangeOk_iff.mp hj).1 (rangeOk_iff.mp hj).2
theorem it_range2 {i j : Int} (h : Ea P Fs [.s, .s] [.int i, .int j] P1) (hi : rangeOk i = true) (hj : rangeOk j = true) : It P (range2I Fs) (rangeD i (j - i).toNat) P1 := fun e m => by
  obtain ⟨rs, e1, a1, m1, q⟩ := h e m
  refine ⟨e1, ?_, m1⟩
  match rs, q with
  | [r, r'], q =>
    cases (show r = _ from q.1)
    cases (show r' = _ from q.2.1)
    exact range2_ok a1 (rangeOk_iff.mp hi).1 (rangeOk_iff.mp hi).2 (rangeOk_iff.mp hj).1 (rangeOk_iff.mp hj).2
theorem it_enum (h : Ef P F k d P1) (hi : itemsG d = some ds) (ok : okK k P1 = true := by rfl) : It P (enumI F) (enumD ds) (frzK k P1) := fun e m => by
  obtain ⟨r, e1, a1, m1, q⟩ := h e m
  obtain ⟨e2, a2, m2⟩ := q.force m1 ok
  exact ⟨e2, bo a1 (bo a2 (bo (lo hi) rfl)), m2⟩
theorem it_zip (h : Ea P Fs ks ds P1) {es : List PyData} (hz : zipG ds = some es) (ok : okKs ks P1 = true := by rfl) (on : onceK ks = true := by rfl) : It P (zipI Fs) es (frzs ks P1) := fun e m => by
  obtain ⟨rs, e1, a1, m1, q⟩ := h e m
  obtain ⟨e2, a2, m2⟩ := q.forces m1 ok on
  exact ⟨e2, bo a1 (bo a2 (lo hz)), m2⟩

/-! ### targets -/
def Tg (P : List Pt) (T : Mo Unit) (P' : List Pt) : Prop := ∀ e, Mat P e → ∃ e', T e = .ok () e' ∧ Mat P' e'
theorem tg_slot {i : Nat} : Tg P (toSlot i d) (put P i (.sh d)) := fun e m => ⟨_, rfl, m.set rfl⟩
theorem tgs_nil : Tg P (toNil []) P := fun e m => ⟨e, rfl, m⟩
theorem tgs_cons {T : PyData → Mo Unit} {Ts : List PyData → Mo Unit} (h : Tg P (T d) P1) (hs : Tg P1 (Ts ds) P2) : Tg P (toCons T Ts (d :: ds)) P2 := fun e m => by
  obtain ⟨e1, a1, m1⟩ := h e m
  obtain ⟨e2, a2, m2⟩ := hs e1 m1
  exact ⟨e2, bo a1 a2, m2⟩
theorem tg_tup {n : Nat} {Ts : List PyData → Mo Unit} (hs : Tg P (Ts ds) P1) (hn : ds.length = n := by rfl) : Tg P (toTup n Ts (.tuple ds)) P1 := fun e m => by
  obtain ⟨e1, a1, m1⟩ := hs e m
  refine ⟨e1, ?_, m1⟩
  show (if ds.length = n then Ts ds else stuckM : Mo Unit) e = _
  rw [if_pos hn]
  exact a1
theorem Tg.then {α : Type} {T : Mo Unit} {K : Mo α} {e : Fv} (h : Tg P T P1) (m : Mat P e) : ∃ e', Mat P1 e' ∧ thenU T K e = K e' := by
  obtain ⟨e1, a1, m1⟩ := h e m
  refine ⟨e1, m1, ?_⟩
  unfold thenU
  rw [a1]

/-! ### statements -/
def Ws (P : List Pt) (F : Mo Out) (Q : Out → Fv → Prop) : Prop := ∀ e, Mat P e → ∃ o e', F e = .ok o e' ∧ Q o e'
def NQ (P : List Pt) : Out → Fv → Prop := fun o e => o = .nx ∧ Mat P e
/-- a statement that goes on -/
abbrev Nx (P : List Pt) (F : Mo Out) (P' : List Pt) : Prop := Ws P F (NQ P')
variable {A B C : Mo Out} {Q Q' : Out → Fv → Prop}
theorem Ws.app {G : Mo Out} (q : ∀ e, A e = G e) (h : Ws P G Q) : Ws P A Q := fun e m => by
  rw [q]; exact h e m
theorem Ws.pre (l : Le P P1) (h : Ws P1 A Q) : Ws P A Q := fun e m => h e (l.mat m)
theorem Ws.post (h : Ws P A Q) (q : ∀ o e, Q o e → Q' o e) : Ws P A Q' := fun e m => by
  obtain ⟨o, e', a, b⟩ := h e m
  exact ⟨o, e', a, q o e' b⟩
theorem Nx.le (h : Nx P A P1) (l : Le P1 P2) : Nx P A P2 := h.post fun _ _ q => ⟨q.1, l.mat q.2⟩
theorem ws_seq (h : Nx P A P1) (g : Ws P1 B Q) : Ws P (seqF A B) Q := fun e m => by
  obtain ⟨o, e1, a1, ho, m1⟩ := h e m
  subst ho
  obtain ⟨o, e2, a2, q⟩ := g e1 m1
  exact ⟨o, e2, bo a1 a2, q⟩
/-- a part that may end the block -/
theorem ws_seqQ {R : Out → Fv → Prop} (h : Ws P A R) (g : ∀ o e, R o e → (o = .nx ∧ ∃ o' e', B e = .ok o' e' ∧ Q o' e') ∨ (o ≠ .nx ∧ Q o e)) : Ws P (seqF A B) Q := fun e m => by
  obtain ⟨o, e1, a1, r⟩ := h e m
  rcases g o e1 r with ⟨rfl, o', e', a2, q⟩ | ⟨ho, q⟩
  · exact ⟨o', e', bo a1 a2, q⟩
  · refine ⟨o, e1, bo a1 ?_, q⟩
    cases o <;> first | exact absurd rfl ho | rfl
theorem ws_assoc (h : Ws P (seqF A (seqF B C)) Q) : Ws P (seqF (seqF A B) C) Q := fun e m => by
  obtain ⟨o, e1, a, q⟩ := h e m
  refine ⟨o, e1, ?_, q⟩
  rw [← a]
  simp only [seqF_app, bind_app]
  cases (A e : Res Out) with
  | exc c e' => rfl
  | stuck => rfl
  | ok o e' => cases o <;> rfl
theorem ws_skip (h : Ws P C Q) : Ws P (seqF skipF C) Q := fun e m => by
  obtain ⟨o, e1, a, q⟩ := h e m
  exact ⟨o, e1, bo rfl a, q⟩
/-- the block ends within its first part -/
theorem ws_stop (h : Ws P A Q) (hn : ∀ e, ¬ Q .nx e) : Ws P (seqF A C) Q := ws_seqQ h fun o e q => .inr ⟨fun z => hn e (z ▸ q), q⟩
theorem ws_if {T : Mo Bool} {b : Bool} (h : Eb P T b P1) (hx : b = true → Ws P1 A Q) (hy : b = false → Ws P1 B Q) : Ws P (ifF T A B) Q := fun e m => by
  obtain ⟨e1, a1, m1⟩ := h e m
  cases b with
  | true => obtain ⟨o, e2, a2, q⟩ := hx rfl e1 m1; exact ⟨o, e2, bo a1 a2, q⟩
  | false => obtain ⟨o, e2, a2, q⟩ := hy rfl e1 m1; exact ⟨o, e2, bo a1 a2, q⟩
theorem ws_ifs {T : Mo Bool} {b : Bool} (h : Eb P T b P1) (hx : b = true → Ws P1 (seqF A C) Q) (hy : b = false → Ws P1 (seqF B C) Q) : Ws P (seqF (ifF T A B) C) Q := fun e m => by
  obtain ⟨e1, a1, m1⟩ := h e m
  have : ∀ (A : Mo Out), (ifF T A B e) = (ifF T A B e) := fun _ => rfl
  cases b with
  | true =>
    obtain ⟨o, e2, a2, q⟩ := hx rfl e1 m1
    refine ⟨o, e2, ?_, q⟩
    rw [← a2]
    have : ifF T A B e = A e1 := bo a1 rfl
    simp only [seqF_app, bind_app]
    rw [this]
  | false =>
    obtain ⟨o, e2, a2, q⟩ := hy rfl e1 m1
    refine ⟨o, e2, ?_, q⟩
    rw [← a2]
    have : ifF T A B e = B e1 := bo a1 rfl
    simp only [seqF_app, bind_app]
    rw [this]
theorem nx_skip : Nx P skipF P := fun e m => ⟨.nx, e, rfl, rfl, m⟩
theorem nx_ifE {σ : Type} {T : Mo Bool} {b : Bool} {o1 o2 : Option σ} {s : σ} (J : σ → List Pt) (hs : (if b = true then o1 else o2) = some s) (h : Eb P T b P1) (hx : b = true → ∀ s, o1 = some s → Nx P1 A (J s)) (hy : b = false → ∀ s, o2 = some s → Nx P1 B (J s)) : Nx P (ifF T A B) (J s) := by
  refine ws_if h (fun hb => ?_) (fun hb => ?_)
  · exact hx hb s (by rw [if_pos hb] at hs; exact hs)
  · exact hy hb s (by rw [if_neg (by rw [hb]; exact Bool.false_ne_true)] at hs; exact hs)
theorem put_nth : ∀ {P : List Pt} {i : Nat} {p : Pt}, nth P i = some p → put P i p = P
  | _ :: _, 0, _, h => by cases h; rfl
  | _ :: _, i + 1, _, h => congrArg (List.cons _) (put_nth (i := i) h)
  | [], _, _, h => by cases h
theorem nx_set {i : Nat} (h : Ef P F .s d P1) : Nx P (setF i F) (put P1 i (.sh d)) := fun e m => by
  obtain ⟨r, e1, a1, m1, q⟩ := h e m
  cases (show r = _ from q)
  exact ⟨.nx, e1.set i (.sh d), bo a1 (bo rfl rfl), rfl, m1.set (s := .sh d) rfl⟩
theorem nx_setF {i : Nat} (h : Ef P F .f (.list ds) P1) : Nx P (setF i F) (put P1 i (.own none ds)) := fun e m => by
  obtain ⟨r, e1, a1, m1, ds', e, rfl⟩ := h e m
  cases e
  exact ⟨.nx, e1.set i (.own none ds), bo a1 (bo rfl rfl), rfl, m1.set (s := .own none ds) rfl⟩
theorem nx_setU {i : Nat} (h : Ef P F .u (.list ds) P1) : Nx P (setF i F) (put P1 i (.lst ds)) := fun e m => by
  obtain ⟨r, e1, a1, m1, q⟩ := h e m
  rcases q with rfl | ⟨ds', e, rfl⟩
  · exact ⟨.nx, e1.set i (.sh (.list ds)), bo a1 (bo rfl rfl), rfl, m1.set (s := .sh (.list ds)) (.inl rfl)⟩
  · cases e
    exact ⟨.nx, e1.set i (.own none ds), bo a1 (bo rfl rfl), rfl, m1.set (s := .own none ds) (.inr rfl)⟩
theorem nx_setV {i j : Nat} (h : Ef P F (.v j) (.list ds) P1) (ok : okK (.v j) P1 = true := by rfl) : Nx P (setF i F) (put (frzK (.v j) P1) i (.sh (.list ds))) := fun e m => by
  obtain ⟨r, e1, a1, m1, q⟩ := h e m
  obtain ⟨ds', e, q⟩ := q
  cases e
  rcases q with ⟨rfl, t, q⟩ | ⟨q | q, hr⟩
  · obtain ⟨s, h1, h2⟩ := m1.get q
    cases (show s = _ from h2)
    have ok' : (match nth P1 j with
      | some (.own none _) => true
      | some (.lst _) => true
      | some (.sh _) => true
      | _ => false) = true := ok
    rw [q] at ok'
    cases t with
    | some _ => cases ok'
    | none =>
      refine ⟨.nx, (e1.set j (.sh (.list ds))).set i (.sh (.list ds)), bo a1 (bo (e1 := (e1.set j (.sh (.list ds))).set i (.sh (.list ds))) (a := ()) ?_ rfl), rfl, ?_⟩
      · simp [h1]
      · show Mat (put (modP P1 j) i _) _
        rw [modP_put q]
        exact (m1.set (q := .sh (.list ds)) (s := .sh (.list ds)) rfl).set (q := .sh (.list ds)) (s := .sh (.list ds)) rfl
  · obtain ⟨s, h1, h2⟩ := m1.get q
    have e0 : put P1 j (.lst ds) = P1 := put_nth q
    have e1' : frzK (.v j) P1 = P1 := by
      show modP P1 j = P1
      rw [modP_put q]
      exact e0
    rw [e1']
    rcases hr with rfl | rfl
    · rcases (show s = _ ∨ s = _ from h2) with rfl | rfl
      · exact ⟨.nx, e1.set i (.sh (.list ds)), bo a1 (bo (e1 := e1.set i (.sh (.list ds))) (a := ()) (by simp [h1]) rfl), rfl, m1.set (s := .sh (.list ds)) rfl⟩
      · refine ⟨.nx, (e1.set j (.sh (.list ds))).set i (.sh (.list ds)), bo a1 (bo (e1 := (e1.set j (.sh (.list ds))).set i (.sh (.list ds))) (a := ()) (by simp [h1]) rfl), rfl, ?_⟩
        have := (m1.set (i := j) (q := .lst ds) (s := .sh (.list ds)) (.inl rfl)).set (i := i) (q := .sh (.list ds)) (s := .sh (.list ds)) rfl
        rw [e0] at this
        exact this
    · exact ⟨.nx, e1.set i (.sh (.list ds)), bo a1 (bo rfl rfl), rfl, m1.set (s := .sh (.list ds)) rfl⟩
  · obtain ⟨s, h1, h2⟩ := m1.get q
    have e1' : frzK (.v j) P1 = P1 := by
      show modP P1 j = P1
      rw [modP_put q]
      exact put_nth q
    rw [e1']
    cases (show s = _ from h2)
    rcases hr with rfl | rfl
    · exact ⟨.nx, e1.set i (.sh (.list ds)), bo a1 (bo (e1 := e1.set i (.sh (.list ds))) (a := ()) (by simp [h1]) rfl), rfl, m1.set (s := .sh (.list ds)) rfl⟩
    · exact ⟨.nx, e1.set i (.sh (.list ds)), bo a1 (bo rfl rfl), rfl, m1.set (s := .sh (.list ds)) rfl⟩
theorem nx_drop (h : Ef P F k d P1) : Nx P (dropF F) P1 := fun e m => by
  obtain ⟨r, e1, a1, m1, q⟩ := h e m
  exact ⟨.nx, e1, bo a1 rfl, rfl, m1⟩
theorem nx_setT {T : PyData → Mo Unit} (h : Ef P F k d P1) (ht : Tg (frzK k P1) (T d) P2) (ok : okK k P1 = true := by rfl) : Nx P (setT T F) P2 := fun e m => by
  obtain ⟨r, e1, a1, m1, q⟩ := h e m
  obtain ⟨e2, a2, m2⟩ := q.force m1 ok
  obtain ⟨e3, m3, a3⟩ := ht.then (K := (pure .nx : Mo Out)) m2
  exact ⟨.nx, e3, bo a1 (bo a2 (by rw [a3]; rfl)), rfl, m3⟩
theorem nx_aug {i : Nat} {g : PyData → PyData → Option Rv} (h0 : nth P i = some (.sh d1)) (h : Ef P F k d2 P1) (hg : g d1 d2 = some (.sh d)) : Nx P (augF i g F) (put P1 i (.sh d)) := fun e m => by
  obtain ⟨r0, e0, a0, m0, q0⟩ := ef_var h0 e m
  cases (show r0 = _ from q0)
  obtain ⟨r, e1, a1, m1, q⟩ := h e0 m0
  exact ⟨.nx, e1.set i (.sh d), bo a0 (bo a1 (bo rfl (bo (q.peek m1) (bo (lo hg) (bo rfl rfl))))), rfl, m1.set (s := .sh d) rfl⟩
theorem nx_setItem {i : Nat} {j : Int} {n : Nat} {t : Option Nat} {Fi : Mo Rv} (h : Ef P F k d P1) (h0 : nth (frzK k P1) i = some (.own t ds)) (hi : Ef (frzK k P1) Fi .s (.int j) (frzK k P1)) (hn : ixN ds.length j = some n) (ok : okK k P1 = true := by rfl) :
    Nx P (setItemF i Fi F) (put (frzK k P1) i (.own t (ds.set n d))) := fun e m => by
  obtain ⟨r, e1, a1, m1, q⟩ := h e m
  obtain ⟨e2, a2, m2⟩ := q.force m1 ok
  obtain ⟨r3, e3, a3, m3, q3⟩ := hi e2 m2
  cases (show r3 = _ from q3)
  obtain ⟨e4, a4, m4⟩ := put_ok m3 h0 (ds.set n d)
  refine ⟨.nx, e4, bo a1 (bo a2 (bo (need_ok m2 h0) (bo a3 (bo rfl (bo (get_ok m3 h0) ?_))))), rfl, m4⟩
  simp only [hn]
  exact bo a4 rfl
/-! parallel assignment -/
def Eu (P : List Pt) (Fs : Mo (List Rv)) (ks : List Kd) (ds : List PyData) (P' : List Pt) : Prop := ∀ e, Mat P e → ∃ rs e', Fs e = .ok rs e' ∧ Mat P' e' ∧ Rks P' ks rs ds
theorem eu_cons {ks : List Kd} (h : Ef P F k d P1) (hs : Eu P1 Fs ks ds P2) (st : Stab k P1 P2) : Eu P (consU F Fs) (k :: ks) (d :: ds) P2 := fun e m => by
  obtain ⟨r, e1, a1, m1, q1⟩ := h e m
  obtain ⟨rs, e2, a2, m2, q2⟩ := hs e1 m1
  exact ⟨_, e2, bo a1 (bo a2 rfl), m2, q1.stab st, q2⟩
theorem eu_nil : Eu P nilF [] [] P := fun e m => ⟨[], e, rfl, m, trivial⟩
/-- behind the storing of results -/
def stP : Kd → PyData → Pt
  | .f, .list ds => .own none ds
  | .u, .list ds => .lst ds
  | _, d => .sh d
def stAll : List Pt → List Nat → List Kd → List PyData → List Pt
  | P, i :: is, k :: ks, d :: ds => stAll (put P i (stP k d)) is ks ds
  | P, _, _, _ => P
def plainK : List Kd → Bool
  | [] => true
  | .v _ :: _ => false
  | _ :: ks => plainK ks
theorem settle_plain : ∀ {ks : List Kd} {rs : List Rv} {ds : List PyData} {e : Fv}, plainK ks = true → Rks P ks rs ds → settle rs e = .ok rs e
  | [], [], [], _, _, _ => rfl
  | k :: ks, r :: rs, d :: ds, e, p, h => by
    have hp : plainK ks = true := by
      cases k <;> first | exact p | cases p
    refine bo (e1 := e) (a := r) ?_ (bo (settle_plain hp h.2) rfl)
    cases k with
    | v i => cases p
    | s => cases (show r = _ from h.1); rfl
    | f => obtain ⟨ds, _, rfl⟩ := h.1; rfl
    | u => rcases h.1 with rfl | ⟨ds, _, rfl⟩ <;> rfl
  | [], [], _ :: _, _, _, h => h.elim
  | [], _ :: _, _, _, _, h => h.elim
  | _ :: _, [], _, _, _, h => h.elim
  | _ :: _, _ :: _, [], _, _, h => h.elim
theorem store_all : ∀ {is : List Nat} {ks : List Kd} {rs : List Rv} {ds : List PyData} {Q P : List Pt} {e : Fv}, plainK ks = true → is.length = ks.length → Rks Q ks rs ds → Mat P e → ∃ e', storeAll is rs e = .ok () e' ∧ Mat (stAll P is ks ds) e'
  | [], [], [], [], _, P, e, _, _, _, m => ⟨e, rfl, m⟩
  | i :: is, k :: ks, r :: rs, d :: ds, Q, P, e, p, hl, h, m => by
    have hp : plainK ks = true := by
      cases k <;> first | exact p | cases p
    have : ∃ e1, storeF i r e = .ok () e1 ∧ Mat (put P i (stP k d)) e1 := by
      cases k with
      | v i => cases p
      | s => cases (show r = _ from h.1); exact ⟨_, rfl, m.set (by cases d <;> exact rfl)⟩
      | f => obtain ⟨ds, rfl, rfl⟩ := h.1; exact ⟨_, rfl, m.set rfl⟩
      | u =>
        rcases h.1 with rfl | ⟨ds, rfl, rfl⟩
        · refine ⟨_, rfl, m.set ?_⟩
          cases d <;> first | exact .inl rfl | exact rfl
        · exact ⟨_, rfl, m.set (.inr rfl)⟩
    obtain ⟨e1, a1, m1⟩ := this
    obtain ⟨e2, a2, m2⟩ := store_all hp (by simpa using hl) h.2 m1
    exact ⟨e2, bo a1 a2, m2⟩
  | [], _ :: _, _, _, _, _, _, _, hl, _, _ => by cases hl
  | _ :: _, [], _, _, _, _, _, _, hl, _, _ => by cases hl
  | [], [], [], _ :: _, _, _, _, _, _, h, _ => h.elim
  | [], [], _ :: _, _, _, _, _, _, _, h, _ => h.elim
  | _ :: _, _ :: _, [], _, _, _, _, _, _, h, _ => h.elim
  | _ :: _, _ :: _, _ :: _, [], _, _, _, _, _, h, _ => h.elim
theorem nx_par {is : List Nat} {ks : List Kd} (h : Eu P Fs ks ds P1) (hl : is.length = ks.length := by rfl) (hp : plainK ks = true := by rfl) : Nx P (parF is Fs) (stAll P1 is ks ds) := fun e m => by
  obtain ⟨rs, e1, a1, m1, q⟩ := h e m
  obtain ⟨e2, a2, m2⟩ := store_all (is := is) hp hl q m1
  exact ⟨.nx, e2, bo a1 (bo (settle_plain hp q) (bo a2 rfl)), rfl, m2⟩

/-! ### the end of a def -/
/-- the def's answer is d; M: what holds of the slots then -/
def RQ (k : Kd) (d : PyData) (M : Fv → Prop) : Out → Fv → Prop := fun o e => (∃ rv, o = .rt rv) ∧ (∃ r, outV o e = some r ∧ Rk [] k r d) ∧ M e
theorem RQ.no_nx {M : Fv → Prop} (e : Fv) : ¬ RQ k d M .nx e := fun h => by
  obtain ⟨⟨_, h⟩, _⟩ := h
  cases h
def Slot0 (out : List PyData) : Fv → Prop := fun e => e[0]? = some (.own (some 0) out)
def NoM : Fv → Prop := fun _ => True
theorem ws_ret {M : Fv → Prop} (h : Ef P F k d P1) (hk : isV k = false := by rfl) (hM : ∀ e, Mat P1 e → M e) : Ws P (retF F) (RQ k d M) := fun e m => by
  obtain ⟨r, e1, a1, m1, q⟩ := h e m
  refine ⟨.rt r, e1, bo a1 rfl, ⟨r, rfl⟩, ?_, hM e1 m1⟩
  cases k with
  | v i => cases hk
  | s => cases (show r = _ from q); exact ⟨_, rfl, rfl⟩
  | f => obtain ⟨ds, rfl, rfl⟩ := q; exact ⟨_, rfl, ds, rfl, rfl⟩
  | u =>
    rcases q with rfl | ⟨ds, rfl, rfl⟩
    · exact ⟨_, rfl, .inl rfl⟩
    · exact ⟨_, rfl, .inr ⟨ds, rfl, rfl⟩⟩
/-- a list of our own is handed back -/
theorem ws_retV {i : Nat} {M : Fv → Prop} (h : nth P i = some (.own none ds)) (hM : ∀ e, Mat P e → M e) : Ws P (retF (readF i)) (RQ .f (.list ds) M) := fun e m => by
  obtain ⟨s, h1, h2⟩ := m.get h
  cases (show s = _ from h2)
  refine ⟨.rt (.sl i), e, bo (e1 := e) (a := .sl i) (by simp [h1]) rfl, ⟨_, rfl⟩, ⟨.fr ds, by simp [h1], ds, rfl, rfl⟩, hM e m⟩
theorem ws_retL {i : Nat} {M : Fv → Prop} (h : nth P i = some (.lst ds)) (hM : ∀ e, Mat P e → M e) : Ws P (retF (readF i)) (RQ .u (.list ds) M) := fun e m => by
  obtain ⟨s, h1, h2⟩ := m.get h
  rcases (show s = _ ∨ s = _ from h2) with rfl | rfl
  · exact ⟨.rt (.sh (.list ds)), e, bo (e1 := e) (a := .sh (.list ds)) (by simp [h1]) rfl, ⟨_, rfl⟩, ⟨_, rfl, .inl rfl⟩, hM e m⟩
  · exact ⟨.rt (.sl i), e, bo (e1 := e) (a := .sl i) (by simp [h1]) rfl, ⟨_, rfl⟩, ⟨.fr ds, by simp [h1], .inr ⟨ds, rfl, rfl⟩⟩, hM e m⟩
theorem RQ.to_u {M : Fv → Prop} (hk : isV k = false) {o : Out} {e : Fv} (h : RQ k d M o e) : RQ .u d M o e := by
  obtain ⟨h1, ⟨r, h2, h3⟩, h4⟩ := h
  refine ⟨h1, ⟨r, h2, ?_⟩, h4⟩
  cases k with
  | v i => cases hk
  | s => exact .inl h3
  | f => exact .inr h3
  | u => exact h3
def startP (n : Nat) (ds : List PyData) : List Pt := ds.map .sh ++ List.replicate (n - ds.length) .now
theorem mat_app : ∀ {P Q : List Pt} {e f : Fv}, Mat P e → Mat Q f → Mat (P ++ Q) (e ++ f)
  | [], _, [], _, _, m => m
  | _ :: _, _, _ :: _, _, h, m => ⟨h.1, mat_app h.2 m⟩
  | [], _, _ :: _, _, h, _ => h.elim
  | _ :: _, _, [], _, h, _ => h.elim
theorem mat_now : ∀ {n : Nat}, Mat (List.replicate n .now) (List.replicate n .un)
  | 0 => trivial
  | n + 1 => And.intro (a := Fit .now .un) (fun (t : Option Nat) (ds : List PyData) (z : Sl.un = Sl.own t ds) => by cases z) mat_now
theorem mat_any : ∀ {n : Nat}, Mat (List.replicate n .any) (List.replicate n .un)
  | 0 => trivial
  | n + 1 => And.intro (a := Fit .any .un) trivial mat_any
theorem mat_shs : ∀ {ds : List PyData}, Mat (ds.map .sh) (ds.map .sh)
  | [] => trivial
  | _ :: _ => ⟨rfl, mat_shs⟩
theorem ret_run {n : Nat} (h : Ws (startP n ds) B (RQ k d NoM)) : Ret (runF n B) ds k d := by
  have m : Mat (startP n ds) (env0 n (ds.map .sh)) := by
    unfold startP env0
    refine mat_app mat_shs ?_
    rw [List.length_map]
    exact mat_now
  obtain ⟨o, e1, a, _, ⟨r, h1, h2⟩, _⟩ := h _ m
  refine ⟨r, ?_, h2⟩
  unfold runF
  rw [a]
  show (match outV o e1 with
    | some r => FnR.ok r
    | none => .stuck) = _
  rw [h1]
theorem ret_runL {n : Nat} {es out : List PyData} (h : Ws (.own (some 0) es :: ds.map .sh ++ List.replicate (n - (ds.length + 1)) .now) B (RQ k d (Slot0 out))) : RetL (runL n B) es ds k d out := by
  have m : Mat (.own (some 0) es :: ds.map .sh ++ List.replicate (n - (ds.length + 1)) .now) (env0 n (.own (some 0) es :: ds.map .sh)) := by
    unfold env0
    have : (Sl.own (some 0) es :: ds.map Sl.sh).length = ds.length + 1 := by simp
    rw [this]
    exact mat_app (P := .own (some 0) es :: ds.map .sh) ⟨rfl, mat_shs⟩ mat_now
  obtain ⟨o, e1, a, _, ⟨r, h1, h2⟩, h3⟩ := h _ m
  refine ⟨r, ?_, h2⟩
  unfold runL
  rw [a]
  show (match outV o e1, (e1[0]? : Option Sl) with
    | some r, some (.own (some 0) out) => FnL.ok r out
    | _, _ => .stuck) = _
  rw [h1, show e1[0]? = some (.own (some 0) out) from h3]
  simp
theorem slot0 {out : List PyData} {P : List Pt} : ∀ e, Mat (.own (some 0) out :: P) e → Slot0 out e
  | s :: e, m => by
    cases (show s = _ from m.1)
    rfl
  | [], m => m.elim
end
end Cn
/-! Cn, part D: loops, comprehensions, generator expressions. -/
namespace Cn
open PySem PySem.Spec PyProof.Rows L2 Cf

/-! ### native loops -/
/-- how a turn ends -/
inductive Fl (ρ σ : Type) where
  | nx (s : σ)
  | bk (s : σ)
  | rt (r : ρ)
/-- how a loop ends -/
inductive Rs (ρ σ : Type) where
  | nx (s : σ)
  | rt (r : ρ)
def forN {σ α : Type} (step : σ → α → Option σ) : σ → List α → Option σ
  | s, [] => some s
  | s, x :: xs => (step s x).bind fun s => forN step s xs
def forR {ρ σ α : Type} (step : σ → α → Option (Fl ρ σ)) : σ → List α → Option (Rs ρ σ)
  | s, [] => some (.nx s)
  | s, x :: xs => (step s x).bind fun o => match o with
    | .nx s => forR step s xs
    | .bk s => some (.nx s)
    | .rt r => some (.rt r)
def whN {σ : Type} (c : σ → Option Bool) (step : σ → Option σ) : Nat → σ → Option σ
  | 0, _ => none
  | n + 1, s => (c s).bind fun b => if b = true then (step s).bind (whN c step n) else some s
def whR {ρ σ : Type} (c : σ → Option Bool) (step : σ → Option (Fl ρ σ)) : Nat → σ → Option (Rs ρ σ)
  | 0, _ => none
  | n + 1, s => (c s).bind fun b => if b = true then (step s).bind fun o => match o with
    | .nx s => whR c step n s
    | .bk s => some (.nx s)
    | .rt r => some (.rt r) else some (.nx s)
/-- a comprehension whose parts may change something -/
def cmpA {σ α β : Type} (f : σ → α → Option (Option β × σ)) : σ → List α → Option (List β × σ)
  | s, [] => some ([], s)
  | s, x :: xs => (f s x).bind fun p => (cmpA f p.2 xs).bind fun q => some (p.1.toList ++ q.1, q.2)
def cmpS {σ α β : Type} (f : σ → α → Option (Option β × σ)) (s : σ) (xs : List α) : Option (List β × σ) := (cmpA f s xs).bind fun q => if q.1.length ≤ sizeLine then some q else none
/-- .. whose parts may fail -/
def cmpO0 {α β : Type} (f : α → Option (Option β)) : List α → Option (List β)
  | [] => some []
  | x :: xs => (f x).bind fun o => (cmpO0 f xs).bind fun ys => some (o.toList ++ ys)
def cmpO {α β : Type} (f : α → Option (Option β)) (xs : List α) : Option (List β) := (cmpO0 f xs).bind fun q => if q.length ≤ sizeLine then some q else none
/-- .. plain -/
def cmp {α β : Type} (c : α → Bool) (b : α → β) (xs : List α) : Option (List β) := if (xs.filter c).length ≤ sizeLine then some ((xs.filter c).map b) else none
def mapN {α β : Type} (b : α → β) (xs : List α) : Option (List β) := if xs.length ≤ sizeLine then some (xs.map b) else none
/-- two fors -/
def cat0 {α β : Type} (f : α → Option (List β)) : List α → Option (List β)
  | [] => some []
  | x :: xs => (f x).bind fun o => (cat0 f xs).bind fun ys => some (o ++ ys)
def cat2 {α β : Type} (f : α → Option (List β)) (xs : List α) : Option (List β) := (cat0 f xs).bind fun q => if q.length ≤ sizeLine then some q else none
def allO {α : Type} (f : α → Option Bool) : List α → Option Bool
  | [] => some true
  | x :: xs => (f x).bind fun b => if b = true then allO f xs else some false
def anyO {α : Type} (f : α → Option Bool) : List α → Option Bool
  | [] => some false
  | x :: xs => (f x).bind fun b => if b = true then some true else anyO f xs
theorem cmpO0_plain {α β : Type} (c : α → Bool) (b : α → β) : ∀ xs : List α, cmpO0 (fun x => some (if c x = true then some (b x) else none)) xs = some ((xs.filter c).map b)
  | [] => rfl
  | x :: xs => by
    rw [cmpO0, cmpO0_plain c b xs]
    cases h : c x <;> simp [h]
theorem cmp_eq {α β : Type} (c : α → Bool) (b : α → β) (xs : List α) : cmp c b xs = cmpO (fun x => some (if c x = true then some (b x) else none)) xs := by
  unfold cmp cmpO
  rw [cmpO0_plain]
  simp
theorem cmpO0_map {α β : Type} (b : α → β) : ∀ xs : List α, cmpO0 (fun x => some (some (b x))) xs = some (xs.map b)
  | [] => rfl
  | x :: xs => by
    rw [cmpO0, cmpO0_map b xs]
    simp
theorem mapN_eq {α β : Type} (b : α → β) (xs : List α) : mapN b xs = cmpO (fun x => some (some (b x))) xs := by
  unfold mapN cmpO
  rw [cmpO0_map]
  simp
theorem cmpA_unit {α β : Type} (f : α → Option (Option β)) : ∀ {xs : List α} {ys : List β}, cmpO0 f xs = some ys → cmpA (σ := Unit) (fun _ x => (f x).map fun o => (o, ())) () xs = some (ys, ())
  | [], ys, h => by cases h; rfl
  | x :: xs, ys, h => by
    rw [cmpO0] at h
    cases hf : f x with
    | none => rw [hf] at h; cases h
    | some o =>
      rw [hf] at h
      cases hs : cmpO0 f xs with
      | none => rw [hs] at h; cases h
      | some zs =>
        rw [hs] at h
        cases h
        rw [cmpA, hf]
        show ((cmpA _ () xs).bind _) = _
        rw [cmpA_unit f hs]
        rfl
theorem allO_some {α : Type} (p : α → Bool) : ∀ xs : List α, allO (fun x => some (p x)) xs = some (xs.all p)
  | [] => rfl
  | x :: xs => by
    rw [allO, allO_some p xs]
    cases h : p x <;> simp [h]
theorem anyO_some {α : Type} (p : α → Bool) : ∀ xs : List α, anyO (fun x => some (p x)) xs = some (xs.any p)
  | [] => rfl
  | x :: xs => by
    rw [anyO, anyO_some p xs]
    cases h : p x <;> simp [h]

/-! ### for -/
def CQ (P : List Pt) : Out → Fv → Prop := fun o e => (o = .nx ∨ o = .ct) ∧ Mat P e
/-- a turn's end -/
def FQ {ρ σ : Type} (J : σ → List Pt) (rq : ρ → Out → Fv → Prop) (fl : Fl ρ σ) : Out → Fv → Prop := fun o e => match fl with
  | .nx s => (o = .nx ∨ o = .ct) ∧ Mat (J s) e
  | .bk s => o = .bk ∧ Mat (J s) e
  | .rt r => (∃ v, o = .rt v) ∧ rq r o e
/-- a loop's end -/
def FE {ρ σ : Type} (J : σ → List Pt) (rq : ρ → Out → Fv → Prop) (fl : Rs ρ σ) : Out → Fv → Prop := fun o e => match fl with
  | .nx s => o = .nx ∧ Mat (J s) e
  | .rt r => (∃ v, o = .rt v) ∧ rq r o e
section
variable {P P' P1 P2 P3 : List Pt} {F : Mo Rv} {k : Kd} {d : PyData} {ds : List PyData} {Fs : Mo (List Rv)} {I : Mo (List PyData)} {A B : Mo Out} {C : Mo Bool} {T : PyData → Mo Unit} {Q : Out → Fv → Prop}
variable {ρ σ α β γ : Type} {ex : α → PyData} {eb : β → PyData}
theorem nx_end (h : Nx P A P1) (g : ∀ e, Mat P1 e → Q .nx e) : Ws P A Q := h.post fun o e q => by
  obtain ⟨rfl, m⟩ := q
  exact g e m
theorem ws_ct (g : ∀ e, Mat P e → Q .ct e) : Ws P (pure .ct) Q := fun e m => ⟨.ct, e, rfl, g e m⟩
theorem ws_bk (g : ∀ e, Mat P e → Q .bk e) : Ws P (pure .bk) Q := fun e m => ⟨.bk, e, rfl, g e m⟩
theorem loop_n (J : σ → List Pt) {step : σ → α → Option σ} (hb : ∀ s x s', step s x = some s' → ∃ PB, Tg (J s) (T (ex x)) PB ∧ Ws PB B (CQ (J s'))) :
    ∀ {xs : List α} {s s' : σ} {e : Fv}, forN step s xs = some s' → Mat (J s) e → ∃ e', loopF T B (xs.map ex) e = .ok .nx e' ∧ Mat (J s') e'
  | [], s, s', e, h, m => by cases h; exact ⟨e, rfl, m⟩
  | x :: xs, s, s', e, h, m => bindE h fun s1 h1 h => by
    obtain ⟨PB, t, b⟩ := hb s x s1 h1
    obtain ⟨e1, m1, a1⟩ := t.then (K := B) m
    obtain ⟨o, e2, a2, ho, m2⟩ := b e1 m1
    obtain ⟨e3, a3, m3⟩ := loop_n J hb (xs := xs) h m2
    refine ⟨e3, ?_, m3⟩
    rw [List.map_cons, loop_cons, a1, a2]
    rcases ho with rfl | rfl <;> exact a3
theorem nx_for (J : σ → List Pt) {step : σ → α → Option σ} {xs : List α} {s s' : σ} (h : forN step s xs = some s') (hi : It P I (xs.map ex) P1) (l : Le P1 (J s)) (hb : ∀ s x s', step s x = some s' → ∃ PB, Tg (J s) (T (ex x)) PB ∧ Ws PB B (CQ (J s'))) :
    Nx P (forF I T B) (J s') := fun e m => by
  obtain ⟨e1, a1, m1⟩ := hi e m
  obtain ⟨e2, a2, m2⟩ := loop_n J hb h (l.mat m1)
  exact ⟨.nx, e2, bo a1 a2, rfl, m2⟩
theorem loop_r (J : σ → List Pt) {rq : ρ → Out → Fv → Prop} {step : σ → α → Option (Fl ρ σ)} (hb : ∀ s x fl, step s x = some fl → ∃ PB, Tg (J s) (T (ex x)) PB ∧ Ws PB B (FQ J rq fl)) :
    ∀ {xs : List α} {s : σ} {r : Rs ρ σ} {e : Fv}, forR step s xs = some r → Mat (J s) e → ∃ o e', loopF T B (xs.map ex) e = .ok o e' ∧ FE J rq r o e'
  | [], s, r, e, h, m => by cases h; exact ⟨.nx, e, rfl, rfl, m⟩
  | x :: xs, s, r, e, h, m => bindE h fun fl h1 h => by
    obtain ⟨PB, t, b⟩ := hb s x fl h1
    obtain ⟨e1, m1, a1⟩ := t.then (K := B) m
    obtain ⟨o, e2, a2, q⟩ := b e1 m1
    rw [List.map_cons, loop_cons, a1, a2]
    cases fl with
    | nx s1 =>
      obtain ⟨ho, m2⟩ := q
      obtain ⟨o3, e3, a3, q3⟩ := loop_r J hb (xs := xs) h m2
      refine ⟨o3, e3, ?_, q3⟩
      rcases ho with rfl | rfl <;> exact a3
    | bk s1 =>
      cases h
      obtain ⟨rfl, m2⟩ := q
      exact ⟨.nx, e2, rfl, rfl, m2⟩
    | rt r =>
      cases h
      obtain ⟨⟨v, rfl⟩, q⟩ := q
      exact ⟨.rt v, e2, rfl, ⟨v, rfl⟩, q⟩
theorem ws_forR (J : σ → List Pt) {rq : ρ → Out → Fv → Prop} {step : σ → α → Option (Fl ρ σ)} {xs : List α} {s : σ} {r : Rs ρ σ} (h : forR step s xs = some r) (hi : It P I (xs.map ex) P1) (l : Le P1 (J s))
    (hb : ∀ s x fl, step s x = some fl → ∃ PB, Tg (J s) (T (ex x)) PB ∧ Ws PB B (FQ J rq fl)) : Ws P (forF I T B) (FE J rq r) := fun e m => by
  obtain ⟨e1, a1, m1⟩ := hi e m
  obtain ⟨o, e2, a2, q⟩ := loop_r J hb h (l.mat m1)
  exact ⟨o, e2, bo a1 a2, q⟩
/-- what follows a loop that may return -/
theorem ws_seqE {J : σ → List Pt} {rq : ρ → Out → Fv → Prop} {r : Rs ρ σ} (h : Ws P A (FE J rq r)) (hx : ∀ s, r = .nx s → Ws (J s) B Q) (hr : ∀ v, r = .rt v → ∀ o e, rq v o e → Q o e) : Ws P (seqF A B) Q :=
  ws_seqQ h fun o e q => by
    cases r with
    | nx s =>
      obtain ⟨rfl, m⟩ := q
      exact .inl ⟨rfl, hx s rfl e m⟩
    | rt v =>
      obtain ⟨⟨w, rfl⟩, q⟩ := q
      exact .inr ⟨fun z => (by cases z), hr v rfl _ e q⟩
theorem ws_endE {J : σ → List Pt} {rq : ρ → Out → Fv → Prop} {r : Rs ρ σ} (h : Ws P A (FE J rq r)) (hx : ∀ s, r = .nx s → ∀ e, Mat (J s) e → Q .nx e) (hr : ∀ v, r = .rt v → ∀ o e, rq v o e → Q o e) : Ws P A Q :=
  h.post fun o e q => by
    cases r with
    | nx s =>
      obtain ⟨rfl, m⟩ := q
      exact hx s rfl e m
    | rt v => exact hr v rfl _ e q.2

/-! ### while -/
theorem loop_w (J : σ → List Pt) {c : σ → Option Bool} {step : σ → Option σ} (hc : ∀ s b, c s = some b → Eb (J s) C b (J s)) (hb : ∀ s s', step s = some s' → Ws (J s) B (CQ (J s'))) :
    ∀ {n : Nat} {s s' : σ} {e : Fv}, whN c step n s = some s' → Mat (J s) e → ∃ e', whileN C B n e = .ok .nx e' ∧ Mat (J s') e'
  | 0, _, _, _, h, _ => by cases h
  | n + 1, s, s', e, h, m => bindE h fun b h1 h => by
    obtain ⟨e1, a1, m1⟩ := hc s b h1 e m
    cases b with
    | false =>
      cases h
      exact ⟨e1, bo a1 rfl, m1⟩
    | true =>
      refine bindE (show (step s).bind (whN c step n) = some s' from h) fun s1 h2 h3 => ?_
      obtain ⟨o, e2, a2, ho, m2⟩ := hb s s1 h2 e1 m1
      obtain ⟨e3, a3, m3⟩ := loop_w J hc hb h3 m2
      refine ⟨e3, bo a1 (bo a2 ?_), m3⟩
      rcases ho with rfl | rfl <;> exact a3
theorem nx_while (J : σ → List Pt) {c : σ → Option Bool} {step : σ → Option σ} {n : Nat} {s s' : σ} (h : whN c step n s = some s') (l : Le P (J s)) (hc : ∀ s b, c s = some b → Eb (J s) C b (J s)) (hb : ∀ s s', step s = some s' → Ws (J s) B (CQ (J s'))) : Nx P (whileN C B n) (J s') := fun e m => by
  obtain ⟨e2, a2, m2⟩ := loop_w J hc hb h (l.mat m)
  exact ⟨.nx, e2, a2, rfl, m2⟩
theorem loop_wr (J : σ → List Pt) {rq : ρ → Out → Fv → Prop} {c : σ → Option Bool} {step : σ → Option (Fl ρ σ)} (hc : ∀ s b, c s = some b → Eb (J s) C b (J s)) (hb : ∀ s fl, step s = some fl → Ws (J s) B (FQ J rq fl)) :
    ∀ {n : Nat} {s : σ} {r : Rs ρ σ} {e : Fv}, whR c step n s = some r → Mat (J s) e → ∃ o e', whileN C B n e = .ok o e' ∧ FE J rq r o e'
  | 0, _, _, _, h, _ => by cases h
  | n + 1, s, r, e, h, m => bindE h fun b h1 h => by
    obtain ⟨e1, a1, m1⟩ := hc s b h1 e m
    cases b with
    | false =>
      cases h
      exact ⟨.nx, e1, bo a1 rfl, rfl, m1⟩
    | true =>
      rw [if_pos rfl] at h
      refine bindE h fun fl h2 h3 => ?_
      obtain ⟨o, e2, a2, q⟩ := hb s fl h2 e1 m1
      cases fl with
      | nx s1 =>
        obtain ⟨ho, m2⟩ := q
        obtain ⟨o3, e3, a3, q3⟩ := loop_wr J hc hb h3 m2
        refine ⟨o3, e3, bo a1 (bo a2 ?_), q3⟩
        rcases ho with rfl | rfl <;> exact a3
      | bk s1 =>
        cases h3
        obtain ⟨rfl, m2⟩ := q
        exact ⟨.nx, e2, bo a1 (bo a2 rfl), rfl, m2⟩
      | rt v =>
        cases h3
        obtain ⟨⟨w, rfl⟩, q⟩ := q
        exact ⟨.rt w, e2, bo a1 (bo a2 rfl), ⟨w, rfl⟩, q⟩
theorem ws_whileR (J : σ → List Pt) {rq : ρ → Out → Fv → Prop} {c : σ → Option Bool} {step : σ → Option (Fl ρ σ)} {n : Nat} {s : σ} {r : Rs ρ σ} (h : whR c step n s = some r) (l : Le P (J s)) (hc : ∀ s b, c s = some b → Eb (J s) C b (J s)) (hb : ∀ s fl, step s = some fl → Ws (J s) B (FQ J rq fl)) :
    Ws P (whileN C B n) (FE J rq r) := fun e m => loop_wr J hc hb h (l.mat m)

/-! ### comprehensions -/
def wipeP : List Nat → List Pt → List Pt
  | [], P => P
  | v :: vs, P => put (wipeP vs P) v .now
theorem Mat.wipe : ∀ {vs : List Nat} {P : List Pt} {e : Fv}, Mat P e → Mat (wipeP vs P) (wipeE vs e)
  | [], _, _, m => m
  | v :: vs, P, e, m => (Mat.wipe (vs := vs) m).set fun t ds z => by cases z
def nowOk : List Nat → List Pt → Bool
  | [], _ => true
  | v :: vs, P => (match nth P v with
    | some .now => true
    | some (.sh _) => true
    | _ => false) && nowOk vs P
theorem no_own : ∀ {vs : List Nat} {P : List Pt} {e : Fv}, nowOk vs P = true → Mat P e → noOwn vs e = true
  | [], _, _, _, _ => rfl
  | v :: vs, P, e, h, m => by
    unfold nowOk at h
    rw [Bool.and_eq_true] at h
    have ih := no_own h.2 m
    unfold noOwn at ih ⊢
    rw [List.all_cons, ih, Bool.and_true]
    have h1 := h.1
    cases hn : nth P v with
    | none => rw [hn] at h1; cases h1
    | some p =>
      rw [hn] at h1
      obtain ⟨s, e1, f⟩ := m.get hn
      rw [e1]
      cases p with
      | now => cases s <;> first | rfl | exact absurd rfl (f _ _)
      | sh d => cases (show s = _ from f); rfl
      | any => cases h1
      | own t ds => cases h1
      | lst ds => cases h1
theorem restE_at {e : Fv} {i : Nat} : ∀ {vs : List Nat} {e' : Fv}, e'.length = e.length → (restE e vs e')[i]? = if i ∈ vs then e[i]? else e'[i]?
  | [], e', _ => by simp [restE]
  | v :: vs, e', hl => by
    unfold restE
    rw [List.getElem?_set]
    have ih := restE_at (e := e) (i := i) (vs := vs) hl
    have lr := restE_length e vs e'
    by_cases hv : v = i
    · subst hv
      by_cases hlt : v < e.length
      · rw [if_pos rfl, if_pos (by rw [lr, hl]; exact hlt), if_pos (by simp)]
        simp [List.getElem?_eq_getElem hlt]
      · rw [if_pos rfl, if_neg (by rw [lr, hl]; exact hlt), if_pos (by simp)]
        simp [List.getElem?_eq_none (Nat.le_of_not_lt hlt)]
    · rw [if_neg hv, ih]
      simp [Ne.symm hv]
/-- back behind a comprehension: its own names as before -/
def backP (P : List Pt) : List Nat → List Pt → List Pt
  | [], Q => Q
  | v :: vs, Q => match nth P v with
    | some p => put (backP P vs Q) v p
    | none => put (backP P vs Q) v .any
theorem put_len : ∀ {P : List Pt} {i : Nat} {q : Pt}, (put P i q).length = P.length
  | [], _, _ => rfl
  | _ :: _, 0, _ => rfl
  | _ :: P, i + 1, q => by
    show (put P i q).length + 1 = P.length + 1
    rw [put_len]
theorem Mat.back {P : List Pt} {e : Fv} (m0 : Mat P e) : ∀ {vs : List Nat} {Q : List Pt} {e' : Fv}, Mat Q e' → Mat (backP P vs Q) (restE e vs e')
  | [], _, _, m => m
  | v :: vs, Q, e', m => by
    have ih := Mat.back m0 (vs := vs) m
    unfold backP restE
    cases hn : nth P v with
    | some p =>
      obtain ⟨s, h1, h2⟩ := m0.get hn
      rw [h1]
      exact ih.set h2
    | none => exact ih.set trivial
/-- test and element of a comprehension -/
def Lb (PB : List Pt) (C : Mo Bool) (F : Mo Rv) (eb : β → PyData) (o : Option β) (P' : List Pt) : Prop :=
  (o = none ∧ Eb PB C false P') ∨ ∃ y, o = some y ∧ ∃ P1, Eb PB C true P1 ∧ ∃ k P2, Ef P1 F k (eb y) P2 ∧ okK k P2 = true ∧ Le (frzK k P2) P'
theorem lc_run {vs : List Nat} (S : σ → List Pt) {f : σ → α → Option (Option β × σ)} (hb : ∀ s x p, f s x = some p → ∃ PB, Tg (wipeP vs (S s)) (T (ex x)) PB ∧ Lb PB C F eb p.1 (S p.2)) :
    ∀ {xs : List α} {s : σ} {acc : List PyData} {q : List β × σ} {e : Fv}, cmpA f s xs = some q → acc.length + q.1.length ≤ sizeLine → Mat (S s) e → ∃ e', lcLoop vs T C F (xs.map ex) acc e = .ok (acc ++ q.1.map eb) e' ∧ Mat (S q.2) e'
  | [], s, acc, q, e, h, _, m => by cases h; exact ⟨e, by simp [lcLoop], m⟩
  | x :: xs, s, acc, q, e, h, hl, m => bindE h fun p h1 h => bindE h fun q1 h2 h => by
    cases h
    obtain ⟨PB, t, b⟩ := hb s x p h1
    obtain ⟨e1, m1, a1⟩ := t.then (K := (do
      let b ← C
      if b = true then do
        let r ← F
        let x ← force r
        if acc.length < sizeLine then lcLoop vs T C F (xs.map ex) (acc ++ [x]) else stuckM
      else lcLoop vs T C F (xs.map ex) acc)) (m.wipe (vs := vs))
    rw [List.map_cons]
    unfold lcLoop
    simp only [a1]
    rcases b with ⟨ho, hc⟩ | ⟨y, ho, P1, hc, kk, P2, hf, ok, le⟩
    · obtain ⟨e2, a2, m2⟩ := hc e1 m1
      rw [ho] at hl ⊢
      obtain ⟨e3, a3, m3⟩ := lc_run S hb (xs := xs) (acc := acc) h2 (by simpa using hl) m2
      exact ⟨e3, bo a2 (by rw [ite_app, if_neg Bool.false_ne_true, a3]; rfl), m3⟩
    · obtain ⟨e2, a2, m2⟩ := hc e1 m1
      obtain ⟨r, e3, a3, m3, q3⟩ := hf e2 m2
      obtain ⟨e4, a4, m4⟩ := q3.force m3 ok
      rw [ho] at hl ⊢
      have hl' : acc.length + (1 + q1.1.length) ≤ sizeLine := by simpa [Nat.add_comm] using hl
      obtain ⟨e5, a5, m5⟩ := lc_run S hb (xs := xs) (acc := acc ++ [eb y]) h2 (by simp; omega) (le.mat m4)
      exact ⟨e5, bo a2 (by rw [ite_app, if_pos rfl]; exact bo a3 (bo a4 (by rw [ite_app, if_pos (by omega), a5]; simp))), m5⟩
theorem ef_cmpS {vs : List Nat} {xs : List α} {s : σ} {q : List β × σ} (S : σ → List Pt) {f : σ → α → Option (Option β × σ)} (h : cmpS f s xs = some q) (hi : It P I (xs.map ex) P1) (l : Le P1 (S s)) (no : nowOk vs P1 = true)
    (hb : ∀ s x p, f s x = some p → ∃ PB, Tg (wipeP vs (S s)) (T (ex x)) PB ∧ Lb PB C F eb p.1 (S p.2)) : Ef P (lcF vs I T C F) .f (.list (q.1.map eb)) (backP P1 vs (S q.2)) := fun e m => by
  refine bindE h fun q0 h1 h2 => ?_
  by_cases hz : q0.1.length ≤ sizeLine
  · rw [if_pos hz] at h2
    cases h2
    obtain ⟨e1, a1, m1⟩ := hi e m
    obtain ⟨e2, a2, m2⟩ := lc_run S hb (acc := []) h1 (by simpa using hz) (l.mat m1)
    refine ⟨.fr (q.1.map eb), restE e1 vs e2, bo a1 (bo (e1 := restE e1 vs e2) (a := q.1.map eb) ?_ rfl), m1.back m2, _, rfl, rfl⟩
    unfold block
    rw [if_pos (no_own no m1), a2]
    rfl
  · rw [if_neg hz] at h2
    cases h2
theorem ef_cmpO {vs : List Nat} {xs : List α} {ys : List β} (S : List Pt) {f : α → Option (Option β)} (h : cmpO f xs = some ys) (hi : It P I (xs.map ex) P1) (l : Le P1 S) (no : nowOk vs P1 = true) (hq : backP P1 vs S = P1)
    (hb : ∀ x o, f x = some o → ∃ PB, Tg (wipeP vs S) (T (ex x)) PB ∧ Lb PB C F eb o S) : Ef P (lcF vs I T C F) .f (.list (ys.map eb)) P1 := by
  refine bindE h fun q0 h1 h2 => ?_
  by_cases hz : q0.length ≤ sizeLine
  · rw [if_pos hz] at h2
    cases h2
    have := ef_cmpS (σ := Unit) (fun _ => S) (f := fun _ x => (f x).map fun o => (o, ())) (q := (ys, ())) (s := ()) (by
      unfold cmpS
      rw [cmpA_unit f h1]
      show (if ys.length ≤ sizeLine then _ else _) = _
      rw [if_pos hz]) hi l no (fun s x p hp => by
        cases hf : f x with
        | none => rw [hf] at hp; cases hp
        | some o => rw [hf] at hp; cases hp; exact hb x o hf)
    rw [hq] at this
    exact this
  · rw [if_neg hz] at h2
    cases h2
theorem ef_cmp {vs : List Nat} {xs : List α} {ys : List β} (S : List Pt) {c : α → Bool} {b : α → β} (h : cmp c b xs = some ys) (hi : It P I (xs.map ex) P1) (l : Le P1 S) (no : nowOk vs P1 = true) (hq : backP P1 vs S = P1)
    (hb : ∀ x, ∃ PB, Tg (wipeP vs S) (T (ex x)) PB ∧ Eb PB C (c x) PB ∧ Le PB S ∧ (c x = true → ∃ k P2, Ef PB F k (eb (b x)) P2 ∧ okK k P2 = true ∧ Le (frzK k P2) S)) : Ef P (lcF vs I T C F) .f (.list (ys.map eb)) P1 := by
  rw [cmp_eq] at h
  refine ef_cmpO S h hi l no hq fun x o ho => ?_
  cases ho
  obtain ⟨PB, t, hc, lp, hf⟩ := hb x
  refine ⟨PB, t, ?_⟩
  cases hcx : c x with
  | false =>
    rw [hcx] at hc
    exact .inl ⟨by simp, fun e m => by
      obtain ⟨e', a, m'⟩ := hc e m
      exact ⟨e', a, lp.mat m'⟩⟩
  | true =>
    rw [hcx] at hc
    obtain ⟨k, P2, h1, h2, h3⟩ := hf hcx
    exact .inr ⟨b x, by simp, PB, hc, k, P2, h1, h2, h3⟩
theorem ef_map {vs : List Nat} {xs : List α} {ys : List β} (S : List Pt) {b : α → β} (h : mapN b xs = some ys) (hi : It P I (xs.map ex) P1) (l : Le P1 S) (no : nowOk vs P1 = true) (hq : backP P1 vs S = P1)
    (hb : ∀ x, ∃ PB, Tg (wipeP vs S) (T (ex x)) PB ∧ ∃ k P2, Ef PB F k (eb (b x)) P2 ∧ okK k P2 = true ∧ Le (frzK k P2) S) : Ef P (lcF vs I T yesF F) .f (.list (ys.map eb)) P1 := by
  rw [mapN_eq] at h
  refine ef_cmpO S h hi l no hq fun x o ho => ?_
  cases ho
  obtain ⟨PB, t, k, P2, h1, h2, h3⟩ := hb x
  exact ⟨PB, t, .inr ⟨b x, rfl, PB, eb_yes, k, P2, h1, h2, h3⟩⟩
/-- two fors: one item of the first -/
def Lb2 (PB : List Pt) (vs1 : List Nat) (C : Mo Bool) (I1 : Mo (List PyData)) (T1 : PyData → Mo Unit) (C1 : Mo Bool) (F : Mo Rv) (eb : β → PyData) (zs : List β) (S : List Pt) : Prop :=
  (zs = [] ∧ Eb PB C false S) ∨ ∃ P1, Eb PB C true P1 ∧ ∃ (γ : Type) (ys : List γ) (ey : γ → PyData) (g : γ → Option (Option β)) (P2 : List Pt), It P1 I1 (ys.map ey) P2 ∧ Le P2 S ∧ cmpO0 g ys = some zs ∧
    ∀ y o, g y = some o → ∃ PC, Tg (wipeP vs1 P2) (T1 (ey y)) PC ∧ Lb PC C1 F eb o P2
theorem lc2_run {vs vs1 : List Nat} {I1 : Mo (List PyData)} {T1 : PyData → Mo Unit} {C1 : Mo Bool} (S : List Pt) {f : α → Option (List β)} (hb : ∀ x zs, f x = some zs → ∃ PB, Tg (wipeP vs S) (T (ex x)) PB ∧ Lb2 PB vs1 C I1 T1 C1 F eb zs S) :
    ∀ {xs : List α} {acc : List PyData} {q : List β} {e : Fv}, cat0 f xs = some q → acc.length + q.length ≤ sizeLine → Mat S e → ∃ e', lc2Loop vs T C vs1 I1 T1 C1 F (xs.map ex) acc e = .ok (acc ++ q.map eb) e' ∧ Mat S e'
  | [], acc, q, e, h, _, m => by cases h; exact ⟨e, by simp [lc2Loop], m⟩
  | x :: xs, acc, q, e, h, hl, m => bindE h fun p h1 h => bindE h fun q1 h2 h => by
    cases h
    obtain ⟨PB, t, b⟩ := hb x p h1
    obtain ⟨e1, m1, a1⟩ := t.then (K := (do
      let b ← C
      if b = true then do
        let ds1 ← I1
        let acc' ← lcLoop vs1 T1 C1 F ds1 acc
        lc2Loop vs T C vs1 I1 T1 C1 F (xs.map ex) acc'
      else lc2Loop vs T C vs1 I1 T1 C1 F (xs.map ex) acc)) (m.wipe (vs := vs))
    rw [List.map_cons]
    unfold lc2Loop
    simp only [a1]
    rw [List.length_append] at hl
    rcases b with ⟨rfl, hc⟩ | ⟨P1, hc, γ, ys, ey, g, P2, hi, lp, hg, hy⟩
    · obtain ⟨e2, a2, m2⟩ := hc e1 m1
      obtain ⟨e3, a3, m3⟩ := lc2_run S hb (xs := xs) (acc := acc) h2 (by simpa using hl) m2
      exact ⟨e3, bo a2 (by rw [ite_app, if_neg Bool.false_ne_true, a3]; rfl), m3⟩
    · obtain ⟨e2, a2, m2⟩ := hc e1 m1
      obtain ⟨e3, a3, m3⟩ := hi e2 m2
      obtain ⟨e4, a4, m4⟩ := lc_run (σ := Unit) (vs := vs1) (C := C1) (F := F) (eb := eb) (fun _ => P2) (f := fun _ x => (g x).map fun o => (o, ())) (fun s x p hp => by
        cases hf : g x with
        | none => rw [hf] at hp; cases hp
        | some o => rw [hf] at hp; cases hp; exact hy x o hf) (acc := acc) (cmpA_unit g hg) (by show acc.length + p.length ≤ _; omega) m3
      obtain ⟨e5, a5, m5⟩ := lc2_run S hb (xs := xs) (acc := acc ++ p.map eb) h2 (by simp; omega) (lp.mat m4)
      exact ⟨e5, bo a2 (by rw [ite_app, if_pos rfl]; exact bo a3 (bo a4 (by rw [a5]; simp))), m5⟩
theorem ef_cat2 {vs vs1 : List Nat} {I1 : Mo (List PyData)} {T1 : PyData → Mo Unit} {C1 : Mo Bool} {xs : List α} {ys : List β} (S : List Pt) {f : α → Option (List β)} (h : cat2 f xs = some ys) (hi : It P I (xs.map ex) P1) (l : Le P1 S) (no : nowOk vs P1 = true) (hq : backP P1 vs S = P1)
    (hb : ∀ x zs, f x = some zs → ∃ PB, Tg (wipeP vs S) (T (ex x)) PB ∧ Lb2 PB vs1 C I1 T1 C1 F eb zs S) : Ef P (lc2F vs I T C vs1 I1 T1 C1 F) .f (.list (ys.map eb)) P1 := fun e m => by
  refine bindE h fun q0 h1 h2 => ?_
  by_cases hz : q0.length ≤ sizeLine
  · rw [if_pos hz] at h2
    cases h2
    obtain ⟨e1, a1, m1⟩ := hi e m
    obtain ⟨e2, a2, m2⟩ := lc2_run S hb (acc := []) h1 (by simpa using hz) (l.mat m1)
    refine ⟨.fr (ys.map eb), restE e1 vs e2, bo a1 (bo (e1 := restE e1 vs e2) (a := ys.map eb) ?_ rfl), by rw [← hq]; exact m1.back m2, _, rfl, rfl⟩
    unfold block
    rw [if_pos (no_own no m1), a2]
    rfl
  · rw [if_neg hz] at h2
    cases h2

/-! ### generator expressions -/
def capP (ixs : List Nat) (m : Nat) (P : List Pt) : List Pt := ixs.map (fun i => match nth P i with
  | some (.sh d) => .sh d
  | some (.own _ ds) => .sh (.list ds)
  | some (.lst ds) => .sh (.list ds)
  | _ => .any) ++ List.replicate m .any
theorem Mat.cap {ixs : List Nat} {m : Nat} {e : Fv} (h : Mat P e) : Mat (capP ixs m P) (capE ixs m e) := by
  unfold capP capE
  refine mat_app ?_ mat_any
  induction ixs with
  | nil => trivial
  | cons i ixs ih =>
    refine ⟨?_, ih⟩
    show Fit (match nth P i with
      | some (.sh d) => .sh d
      | some (.own _ ds) => .sh (.list ds)
      | some (.lst ds) => .sh (.list ds)
      | _ => .any) (frz1 ((e[i]?).getD .un))
    cases hn : nth P i with
    | none => trivial
    | some p =>
      obtain ⟨s, h1, h2⟩ := h.get hn
      rw [h1]
      cases p with
      | any => trivial
      | now => trivial
      | sh d => cases (show s = _ from h2); rfl
      | own t ds => cases (show s = _ from h2); rfl
      | lst ds => rcases (show s = _ ∨ s = _ from h2) with rfl | rfl <;> rfl
def Qb (PB : List Pt) (C B : Mo Bool) (stop b : Bool) (S : List Pt) : Prop := (b = (!stop) ∧ Eb PB C false S) ∨ ∃ P1, Eb PB C true P1 ∧ Eb P1 B b S
theorem quant_run {stop : Bool} {C B : Mo Bool} (S : List Pt) {f : α → Option Bool} (hb : ∀ x b, f x = some b → ∃ PB, Tg S (T (ex x)) PB ∧ Qb PB C B stop b S) :
    ∀ {xs : List α} {b : Bool} {e : Fv}, (if stop = true then anyO f xs else allO f xs) = some b → Mat S e → ∃ e', quantL stop T C B (xs.map ex) e = .ok b e'
  | [], b, e, h, m => by
    cases stop <;> cases h <;> exact ⟨e, rfl⟩
  | x :: xs, b, e, h, m => by
    have : ∃ b1, f x = some b1 ∧ ((b1 = stop ∧ b = stop) ∨ (b1 = (!stop) ∧ (if stop = true then anyO f xs else allO f xs) = some b)) := by
      cases stop with
      | true =>
        refine bindE (show (f x).bind (fun b => if b = true then some true else anyO f xs) = some b from h) fun b1 h1 h => ⟨b1, h1, ?_⟩
        cases b1 with
        | true => cases h; exact .inl ⟨rfl, rfl⟩
        | false => exact .inr ⟨rfl, h⟩
      | false =>
        refine bindE (show (f x).bind (fun b => if b = true then allO f xs else some false) = some b from h) fun b1 h1 h => ⟨b1, h1, ?_⟩
        cases b1 with
        | false => cases h; exact .inl ⟨rfl, rfl⟩
        | true => exact .inr ⟨rfl, h⟩
    obtain ⟨b1, h1, h2⟩ := this
    obtain ⟨PB, t, q⟩ := hb x b1 h1
    obtain ⟨e1, m1, a1⟩ := t.then (K := (do
      let c ← C
      if c = true then do
        let b ← B
        if b = stop then pure stop else quantL stop T C B (xs.map ex)
      else quantL stop T C B (xs.map ex))) m
    rw [List.map_cons]
    unfold quantL
    simp only [a1]
    rcases q with ⟨hq, hc⟩ | ⟨P1, hc, hB⟩
    · obtain ⟨e2, a2, m2⟩ := hc e1 m1
      have h3 : (if stop = true then anyO f xs else allO f xs) = some b := by
        rcases h2 with ⟨z, _⟩ | ⟨_, h3⟩
        · rw [z] at hq; cases stop <;> cases hq
        · exact h3
      obtain ⟨e3, a3⟩ := quant_run S hb (xs := xs) h3 m2
      exact ⟨e3, bo a2 (by rw [ite_app, if_neg Bool.false_ne_true]; exact a3)⟩
    · obtain ⟨e2, a2, m2⟩ := hc e1 m1
      obtain ⟨e3, a3, m3⟩ := hB e2 m2
      rcases h2 with ⟨rfl, rfl⟩ | ⟨rfl, h3⟩
      · exact ⟨e3, bo a2 (by rw [ite_app, if_pos rfl]; exact bo a3 (by rw [ite_app, if_pos rfl]; rfl))⟩
      · obtain ⟨e4, a4⟩ := quant_run S hb (xs := xs) h3 m3
        exact ⟨e4, bo a2 (by rw [ite_app, if_pos rfl]; exact bo a3 (by rw [ite_app, if_neg (by cases stop <;> simp)]; exact a4))⟩
theorem eb_allO {ixs : List Nat} {mm : Nat} {C B : Mo Bool} {xs : List α} {b : Bool} {f : α → Option Bool} (S : List Pt) (h : allO f xs = some b) (hi : It P I (xs.map ex) P1) (hS : capP ixs mm P1 = S) (hb : ∀ x b, f x = some b → ∃ PB, Tg S (T (ex x)) PB ∧ Qb PB C B false b S) :
    Eb P (quantF false ixs mm I T C B) b P1 := fun e m => by
  obtain ⟨e1, a1, m1⟩ := hi e m
  obtain ⟨e2, a2⟩ := quant_run (stop := false) S hb h (hS ▸ m1.cap (ixs := ixs) (m := mm))
  refine ⟨e1, bo a1 ?_, m1⟩
  unfold Cf.inGen
  rw [a2]
theorem eb_anyO {ixs : List Nat} {mm : Nat} {C B : Mo Bool} {xs : List α} {b : Bool} {f : α → Option Bool} (S : List Pt) (h : anyO f xs = some b) (hi : It P I (xs.map ex) P1) (hS : capP ixs mm P1 = S) (hb : ∀ x b, f x = some b → ∃ PB, Tg S (T (ex x)) PB ∧ Qb PB C B true b S) :
    Eb P (quantF true ixs mm I T C B) b P1 := fun e m => by
  obtain ⟨e1, a1, m1⟩ := hi e m
  obtain ⟨e2, a2⟩ := quant_run (stop := true) S hb h (hS ▸ m1.cap (ixs := ixs) (m := mm))
  refine ⟨e1, bo a1 ?_, m1⟩
  unfold Cf.inGen
  rw [a2]
theorem eb_allP {ixs : List Nat} {mm : Nat} {B : Mo Bool} {xs : List α} {p : α → Bool} (S : List Pt) (hi : It P I (xs.map ex) P1) (hS : capP ixs mm P1 = S) (hb : ∀ x, ∃ PB, Tg S (T (ex x)) PB ∧ Eb PB B (p x) S) :
    Eb P (quantF false ixs mm I T yesF B) (xs.all p) P1 := eb_allO S (allO_some p xs) hi hS fun x b h => by
  cases h
  obtain ⟨PB, t, q⟩ := hb x
  exact ⟨PB, t, .inr ⟨PB, eb_yes, q⟩⟩
theorem eb_anyP {ixs : List Nat} {mm : Nat} {B : Mo Bool} {xs : List α} {p : α → Bool} (S : List Pt) (hi : It P I (xs.map ex) P1) (hS : capP ixs mm P1 = S) (hb : ∀ x, ∃ PB, Tg S (T (ex x)) PB ∧ Eb PB B (p x) S) :
    Eb P (quantF true ixs mm I T yesF B) (xs.any p) P1 := eb_anyO S (anyO_some p xs) hi hS fun x b h => by
  cases h
  obtain ⟨PB, t, q⟩ := hb x
  exact ⟨PB, t, .inr ⟨PB, eb_yes, q⟩⟩
theorem coll_run (S : List Pt) {f : α → Option (Option β)} (hb : ∀ x o, f x = some o → ∃ PB, Tg S (T (ex x)) PB ∧ Lb PB C F eb o S) :
    ∀ {xs : List α} {acc : List PyData} {q : List β} {e : Fv}, cmpO0 f xs = some q → acc.length + q.length ≤ sizeLine → Mat S e → ∃ e', collL T C F (xs.map ex) acc e = .ok (acc ++ q.map eb) e'
  | [], acc, q, e, h, _, m => by cases h; exact ⟨e, by simp [collL]⟩
  | x :: xs, acc, q, e, h, hl, m => bindE h fun p h1 h => bindE h fun q1 h2 h => by
    cases h
    obtain ⟨PB, t, b⟩ := hb x p h1
    obtain ⟨e1, m1, a1⟩ := t.then (K := (do
      let c ← C
      if c = true then do
        let r ← F
        let x ← force r
        if acc.length < sizeLine then collL T C F (xs.map ex) (acc ++ [x]) else stuckM
      else collL T C F (xs.map ex) acc)) m
    rw [List.map_cons]
    unfold collL
    simp only [a1]
    rcases b with ⟨ho, hc⟩ | ⟨y, ho, P1, hc, kk, P2, hf, ok, le⟩
    · obtain ⟨e2, a2, m2⟩ := hc e1 m1
      rw [ho] at hl ⊢
      obtain ⟨e3, a3⟩ := coll_run S hb (xs := xs) (acc := acc) h2 (by simpa using hl) m2
      exact ⟨e3, bo a2 (by rw [ite_app, if_neg Bool.false_ne_true, a3]; rfl)⟩
    · obtain ⟨e2, a2, m2⟩ := hc e1 m1
      obtain ⟨r, e3, a3, m3, q3⟩ := hf e2 m2
      obtain ⟨e4, a4, m4⟩ := q3.force m3 ok
      rw [ho] at hl ⊢
      have hl' : acc.length + (1 + q1.length) ≤ sizeLine := by simpa [Nat.add_comm] using hl
      obtain ⟨e5, a5⟩ := coll_run S hb (xs := xs) (acc := acc ++ [eb y]) h2 (by simp; omega) (le.mat m4)
      exact ⟨e5, bo a2 (by rw [ite_app, if_pos rfl]; exact bo a3 (bo a4 (by rw [ite_app, if_pos (by omega), a5]; simp)))⟩
theorem ef_tupGen {ixs : List Nat} {mm : Nat} {xs : List α} {ys : List β} {f : α → Option (Option β)} (S : List Pt) (h : cmpO f xs = some ys) (hn : ∀ y : β, noLst (eb y) = true) (hi : It P I (xs.map ex) P1) (hS : capP ixs mm P1 = S) (hb : ∀ x o, f x = some o → ∃ PB, Tg S (T (ex x)) PB ∧ Lb PB C F eb o S) :
    Ef P (tupGen ixs mm I T C F) .s (.tuple (ys.map eb)) P1 := fun e m => by
  refine bindE h fun q0 h1 h2 => ?_
  by_cases hz : q0.length ≤ sizeLine
  · rw [if_pos hz] at h2
    cases h2
    obtain ⟨e1, a1, m1⟩ := hi e m
    obtain ⟨e2, a2⟩ := coll_run S hb (acc := []) h1 (by simpa using hz) (hS ▸ m1.cap (ixs := ixs) (m := mm))
    have nl : ∀ q : List β, noLsts (q.map eb) = true := by
      intro q
      induction q with
      | nil => rfl
      | cons y q ih =>
        rw [List.map_cons, noLsts, hn y, ih]
        rfl
    refine ⟨_, e1, bo (e1 := e1) (a := ys.map eb) (bo a1 ?_) rfl, m1, rfl⟩
    have : (collL T C F (xs.map ex) [] >>= fun xs => if noLsts xs = true then pure xs else stuckM : Mo (List PyData)) (capE ixs mm e1) = .ok (ys.map eb) e2 := bo a2 (by rw [ite_app, if_pos (by simpa using nl ys)]; rfl)
    unfold Cf.inGen
    rw [this]
  · rw [if_neg hz] at h2
    cases h2
end
end Cn
/-! Cn, part E: native values as data. -/
namespace Cn
open PySem PySem.Spec PyProof.Rows L2 Cf PySem.W

abbrev SS := {x : Str // PyData.strOk x = true}
abbrev eI : Int → PyData := PyData.int
abbrev eB : Bool → PyData := PyData.bool
abbrev eS (x : SS) : PyData := .str x.1
abbrev eN (_ : Unit) : PyData := .none
abbrev eA (d : PyData) : PyData := d
section
variable {α β γ δ ε ζ : Type}
abbrev eL (e : α → PyData) (xs : List α) : PyData := .list (xs.map e)
abbrev eT (e : α → PyData) (xs : List α) : PyData := .tuple (xs.map e)
abbrev eP0 (_ : Unit) : PyData := .tuple []
abbrev eP1 (a : α → PyData) (x : α) : PyData := .tuple [a x]
abbrev eP2 (a : α → PyData) (b : β → PyData) (x : α × β) : PyData := .tuple [a x.1, b x.2]
abbrev eP3 (a : α → PyData) (b : β → PyData) (c : γ → PyData) (x : α × β × γ) : PyData := .tuple [a x.1, b x.2.1, c x.2.2]
abbrev eP4 (a : α → PyData) (b : β → PyData) (c : γ → PyData) (d : δ → PyData) (x : α × β × γ × δ) : PyData := .tuple [a x.1, b x.2.1, c x.2.2.1, d x.2.2.2]
abbrev eP5 (a : α → PyData) (b : β → PyData) (c : γ → PyData) (d : δ → PyData) (e : ε → PyData) (x : α × β × γ × δ × ε) : PyData := .tuple [a x.1, b x.2.1, c x.2.2.1, d x.2.2.2.1, e x.2.2.2.2]
abbrev eP6 (a : α → PyData) (b : β → PyData) (c : γ → PyData) (d : δ → PyData) (e : ε → PyData) (f : ζ → PyData) (x : α × β × γ × δ × ε × ζ) : PyData := .tuple [a x.1, b x.2.1, c x.2.2.1, d x.2.2.2.1, e x.2.2.2.2.1, f x.2.2.2.2.2]
def eO (e : α → PyData) : Option α → PyData
  | none => .none
  | some x => e x

/-! ### equality -/
structure Eqo [DecidableEq α] (e : α → PyData) (n : Nat) : Prop where
  lay : ∀ a, (e a).canLay0 = true
  dep : ∀ a, (e a).depth ≤ n
  eqv : ∀ a b, PyData.eqv (e a) (e b) = decide (a = b)
  nn : ∀ a, PyData.eqv (e a) .none = false ∧ PyData.eqv .none (e a) = false
theorem okI : Eqo eI 0 := ⟨fun _ => rfl, fun _ => Nat.le_refl _, fun _ _ => eqv_int, fun _ => ⟨rfl, rfl⟩⟩
theorem okB : Eqo eB 0 := ⟨fun _ => rfl, fun _ => Nat.le_refl _, fun a b => by cases a <;> cases b <;> rfl, fun _ => ⟨rfl, rfl⟩⟩
theorem okS : Eqo eS 0 := ⟨fun a => a.2, fun _ => Nat.le_refl _, fun a b => by
  show PyData.eqv (.str a.1) (.str b.1) = _
  simp only [PyData.eqv]
  by_cases h : a = b
  · subst h; simp
  · have : a.1 ≠ b.1 := fun z => h (Subtype.ext z)
    simp [h, this], fun _ => ⟨rfl, rfl⟩⟩
theorem lay_all [DecidableEq α] {e : α → PyData} {n : Nat} (h : Eqo e n) (xs : List α) : PyData.canLayAll0 (xs.map e) = true := canLayAll_iff.mpr fun d hd => by
  obtain ⟨x, _, rfl⟩ := List.mem_map.mp hd
  exact h.lay x
theorem dep_all [DecidableEq α] {e : α → PyData} {n : Nat} (h : Eqo e n) (xs : List α) : PyData.depthAll (xs.map e) ≤ n := depthAll_le.mpr fun d hd => by
  obtain ⟨x, _, rfl⟩ := List.mem_map.mp hd
  exact h.dep x
theorem eqv_all [DecidableEq α] {e : α → PyData} {n : Nat} (h : Eqo e n) : ∀ xs ys : List α, PyData.eqvAll (xs.map e) (ys.map e) = decide (xs = ys)
  | [], [] => rfl
  | [], _ :: _ => rfl
  | _ :: _, [] => rfl
  | x :: xs, y :: ys => by
    rw [List.map_cons, List.map_cons, eqv_all_cons, h.eqv, eqv_all h xs ys]
    by_cases h1 : x = y <;> by_cases h2 : xs = ys <;> simp [h1, h2]
theorem okL [DecidableEq α] {e : α → PyData} {n : Nat} (h : Eqo e n) : Eqo (eL e) (n + 1) := ⟨fun xs => by simp only [eL, PyData.canLay0]; exact lay_all h xs, fun xs => by simp only [eL, PyData.depth]; exact Nat.succ_le_succ (dep_all h xs),
  fun xs ys => by simp only [eL, PyData.eqv]; exact eqv_all h xs ys, fun _ => ⟨rfl, rfl⟩⟩
theorem okT [DecidableEq α] {e : α → PyData} {n : Nat} (h : Eqo e n) : Eqo (eT e) (n + 1) := ⟨fun xs => by simp only [eT, PyData.canLay0]; exact lay_all h xs, fun xs => by simp only [eT, PyData.depth]; exact Nat.succ_le_succ (dep_all h xs),
  fun xs ys => by simp only [eT, PyData.eqv]; exact eqv_all h xs ys, fun _ => ⟨rfl, rfl⟩⟩
/-- a row of data of fixed kinds -/
structure Row [DecidableEq α] (e : α → List PyData) (n : Nat) : Prop where
  lay : ∀ a, PyData.canLayAll0 (e a) = true
  dep : ∀ a, PyData.depthAll (e a) ≤ n
  eqv : ∀ a b, PyData.eqvAll (e a) (e b) = decide (a = b)
theorem Row.tup [DecidableEq α] {e : α → List PyData} {n : Nat} (h : Row e n) : Eqo (fun a => PyData.tuple (e a)) (n + 1) := ⟨fun a => by simp only [PyData.canLay0]; exact h.lay a, fun a => by simp only [PyData.depth]; exact Nat.succ_le_succ (h.dep a),
  fun a b => by simp only [PyData.eqv]; exact h.eqv a b, fun _ => ⟨rfl, rfl⟩⟩
theorem row1 [DecidableEq α] {e : α → PyData} {n : Nat} (h : Eqo e n) : Row (fun a => [e a]) n := ⟨fun a => by simp [PyData.canLayAll0, h.lay a], fun a => by simp [PyData.depthAll, h.dep a], fun a b => by
  rw [eqv_all_cons, h.eqv]
  simp [PyData.eqvAll]⟩
theorem rowC [DecidableEq α] [DecidableEq β] {e : α → PyData} {r : β → List PyData} {n m : Nat} (h : Eqo e n) (k : Row r m) : Row (fun a : α × β => e a.1 :: r a.2) (max n m) := ⟨fun a => by simp [PyData.canLayAll0, h.lay a.1, k.lay a.2], fun a => by
  simp only [PyData.depthAll]
  exact Nat.max_le.mpr ⟨Nat.le_trans (h.dep a.1) (Nat.le_max_left _ _), Nat.le_trans (k.dep a.2) (Nat.le_max_right _ _)⟩, fun a b => by
  rw [eqv_all_cons, h.eqv, k.eqv]
  obtain ⟨a1, a2⟩ := a
  obtain ⟨b1, b2⟩ := b
  by_cases h1 : a1 = b1 <;> by_cases h2 : a2 = b2 <;> simp [h1, h2]⟩
theorem okP1 [DecidableEq α] {e : α → PyData} {n : Nat} (h : Eqo e n) : Eqo (eP1 e) (n + 1) := (row1 h).tup
theorem okP2 [DecidableEq α] [DecidableEq β] {a : α → PyData} {b : β → PyData} {n m : Nat} (h : Eqo a n) (k : Eqo b m) : Eqo (eP2 a b) (max n m + 1) := (rowC h (row1 k)).tup
theorem okP3 [DecidableEq α] [DecidableEq β] [DecidableEq γ] {a : α → PyData} {b : β → PyData} {c : γ → PyData} {n m l : Nat} (h : Eqo a n) (k : Eqo b m) (i : Eqo c l) : Eqo (eP3 a b c) (max n (max m l) + 1) := (rowC h (rowC k (row1 i))).tup
theorem okP4 [DecidableEq α] [DecidableEq β] [DecidableEq γ] [DecidableEq δ] {a : α → PyData} {b : β → PyData} {c : γ → PyData} {d : δ → PyData} {n m l o : Nat} (h : Eqo a n) (k : Eqo b m) (i : Eqo c l) (j : Eqo d o) : Eqo (eP4 a b c d) (max n (max m (max l o)) + 1) := (rowC h (rowC k (rowC i (row1 j)))).tup
theorem okP5 [DecidableEq α] [DecidableEq β] [DecidableEq γ] [DecidableEq δ] [DecidableEq ε] {a : α → PyData} {b : β → PyData} {c : γ → PyData} {d : δ → PyData} {e : ε → PyData} {n m l o p : Nat} (h : Eqo a n) (k : Eqo b m) (i : Eqo c l) (j : Eqo d o) (q : Eqo e p) :
    Eqo (eP5 a b c d e) (max n (max m (max l (max o p))) + 1) := (rowC h (rowC k (rowC i (rowC j (row1 q))))).tup
theorem okN : (eN ()).canLay0 = true ∧ (eN ()).depth = 0 := ⟨rfl, rfl⟩
theorem okO_lay [DecidableEq α] {e : α → PyData} {n : Nat} (h : Eqo e n) (x : Option α) : (eO e x).canLay0 = true ∧ (eO e x).depth ≤ n := by
  cases x with
  | none => exact ⟨rfl, Nat.zero_le _⟩
  | some x => exact ⟨h.lay x, h.dep x⟩
theorem okO_eqv [DecidableEq α] {e : α → PyData} {n : Nat} (h : Eqo e n) (a b : Option α) : PyData.eqv (eO e a) (eO e b) = decide (a = b) := by
  cases a <;> cases b
  · rfl
  · rename_i x; rw [eO, eO, (h.nn x).2]; rfl
  · rename_i x; rw [eO, eO, (h.nn x).1]; rfl
  · rename_i x y
    rw [eO, eO, h.eqv]
    simp
/-- as Eqo, None too -/
structure Eqn [DecidableEq α] (e : α → PyData) (n : Nat) : Prop where
  lay : ∀ a, (e a).canLay0 = true
  dep : ∀ a, (e a).depth ≤ n
  eqv : ∀ a b, PyData.eqv (e a) (e b) = decide (a = b)
theorem Eqo.n [DecidableEq α] {e : α → PyData} {n : Nat} (h : Eqo e n) : Eqn e n := ⟨h.lay, h.dep, h.eqv⟩
theorem okO [DecidableEq α] {e : α → PyData} {n : Nat} (h : Eqo e n) : Eqn (eO e) n := ⟨fun x => (okO_lay h x).1, fun x => (okO_lay h x).2, okO_eqv h⟩
theorem okU : Eqn eN 0 := ⟨fun _ => rfl, fun _ => Nat.le_refl _, fun _ _ => by simp [PyData.eqv]⟩
theorem eq_g [DecidableEq α] {e : α → PyData} {n : Nat} (h : Eqn e n) {a b : α} (hn : n ≤ 60 := by decide) : eqG (e a) (e b) = some (.sh (.bool (decide (a = b)))) := by
  have := h.dep a
  have := h.dep b
  unfold eqG eqOk
  rw [h.lay, h.lay, h.eqv, if_pos]
  simp
  omega
theorem ne_g [DecidableEq α] {e : α → PyData} {n : Nat} (h : Eqn e n) {a b : α} (hn : n ≤ 60 := by decide) : neG (e a) (e b) = some (.sh (.bool (!decide (a = b)))) := by
  have := h.dep a
  have := h.dep b
  unfold neG eqOk
  rw [h.lay, h.lay, h.eqv, if_pos]
  simp
  omega
theorem in_g0 [DecidableEq α] {e : α → PyData} {n : Nat} (h : Eqn e n) {a : α} {xs : List α} (hn : n ≤ 60) : inOk (e a) (xs.map e) = true ∧ ((xs.map e).any fun z => PyData.eqv z (e a)) = decide (a ∈ xs) := by
  refine ⟨?_, ?_⟩
  · have := h.dep a
    unfold inOk
    rw [h.lay, canLayAll_iff.mpr fun d hd => by
      obtain ⟨x, _, rfl⟩ := List.mem_map.mp hd
      exact h.lay x]
    simp
    omega
  · rw [List.any_map, Bool.eq_iff_iff, List.any_eq_true, decide_eq_true_eq]
    constructor
    · rintro ⟨x, hx, q⟩
      rw [Function.comp, h.eqv, decide_eq_true_eq] at q
      exact q ▸ hx
    · exact fun hx => ⟨a, hx, by rw [Function.comp, h.eqv]; simp⟩
/-- is among them -/
def memB [DecidableEq α] (a : α) (xs : List α) : Bool := decide (a ∈ xs)
theorem memB_iff [DecidableEq α] {a : α} {xs : List α} : memB a xs = true ↔ a ∈ xs := by simp [memB]
theorem in_l [DecidableEq α] {e : α → PyData} {n : Nat} (h : Eqn e n) {a : α} {xs : List α} (hn : n ≤ 60 := by decide) : inG (e a) (eL e xs) = some (.sh (.bool (memB a xs))) := by
  simp only [inG, (in_g0 h hn).1, (in_g0 h hn).2, if_true, memB]
theorem in_t [DecidableEq α] {e : α → PyData} {n : Nat} (h : Eqn e n) {a : α} {xs : List α} (hn : n ≤ 60 := by decide) : inG (e a) (eT e xs) = some (.sh (.bool (memB a xs))) := by
  simp only [inG, (in_g0 h hn).1, (in_g0 h hn).2, if_true, memB]
theorem nin_l [DecidableEq α] {e : α → PyData} {n : Nat} (h : Eqn e n) {a : α} {xs : List α} (hn : n ≤ 60 := by decide) : notInG (e a) (eL e xs) = some (.sh (.bool (!memB a xs))) := by
  simp only [notInG, (in_g0 h hn).1, (in_g0 h hn).2, if_true, memB]
theorem nin_t [DecidableEq α] {e : α → PyData} {n : Nat} (h : Eqn e n) {a : α} {xs : List α} (hn : n ≤ 60 := by decide) : notInG (e a) (eT e xs) = some (.sh (.bool (!memB a xs))) := by
  simp only [notInG, (in_g0 h hn).1, (in_g0 h hn).2, if_true, memB]
/-- of any data -/
def eqA (a b : PyData) : Option Bool := if eqOk a b = true then some (PyData.eqv a b) else none
theorem eqA_g {a b : PyData} {k : Bool} (h : eqA a b = some k) : eqG a b = some (.sh (.bool k)) := by
  unfold eqA at h
  unfold eqG
  split at h <;> cases h
  simp [*]
theorem eqA_ne {a b : PyData} {k : Bool} (h : eqA a b = some k) : neG a b = some (.sh (.bool (!k))) := by
  unfold eqA at h
  unfold neG
  split at h <;> cases h
  simp [*]
def inA (a : PyData) (ds : List PyData) : Option Bool := if inOk a ds = true then some (ds.any fun z => PyData.eqv z a) else none
theorem inA_l {a : PyData} {ds : List PyData} {k : Bool} (h : inA a ds = some k) : inG a (.list ds) = some (.sh (.bool k)) := by
  unfold inA at h
  unfold inG
  split at h <;> cases h
  simp [*]
theorem inA_t {a : PyData} {ds : List PyData} {k : Bool} (h : inA a ds = some k) : inG a (.tuple ds) = some (.sh (.bool k)) := by
  unfold inA at h
  unfold inG
  split at h <;> cases h
  simp [*]
theorem ninA_l {a : PyData} {ds : List PyData} {k : Bool} (h : inA a ds = some k) : notInG a (.list ds) = some (.sh (.bool (!k))) := by
  unfold inA at h
  unfold notInG
  split at h <;> cases h
  simp [*]
theorem ninA_t {a : PyData} {ds : List PyData} {k : Bool} (h : inA a ds = some k) : notInG a (.tuple ds) = some (.sh (.bool (!k))) := by
  unfold inA at h
  unfold notInG
  split at h <;> cases h
  simp [*]
theorem is_none {e : α → PyData} (h : ∀ a, isNoneD (e a) = false) {x : Option α} : isG (eO e x) .none = some (.sh (.bool x.isNone)) := by
  cases x with
  | none => rfl
  | some x =>
    show some (Rv.sh (.bool (isNoneD (e x)))) = _
    rw [h x]
    rfl
theorem is_nnone {e : α → PyData} (h : ∀ a, isNoneD (e a) = false) {x : Option α} : isNotG (eO e x) .none = some (.sh (.bool x.isSome)) := by
  cases x with
  | none => rfl
  | some x =>
    show some (Rv.sh (.bool (!isNoneD (e x)))) = _
    rw [h x]
    rfl
theorem eO_some {e : α → PyData} {x : Option α} {y : α} (h : x = some y) : eO e x = e y := by rw [h]; rfl
theorem eO_none {e : α → PyData} : eO e none = .none := rfl

/-! ### order -/
structure Lto (e : α → PyData) (lt : α → α → Bool) : Prop where
  lt : ∀ a b, dataLt (e a) (e b) = lt a b
  al : ∀ a b, alike (e a) (e b) = true
  nn : ∀ a, isNoneD (e a) = false
def ltI (a b : Int) : Bool := decide (a < b)
def ltBo (a b : Bool) : Bool := !a && b
def ltS (a b : SS) : Bool := decide (a.1.cps.toList < b.1.cps.toList)
def ltP [DecidableEq α] (l : α → α → Bool) (m : β → β → Bool) (a b : α × β) : Bool := if a.1 = b.1 then m a.2 b.2 else l a.1 b.1
def ltL [DecidableEq α] (l : α → α → Bool) : List α → List α → Bool
  | [], [] => false
  | [], _ :: _ => true
  | _ :: _, [] => false
  | x :: xs, y :: ys => if x = y then ltL l xs ys else l x y
theorem ltoI : Lto eI ltI := ⟨fun a b => dataLt_int a b, fun _ _ => rfl, fun _ => rfl⟩
theorem ltoB : Lto eB ltBo := ⟨fun a b => by rw [dataLt_bool]; cases a <;> cases b <;> rfl, fun _ _ => rfl, fun _ => rfl⟩
theorem ltoS : Lto eS ltS := ⟨fun a b => dataLt_str a.1 b.1, fun _ _ => rfl, fun _ => rfl⟩
structure RowL (e : α → List PyData) (lt : α → α → Bool) : Prop where
  lt : ∀ a b, PyProof.Rows.lexLt itemOrd (keyToksAll (e a)) (keyToksAll (e b)) = lt a b
  al : ∀ a b, alikeAll (e a) (e b) = true
theorem RowL.tup {e : α → List PyData} {lt : α → α → Bool} (h : RowL e lt) : Lto (fun a => PyData.tuple (e a)) lt := ⟨fun a b => by rw [dataLt_tuple, h.lt], fun a b => by simp only [alike]; exact h.al a b, fun _ => rfl⟩
theorem toks_nil : PyProof.Rows.lexLt itemOrd (keyToksAll []) (keyToksAll []) = false := PyProof.Rows.lex_irrefl (O := itemOrd) _
theorem rowL1 [DecidableEq α] {e : α → PyData} {lt : α → α → Bool} {n : Nat} (h : Lto e lt) (k : Eqn e n) : RowL (fun a => [e a]) lt := ⟨fun a b => by
  by_cases hab : a = b
  · rw [dataLt_all_yes (h.al a b) (by rw [k.eqv]; simpa using hab), toks_nil, ← h.lt, hab]
    exact (PyProof.Rows.lex_irrefl (O := itemOrd) _).symm
  · rw [dataLt_all_no (h.al a b) (by rw [k.eqv]; simpa using hab), h.lt], fun a b => by simp [alikeAll, h.al a b]⟩
theorem rowLC [DecidableEq α] {e : α → PyData} {r : β → List PyData} {l : α → α → Bool} {m : β → β → Bool} {n : Nat} (h : Lto e l) (k : Eqn e n) (i : RowL r m) : RowL (fun a : α × β => e a.1 :: r a.2) (ltP l m) := ⟨fun a b => by
  unfold ltP
  by_cases hab : a.1 = b.1
  · rw [dataLt_all_yes (h.al _ _) (by rw [k.eqv]; simpa using hab), i.lt, if_pos hab]
  · rw [dataLt_all_no (h.al _ _) (by rw [k.eqv]; simpa using hab), h.lt, if_neg hab], fun a b => by simp [alikeAll, h.al, i.al]⟩
theorem ltoP1 [DecidableEq α] {e : α → PyData} {lt : α → α → Bool} {n : Nat} (h : Lto e lt) (k : Eqn e n) : Lto (eP1 e) lt := (rowL1 h k).tup
theorem ltoP2 [DecidableEq α] [DecidableEq β] {a : α → PyData} {b : β → PyData} {l : α → α → Bool} {m : β → β → Bool} {n o : Nat} (h : Lto a l) (k : Eqn a n) (i : Lto b m) (j : Eqn b o) : Lto (eP2 a b) (ltP l m) := (rowLC h k (rowL1 i j)).tup
theorem ltoP3 [DecidableEq α] [DecidableEq β] [DecidableEq γ] {a : α → PyData} {b : β → PyData} {c : γ → PyData} {l : α → α → Bool} {m : β → β → Bool} {q : γ → γ → Bool} {n o p : Nat} (h : Lto a l) (k : Eqn a n) (i : Lto b m) (j : Eqn b o) (i' : Lto c q) (j' : Eqn c p) :
    Lto (eP3 a b c) (ltP l (ltP m q)) := (rowLC h k (rowLC i j (rowL1 i' j'))).tup
theorem ltoP4 [DecidableEq α] [DecidableEq β] [DecidableEq γ] [DecidableEq δ] {a : α → PyData} {b : β → PyData} {c : γ → PyData} {d : δ → PyData} {l : α → α → Bool} {m : β → β → Bool} {q : γ → γ → Bool} {r : δ → δ → Bool} {n o p s : Nat} (h : Lto a l) (k : Eqn a n) (i : Lto b m) (j : Eqn b o) (i' : Lto c q) (j' : Eqn c p) (i2 : Lto d r) (j2 : Eqn d s) :
    Lto (eP4 a b c d) (ltP l (ltP m (ltP q r))) := (rowLC h k (rowLC i j (rowLC i' j' (rowL1 i2 j2)))).tup
theorem rowLL [DecidableEq α] {e : α → PyData} {l : α → α → Bool} {n : Nat} (h : Lto e l) (k : Eqn e n) : RowL (fun xs : List α => xs.map e) (ltL l) := ⟨fun a b => by
  induction a generalizing b with
  | nil =>
    cases b with
    | nil => exact toks_nil
    | cons y ys =>
      rw [List.map_nil, List.map_cons, ltL, toks_all_cons]
      exact lex_atom (p := .inl 0) (q := .inl 1) (by decide) [] _ |>.trans (by rw [lex_one]; rfl)
  | cons x xs ih =>
    cases b with
    | nil =>
      rw [List.map_nil, List.map_cons, ltL, toks_all_cons]
      exact (lex_atom (p := .inl 1) (q := .inl 0) (by decide) _ []).trans (by rw [lex_one]; rfl)
    | cons y ys =>
      rw [List.map_cons, List.map_cons, ltL]
      by_cases hab : x = y
      · rw [dataLt_all_yes (h.al _ _) (by rw [k.eqv]; simpa using hab), ih, if_pos hab]
      · rw [dataLt_all_no (h.al _ _) (by rw [k.eqv]; simpa using hab), h.lt, if_neg hab], fun a b => by
  induction a generalizing b with
  | nil => cases b <;> simp [alikeAll]
  | cons x xs ih =>
    cases b with
    | nil => simp [alikeAll]
    | cons y ys => simp [alikeAll, h.al x y, ih ys]⟩
theorem ltoT [DecidableEq α] {e : α → PyData} {l : α → α → Bool} {n : Nat} (h : Lto e l) (k : Eqn e n) : Lto (eT e) (ltL l) := (rowLL h k).tup
theorem ltoL [DecidableEq α] {e : α → PyData} {l : α → α → Bool} {n : Nat} (h : Lto e l) (k : Eqn e n) : Lto (eL e) (ltL l) := ⟨fun a b => by
  rw [dataLt_list]
  exact (rowLL h k).lt a b, fun a b => by simp only [alike]; exact (rowLL h k).al a b, fun _ => rfl⟩
theorem tup_ok [DecidableEq α] {e : α → PyData} {l : α → α → Bool} {n : Nat} (h : Lto e l) (k : Eqn e n) (a b : α) (ht : isTup0 (e a) = true) (hn : n ≤ 60) : tupOk (e a) (e b) = true := by
  have := k.dep a
  unfold tupOk eqOk
  rw [ht, h.al, k.lay, k.lay]
  simp
  omega
theorem lt_g [DecidableEq α] {e : α → PyData} {l : α → α → Bool} {n : Nat} (h : Lto e l) (k : Eqn e n) {a b : α} (ht : isTup0 (e a) = true := by rfl) (hn : n ≤ 60 := by decide) : ltX (e a) (e b) = some (.sh (.bool (l a b))) := by
  have e1 : ltG (e a) (e b) = none := by
    generalize e a = x at ht
    cases x <;> first | (cases ht; done) | (cases e b <;> rfl)
  unfold ltX ltT
  rw [e1, if_pos (tup_ok h k a b ht hn), h.lt]
  rfl
theorem gt_g [DecidableEq α] {e : α → PyData} {l : α → α → Bool} {n : Nat} (h : Lto e l) (k : Eqn e n) {a b : α} (ht : isTup0 (e a) = true := by rfl) (hn : n ≤ 60 := by decide) : gtX (e a) (e b) = some (.sh (.bool (l b a))) := by
  have e1 : gtG (e a) (e b) = none := by
    generalize e a = x at ht
    cases x <;> first | (cases ht; done) | (cases e b <;> rfl)
  unfold gtX gtT
  rw [e1, if_pos (tup_ok h k a b ht hn), h.lt]
  rfl
theorem le_g [DecidableEq α] {e : α → PyData} {l : α → α → Bool} {n : Nat} (h : Lto e l) (k : Eqn e n) {a b : α} (ht : isTup0 (e a) = true := by rfl) (hn : n ≤ 60 := by decide) : leX (e a) (e b) = some (.sh (.bool (!l b a))) := by
  have e1 : leG (e a) (e b) = none := by
    generalize e a = x at ht
    cases x <;> first | (cases ht; done) | (cases e b <;> rfl)
  unfold leX leT
  rw [e1, if_pos (tup_ok h k a b ht hn), h.lt]
  rfl
theorem ge_g [DecidableEq α] {e : α → PyData} {l : α → α → Bool} {n : Nat} (h : Lto e l) (k : Eqn e n) {a b : α} (ht : isTup0 (e a) = true := by rfl) (hn : n ≤ 60 := by decide) : geX (e a) (e b) = some (.sh (.bool (!l a b))) := by
  have e1 : geG (e a) (e b) = none := by
    generalize e a = x at ht
    cases x <;> first | (cases ht; done) | (cases e b <;> rfl)
  unfold geX geT
  rw [e1, if_pos (tup_ok h k a b ht hn), h.lt]
  rfl
theorem al_ok [DecidableEq α] {e : α → PyData} {l : α → α → Bool} {n : Nat} (h : Lto e l) (k : Eqn e n) (xs : List α) (hn : n ≤ 60) : alikeOk (xs.map e) = true := by
  unfold alikeOk alikesB
  have h1 : ((xs.map e).all fun a => (xs.map e).all fun b => alike a b) = true := by
    rw [List.all_map, List.all_eq_true]
    intro x _
    rw [Function.comp, List.all_map, List.all_eq_true]
    intro y _
    exact h.al x y
  have h2 : ((xs.map e).all fun a => !isNoneD a) = true := by
    rw [List.all_map, List.all_eq_true]
    intro x _
    rw [Function.comp, h.nn x]
    rfl
  have h3 : PyData.canLayAll0 (xs.map e) = true := canLayAll_iff.mpr fun d hd => by
    obtain ⟨x, _, rfl⟩ := List.mem_map.mp hd
    exact k.lay x
  have h4 : PyData.depthAll (xs.map e) ≤ 60 := depthAll_le.mpr fun d hd => by
    obtain ⟨x, _, rfl⟩ := List.mem_map.mp hd
    exact Nat.le_trans (k.dep x) hn
  rw [h1, h2, h3]
  simpa using h4
/-- the least -/
def minB (l : α → α → Bool) (x : α) (xs : List α) : α := xs.foldl (fun a y => if l y a = true then y else a) x
def maxB (l : α → α → Bool) (x : α) (xs : List α) : α := xs.foldl (fun a y => if l a y = true then y else a) x
def minN (l : α → α → Bool) : List α → Option α
  | [] => none
  | x :: xs => some (minB l x xs)
def maxN (l : α → α → Bool) : List α → Option α
  | [] => none
  | x :: xs => some (maxB l x xs)
theorem minD_map {e : α → PyData} {l : α → α → Bool} (h : Lto e l) : ∀ (xs : List α) (x : α), minD (e x) (xs.map e) = e (minB l x xs)
  | [], x => rfl
  | y :: xs, x => by
    have := minD_map h xs (if l y x = true then y else x)
    unfold minD minB at this ⊢
    rw [List.map_cons, List.foldl_cons, List.foldl_cons, ← this, h.lt]
    congr 1
    split <;> rfl
theorem maxD_map {e : α → PyData} {l : α → α → Bool} (h : Lto e l) : ∀ (xs : List α) (x : α), maxD (e x) (xs.map e) = e (maxB l x xs)
  | [], x => rfl
  | y :: xs, x => by
    have := maxD_map h xs (if l x y = true then y else x)
    unfold maxD maxB at this ⊢
    rw [List.map_cons, List.foldl_cons, List.foldl_cons, ← this, h.lt]
    congr 1
    split <;> rfl
theorem min_l [DecidableEq α] {e : α → PyData} {l : α → α → Bool} {n : Nat} (h : Lto e l) (k : Eqn e n) {xs : List α} {y : α} (hy : minN l xs = some y) (hn : n ≤ 60 := by decide) : minG [eL e xs] = some (.sh (e y)) := by
  cases xs with
  | nil => cases hy
  | cons x xs =>
    cases hy
    have := al_ok h k (x :: xs) hn
    rw [List.map_cons] at this
    show (if alikeOk (e x :: xs.map e) = true then some (Rv.sh (minD (e x) (xs.map e))) else none) = _
    rw [if_pos this, minD_map h]
theorem min_t [DecidableEq α] {e : α → PyData} {l : α → α → Bool} {n : Nat} (h : Lto e l) (k : Eqn e n) {xs : List α} {y : α} (hy : minN l xs = some y) (hn : n ≤ 60 := by decide) : minG [eT e xs] = some (.sh (e y)) := by
  cases xs with
  | nil => cases hy
  | cons x xs =>
    cases hy
    have := al_ok h k (x :: xs) hn
    rw [List.map_cons] at this
    show (if alikeOk (e x :: xs.map e) = true then some (Rv.sh (minD (e x) (xs.map e))) else none) = _
    rw [if_pos this, minD_map h]
theorem max_l [DecidableEq α] {e : α → PyData} {l : α → α → Bool} {n : Nat} (h : Lto e l) (k : Eqn e n) {xs : List α} {y : α} (hy : maxN l xs = some y) (hn : n ≤ 60 := by decide) : maxG [eL e xs] = some (.sh (e y)) := by
  cases xs with
  | nil => cases hy
  | cons x xs =>
    cases hy
    have := al_ok h k (x :: xs) hn
    rw [List.map_cons] at this
    show (if alikeOk (e x :: xs.map e) = true then some (Rv.sh (maxD (e x) (xs.map e))) else none) = _
    rw [if_pos this, maxD_map h]
theorem max_t [DecidableEq α] {e : α → PyData} {l : α → α → Bool} {n : Nat} (h : Lto e l) (k : Eqn e n) {xs : List α} {y : α} (hy : maxN l xs = some y) (hn : n ≤ 60 := by decide) : maxG [eT e xs] = some (.sh (e y)) := by
  cases xs with
  | nil => cases hy
  | cons x xs =>
    cases hy
    have := al_ok h k (x :: xs) hn
    rw [List.map_cons] at this
    show (if alikeOk (e x :: xs.map e) = true then some (Rv.sh (maxD (e x) (xs.map e))) else none) = _
    rw [if_pos this, maxD_map h]
theorem min2_g [DecidableEq α] {e : α → PyData} {l : α → α → Bool} {n : Nat} (h : Lto e l) (k : Eqn e n) {a b : α} (ht : ∀ x, isTup0 (e x) = true := by exact fun _ => rfl) (hn : n ≤ 60 := by decide) : min2X [e a, e b] = some (.sh (e (if l b a = true then b else a))) := by
  have h1 := al_ok h k [a, b] hn
  have h2 : minD (e a) [e b] = e (minB l a [b]) := minD_map h [b] a
  have ha := ht a
  have hb := ht b
  rw [List.map_cons, List.map_cons, List.map_nil] at h1
  have h3 : min2X [e a, e b] = some (.sh (minD (e a) [e b])) := by
    generalize e a = x at *
    generalize e b = y at *
    cases x <;> first | (cases ha; done) | skip
    cases y <;> first | (cases hb; done) | skip
    exact min2X_tup h1
  rw [h3, h2]
  rfl
theorem max2_g [DecidableEq α] {e : α → PyData} {l : α → α → Bool} {n : Nat} (h : Lto e l) (k : Eqn e n) {a b : α} (ht : ∀ x, isTup0 (e x) = true := by exact fun _ => rfl) (hn : n ≤ 60 := by decide) : max2X [e a, e b] = some (.sh (e (if l a b = true then b else a))) := by
  have h1 := al_ok h k [a, b] hn
  have h2 : maxD (e a) [e b] = e (maxB l a [b]) := maxD_map h [b] a
  have ha := ht a
  have hb := ht b
  rw [List.map_cons, List.map_cons, List.map_nil] at h1
  have h3 : max2X [e a, e b] = some (.sh (maxD (e a) [e b])) := by
    generalize e a = x at *
    generalize e b = y at *
    cases x <;> first | (cases ha; done) | skip
    cases y <;> first | (cases hb; done) | skip
    exact max2X_tup h1
  rw [h3, h2]
  rfl
def sortN (l : α → α → Bool) (xs : List α) : List α := xs.mergeSort fun a b => !l b a
theorem sort_l [DecidableEq α] {e : α → PyData} {l : α → α → Bool} {n : Nat} (h : Lto e l) (k : Eqn e n) (ht : (∀ a, isTupD (e a) = true) ∨ ∀ a, isTup0 (e a) = false) {xs : List α} (hn : n ≤ 60 := by decide) : sortG [eL e xs] = some (.fr ((sortN l xs).map e)) := by
  have h1 := al_ok h k xs hn
  have h2 : sortableB (xs.map e) = true := by
    unfold sortableB
    rw [Bool.or_eq_true]
    rcases ht with ht | ht
    · refine .inl ?_
      rw [List.all_map, List.all_eq_true]
      exact fun x _ => ht x
    · refine .inr ?_
      rw [List.all_map, List.all_eq_true]
      exact fun x _ => by rw [Function.comp, ht x]; rfl
  show (if alikeOk (xs.map e) = true ∧ sortableB (xs.map e) = true then some (Rv.fr (sortD (xs.map e))) else none) = _
  rw [if_pos ⟨h1, h2⟩]
  unfold sortD sortN
  congr 2
  rw [List.map_mergeSort]
  intro a _ b _
  show _ = (!PyProof.Rows.lexLt itemOrd (keyToks (e b)) (keyToks (e a)))
  rw [show PyProof.Rows.lexLt itemOrd (keyToks (e b)) (keyToks (e a)) = dataLt (e b) (e a) from rfl, h.lt]
end
end Cn
/-! Cn, part F: native steps. -/
namespace Cn
open PySem PySem.Spec PyProof.Rows L2 Cf PySem.W

section
variable {α β γ : Type} {P P' P1 P2 P3 : List Pt} {F F1 F2 F3 : Mo Rv} {k k1 k2 k3 : Kd} {d d1 d2 d3 : PyData} {A B C : Mo Out} {Q : Out → Fv → Prop} {e : α → PyData}
theorem if_t {b : Bool} {x y : Option α} {r : α} (h : (if b = true then x else y) = some r) (hb : b = true) : x = some r := by rw [if_pos hb] at h; exact h
theorem if_f {b : Bool} {x y : Option α} {r : α} (h : (if b = true then x else y) = some r) (hb : b = false) : y = some r := by
  rw [if_neg (by rw [hb]; exact Bool.false_ne_true)] at h; exact h
/-! ### numbers -/
def opI (g : PyData → PyData → Option Rv) (a b : Int) : Option Int := match g (.int a) (.int b) with
  | some (.sh (.int c)) => some c
  | _ => none
theorem opI_g {g : PyData → PyData → Option Rv} {a b c : Int} (h : opI g a b = some c) : g (.int a) (.int b) = some (.sh (.int c)) := by
  unfold opI at h
  split at h
  · rename_i q
    rw [q, Option.some.inj h]
  · cases h
abbrev mulN := opI mulG
abbrev fdivN := opI fdivG
abbrev modN := opI modG
abbrev powN := opI powG
abbrev xorN := opI xorG
abbrev bandN := opI bandG
abbrev borN := opI borG
abbrev shlN := opI shlG
abbrev shrN := opI shrG
theorem mulN_left {a b : Int} (h : a.natAbs < 2 ^ 64) : mulN a b = some (a * b) := by simp [opI, mulG_left h]
theorem mulN_right {a b : Int} (h : b.natAbs < 2 ^ 64) : mulN a b = some (a * b) := by simp [opI, mulG_right h]
theorem fdivN_small {a b : Int} (h0 : b ≠ 0) (h : b.natAbs < 1073741824) : fdivN a b = some (a.fdiv b) := by simp [opI, fdivG_small h0 h]
theorem modN_ok {a b : Int} (h0 : b ≠ 0) : modN a b = some (a.fmod b) := by simp [opI, h0]
theorem fdivN_pos {a b : Int} (h0 : 0 < b) (h : b < 1073741824) : fdivN a b = some (a / b) := by
  rw [fdivN_small (by omega) (by omega), Int.fdiv_eq_ediv_of_nonneg _ (by omega)]
theorem modN_pos {a b : Int} (h0 : 0 < b) : modN a b = some (a % b) := by
  rw [modN_ok (by omega), Int.fmod_eq_emod_of_nonneg _ (by omega)]
theorem len_l {xs : List α} : lenG [eL e xs] = some (.sh (.int (xs.length : Int))) := by simp
theorem len_t {xs : List α} : lenG [eT e xs] = some (.sh (.int (xs.length : Int))) := by simp
/-! ### items -/
theorem at_l {xs : List α} {i : Int} {y : α} (h : atI xs i = some y) : itemG (eL e xs) (.int i) = some (.sh (e y)) := by
  show (atI (xs.map e) i).map Rv.sh = _
  rw [atI_map, h]
  rfl
theorem at_t {xs : List α} {i : Int} {y : α} (h : atI xs i = some y) : itemG (eT e xs) (.int i) = some (.sh (e y)) := by
  show (atI (xs.map e) i).map Rv.sh = _
  rw [atI_map, h]
  rfl
def cutN (xs : List α) (lo hi : Option Int) : List α := (xs.drop (HT.sIx xs.length 0 lo)).take (HT.sIx xs.length xs.length hi - HT.sIx xs.length 0 lo)
theorem cut_map {xs : List α} {lo hi : Option Int} : Cf.cutD (xs.map e) lo hi = (cutN xs lo hi).map e := by
  unfold Cf.cutD cutN
  rw [List.length_map, List.map_take, List.map_drop]
theorem cut_l {xs : List α} {lo hi : Option Int} : sliceG lo hi (eL e xs) = some (.fr ((cutN xs lo hi).map e)) := by rw [← cut_map]; rfl
theorem cut_t {xs : List α} {lo hi : Option Int} : sliceG lo hi (eT e xs) = some (.sh (eT e (cutN xs lo hi))) := by
  show some (Rv.sh (.tuple (Cf.cutD (xs.map e) lo hi))) = _
  rw [cut_map]
def catN (xs ys : List α) : Option (List α) := if xs.length + ys.length ≤ sizeLine then some (xs ++ ys) else none
theorem catN_p {xs ys zs : List α} (h : catN xs ys = some zs) : zs = xs ++ ys ∧ xs.length + ys.length ≤ sizeLine := by
  unfold catN at h
  split at h <;> cases h
  exact ⟨rfl, by assumption⟩
theorem catN_ok {xs ys : List α} (h : xs.length + ys.length ≤ 16000000) : catN xs ys = some (xs ++ ys) := if_pos (Nat.le_trans h (by decide))
theorem cat_l {xs ys zs : List α} (h : catN xs ys = some zs) : addG (eL e xs) (eL e ys) = some (.fr (zs.map e)) := by
  obtain ⟨rfl, hl⟩ := catN_p h
  simp [hl]
theorem cat_t {xs ys zs : List α} (h : catN xs ys = some zs) : addG (eT e xs) (eT e ys) = some (.sh (eT e zs)) := by
  obtain ⟨rfl, hl⟩ := catN_p h
  simp [hl]
theorem cat_p {xs ys : List PyData} (h : (xs.length + ys.length ≤ sizeLine) = True) : addG (.tuple xs) (.tuple ys) = some (.sh (.tuple (xs ++ ys))) := by
  simp only [addG, h, if_true]
def repN (xs : List α) (n : Int) : Option (List α) := if -(2 ^ 63) ≤ n ∧ n < 2 ^ 63 ∧ xs.length * n.toNat ≤ sizeLine then some (List.replicate n.toNat xs).flatten else none
theorem rep_l {xs zs : List α} {n : Int} (h : repN xs n = some zs) : mulG (eL e xs) (.int n) = some (.fr (zs.map e)) := by
  unfold repN at h
  split at h <;> cases h
  rename_i hc
  simp only [mulG, List.length_map]
  rw [if_pos hc]
  simp
theorem repN_ok {xs : List α} {n : Int} (h0 : n ≤ 10000) (h1 : -10000 ≤ n) (h : xs.length ≤ 1000) : repN xs n = some (List.replicate n.toNat xs).flatten := by
  refine if_pos ⟨by omega, by omega, ?_⟩
  have : xs.length * n.toNat ≤ 1000 * 10000 := Nat.mul_le_mul h (by omega)
  have : (10000000 : Nat) ≤ sizeLine := by decide
  omega
def repT (xs : List α) (n : Int) : Option (List α) := if xs ≠ [] ∧ 1 ≤ n ∧ n ≤ 1000 ∧ xs.length ≤ 1000 then some (List.replicate n.toNat xs).flatten else none
theorem rep_t {xs zs : List α} {n : Int} (h : repT xs n = some zs) : mulG1 (eT e xs) (.int n) = some (.sh (eT e zs)) := by
  unfold repT at h
  split at h <;> cases h
  rename_i hc
  obtain ⟨h1, h2, h3, h4⟩ := hc
  unfold mulG1
  simp only
  split
  · rename_i h5
    subst h5
    simp
  · simp only [mulG, List.length_map]
    rw [if_pos ⟨by simpa using h1, by omega, h3, h4⟩]
    simp
def pushN (xs : List α) (x : α) : Option (List α) := if xs.length < sizeLine then some (xs ++ [x]) else none
theorem pushN_ok {xs : List α} {x : α} (h : xs.length < 16000000) : pushN xs x = some (xs ++ [x]) := if_pos (Nat.lt_of_lt_of_le h (by decide))
theorem ef_push {i : Nat} {t t' : Option Nat} {es0 : List PyData} {xs ys : List α} {x : α} (h : pushN xs x = some ys) (h0 : nth P i = some (.own t es0)) (hx : Ef P F k (e x) P1) (h1 : nth (frzK k P1) i = some (.own t' (xs.map e))) (ok : okK k P1 = true := by rfl) :
    Ef P (appendF i F) .s .none (put (frzK k P1) i (.own t' (ys.map e))) := by
  unfold pushN at h
  split at h <;> cases h
  rename_i hl
  have := ef_append h0 hx h1 (by rw [List.length_map]; exact hl) ok
  rw [List.map_append]
  exact this
theorem ef_ext {i : Nat} {t t' : Option Nat} {es0 : List PyData} {xs ys zs : List α} (h : catN xs ys = some zs) (h0 : nth P i = some (.own t es0)) (hx : Ef P F k d P1) (hd : lstD d = some (ys.map e)) (h1 : nth P1 i = some (.own t' (xs.map e))) :
    Ef P (extendF i F) .s .none (put P1 i (.own t' (zs.map e))) := by
  obtain ⟨rfl, hl⟩ := catN_p h
  have := ef_extend h0 hx hd h1 (by simpa using hl)
  rw [List.map_append]
  exact this
def popN (xs : List α) : Option (α × List α) := match xs.getLast? with
  | some x => some (x, xs.dropLast)
  | none => none
theorem ef_popN {i : Nat} {t : Option Nat} {xs : List α} {p : α × List α} (hp : popN xs = some p) (h : nth P i = some (.own t (xs.map e))) : Ef P (popF i) .s (e p.1) (put P i (.own t (p.2.map e))) := by
  unfold popN at hp
  split at hp <;> cases hp
  rename_i x hx
  exact ef_pop h (by rw [List.getLast?_map, hx]; rfl) (by rw [List.map_dropLast])
def setN (xs : List α) (i : Int) (v : α) : Option (List α) := (ixN xs.length i).map fun n => xs.set n v
theorem nx_setN {i : Nat} {j : Int} {t : Option Nat} {xs ys : List α} {v : α} {Fi : Mo Rv} (hs : setN xs j v = some ys) (h : Ef P F k (e v) P1) (h0 : nth (frzK k P1) i = some (.own t (xs.map e))) (hi : Ef (frzK k P1) Fi .s (.int j) (frzK k P1)) (ok : okK k P1 = true := by rfl) :
    Nx P (setItemF i Fi F) (put (frzK k P1) i (.own t (ys.map e))) := by
  unfold setN at hs
  cases hn : ixN xs.length j with
  | none => rw [hn] at hs; cases hs
  | some n =>
    rw [hn] at hs
    cases hs
    rw [List.map_set]
    exact nx_setItem h h0 hi (by rw [List.length_map]; exact hn) ok
theorem nx_augN {i : Nat} {j : Int} {t : Option Nat} {xs ys : List α} {old v : α} {g : PyData → PyData → Option Rv} {Fi : Mo Rv} (h0 : nth P i = some (.own t (xs.map e))) (hi : Ef P Fi .s (.int j) P) (ho : atI xs j = some old) (h : Ef P F k d P) (hg : g (e old) d = some (.sh (e v))) (hs : setN xs j v = some ys) :
    Nx P (augItemF i g Fi F) (put P i (.own t (ys.map e))) := fun en m => by
  unfold setN at hs
  cases hn : ixN xs.length j with
  | none => rw [hn] at hs; cases hs
  | some n =>
    rw [hn] at hs
    cases hs
    obtain ⟨r1, e1, a1, m1, q1⟩ := hi en m
    cases (show r1 = _ from q1)
    obtain ⟨r2, e2, a2, m2, q2⟩ := h e1 m1
    obtain ⟨e4, a4, m4⟩ := put_ok m2 h0 ((xs.map e).set n (e v))
    refine ⟨.nx, e4, bo (need_ok m h0) (bo a1 (bo rfl (bo (get_ok m1 h0) ?_))), rfl, by rw [List.map_set]; exact m4⟩
    simp only [show atI (xs.map e) j = some (e old) by rw [atI_map, ho]; rfl]
    refine bo a2 (bo (q2.peek m2) (bo (lo hg) (bo (get_ok m2 h0) ?_)))
    simp only [List.length_map, hn]
    exact bo a4 rfl
/-! ### walks -/
noncomputable def rng (i j : Int) : Option (List Int) := if rangeOk i = true ∧ rangeOk j = true then some ((List.range (j - i).toNat).map fun n : Nat => i + n) else none
theorem rng_ok {i j : Int} (h1 : -1000000 ≤ i) (h2 : i ≤ 1000000) (h3 : -1000000 ≤ j) (h4 : j ≤ 1000000) : rng i j = some ((List.range (j - i).toNat).map fun n : Nat => i + n) :=
  if_pos ⟨rangeOk_iff.mpr ⟨by omega, by omega⟩, rangeOk_iff.mpr ⟨by omega, by omega⟩⟩
theorem rng_p {i j : Int} {xs : List Int} (h : rng i j = some xs) : rangeOk i = true ∧ rangeOk j = true ∧ xs = (List.range (j - i).toNat).map fun n : Nat => i + n := by
  unfold rng at h
  split at h <;> cases h
  rename_i hc
  exact ⟨hc.1, hc.2, rfl⟩
theorem it_rng1 {Fs : Mo (List Rv)} {j : Int} {xs : List Int} (h : rng 0 j = some xs) (ha : Ea P Fs [.s] [.int j] P1) : It P (range1I Fs) (xs.map eI) P1 := by
  obtain ⟨_, h2, rfl⟩ := rng_p h
  refine (it_range1 ha h2).cast ?_
  simp [rangeD]
theorem it_rng2 {Fs : Mo (List Rv)} {i j : Int} {xs : List Int} (h : rng i j = some xs) (ha : Ea P Fs [.s, .s] [.int i, .int j] P1) : It P (range2I Fs) (xs.map eI) P1 := by
  obtain ⟨h1, h2, rfl⟩ := rng_p h
  refine (it_range2 ha h1 h2).cast ?_
  simp [rangeD]
noncomputable def rng3 (i j c : Int) : Option (List Int) := if range3Ok i j c = true then some ((List.range (Builtin.Range.rangeSize i j c).toNat).map fun n : Nat => i + n * c) else none
theorem it_rng3 {Fs : Mo (List Rv)} {i j c : Int} {xs : List Int} (h : rng3 i j c = some xs) (ha : Ea P Fs [.s, .s, .s] [.int i, .int j, .int c] P1) : It P (range3I Fs) (xs.map eI) P1 := fun en m => by
  obtain ⟨rs, e1, a1, m1, q⟩ := ha en m
  unfold rng3 at h
  split at h <;> cases h
  rename_i hc
  refine ⟨e1, ?_, m1⟩
  match rs, q with
  | [r, r', r''], q =>
    cases (show r = _ from q.1)
    cases (show r' = _ from q.2.1)
    cases (show r'' = _ from q.2.2.1)
    refine bo a1 ?_
    show (if range3Ok i j c = true then pure (rangeC i c (Builtin.Range.rangeSize i j c).toNat) else stuckM : Mo (List PyData)) e1 = _
    rw [if_pos hc]
    simp [rangeC]
def enumN (xs : List α) : List (Int × α) := xs.mapIdx fun i x => ((i : Nat), x)
theorem enum_map {xs : List α} : enumD (xs.map e) = (enumN xs).map (eP2 eI e) := by
  unfold enumD enumN
  refine List.ext_getElem? fun i => ?_
  simp only [List.getElem?_mapIdx, List.getElem?_map]
  cases xs[i]? <;> rfl
def zipN (xs : List α) (ys : List β) : List (α × β) := List.zip xs ys
theorem zip_map {f : β → PyData} : ∀ {xs : List α} {ys : List β}, zipD (xs.map e) (ys.map f) = (zipN xs ys).map (eP2 e f)
  | [], _ => rfl
  | _ :: _, [] => rfl
  | x :: xs, y :: ys => congrArg (List.cons _) (zip_map (xs := xs) (ys := ys))
theorem sum_l {xs : List Int} : sumG [eL eI xs] = some (.sh (.int xs.sum)) := by simp [sumG, eL, intsOf_map]
theorem sum_t {xs : List Int} : sumG [eT eI xs] = some (.sh (.int xs.sum)) := by simp [sumG, eT, intsOf_map]
theorem tr_l {xs : List α} : truthD (eL e xs) = some (!xs.isEmpty) := by simp
theorem tr_t {xs : List α} : truthD (eT e xs) = some (!xs.isEmpty) := by simp

/-! ### any data -/
def intA : PyData → Option Int
  | .int i => some i
  | _ => none
theorem intA_p {d : PyData} {i : Int} (h : intA d = some i) : d = .int i := by
  cases d <;> cases h
  rfl
def boolA : PyData → Option Bool
  | .bool i => some i
  | _ => none
theorem boolA_p {d : PyData} {i : Bool} (h : boolA d = some i) : d = .bool i := by
  cases d <;> cases h
  rfl
def tupA : PyData → Option (List PyData)
  | .tuple i => some i
  | _ => none
theorem tupA_p {d : PyData} {i : List PyData} (h : tupA d = some i) : d = eT eA i := by
  cases d <;> cases h
  simp [eT]
def lstA : PyData → Option (List PyData)
  | .list i => some i
  | _ => none
theorem lstA_p {d : PyData} {i : List PyData} (h : lstA d = some i) : d = eL eA i := by
  cases d <;> cases h
  simp [eL]
def lenA (d : PyData) : Option Int := match lenG [d] with
  | some (.sh (.int i)) => some i
  | _ => none
theorem lenA_g {d : PyData} {i : Int} (h : lenA d = some i) : lenG [d] = some (.sh (.int i)) := by
  unfold lenA at h
  split at h
  · rename_i q
    rw [q, Option.some.inj h]
  · cases h
def opA (g : PyData → PyData → Option Rv) (a b : PyData) : Option PyData := match g a b with
  | some (.sh c) => some c
  | _ => none
theorem opA_g {g : PyData → PyData → Option Rv} {a b c : PyData} (h : opA g a b = some c) : g a b = some (.sh c) := by
  unfold opA at h
  split at h
  · rename_i q
    rw [q, Option.some.inj h]
  · cases h
def itemsA (d : PyData) : Option (List PyData) := itemsG d
theorem itemsA_g {d : PyData} {xs : List PyData} (h : itemsA d = some xs) : itemsG d = some (xs.map eA) := by
  rw [show xs.map eA = xs by simp]
  exact h
theorem cast_l {β : Type} {f : β → PyData} {g : α → β} (h : ∀ x, e x = f (g x)) (xs : List α) : eL e xs = eL f (xs.map g) := by
  show PyData.list _ = PyData.list _
  rw [List.map_map]
  congr 1
  exact List.map_congr_left fun x _ => h x
theorem cast_t {β : Type} {f : β → PyData} {g : α → β} (h : ∀ x, e x = f (g x)) (xs : List α) : eT e xs = eT f (xs.map g) := by
  show PyData.tuple _ = PyData.tuple _
  rw [List.map_map]
  congr 1
  exact List.map_congr_left fun x _ => h x
theorem cast_m {β : Type} {f : β → PyData} {g : α → β} (h : ∀ x, e x = f (g x)) (xs : List α) : xs.map e = (xs.map g).map f := by
  rw [List.map_map]
  exact List.map_congr_left fun x _ => h x
/-! ### no list within -/
theorem nl_t (h : ∀ x, noList (e x) = true) (xs : List α) : noList (eT e xs) = true := by
  show noLists (xs.map e) = true
  induction xs with
  | nil => rfl
  | cons x xs ih => rw [List.map_cons, noLists, h x, ih]; rfl
theorem nl_o (h : ∀ x, noList (e x) = true) (x : Option α) : noList (eO e x) = true := by
  cases x with
  | none => rfl
  | some x => exact h x
theorem nl_p1 (h : ∀ x, noList (e x) = true) (x : α) : noList (eP1 e x) = true := by
  show (noList (e x) && true) = true
  rw [h x]; rfl
theorem nl_p2 {f : β → PyData} (h : ∀ x, noList (e x) = true) (h2 : ∀ x, noList (f x) = true) (x : α × β) : noList (eP2 e f x) = true := by
  show (noList (e x.1) && (noList (f x.2) && true)) = true
  rw [h, h2]; rfl
theorem nl_p3 {f : β → PyData} {g : γ → PyData} (h : ∀ x, noList (e x) = true) (h2 : ∀ x, noList (f x) = true) (h3 : ∀ x, noList (g x) = true) (x : α × β × γ) : noList (eP3 e f g x) = true := by
  show (noList (e x.1) && (noList (f x.2.1) && (noList (g x.2.2) && true))) = true
  rw [h, h2, h3]; rfl
theorem ns_t (h : ∀ x, noLst (e x) = true) (xs : List α) : noLst (eT e xs) = true := by
  show noLsts (xs.map e) = true
  induction xs with
  | nil => rfl
  | cons x xs ih => rw [List.map_cons, noLsts, h x, ih]; rfl
theorem ns_o (h : ∀ x, noLst (e x) = true) (x : Option α) : noLst (eO e x) = true := by
  cases x with
  | none => rfl
  | some x => exact h x
theorem ns_p1 (h : ∀ x, noLst (e x) = true) (x : α) : noLst (eP1 e x) = true := by
  show (noLst (e x) && true) = true
  rw [h x]; rfl
theorem ns_p2 {f : β → PyData} (h : ∀ x, noLst (e x) = true) (h2 : ∀ x, noLst (f x) = true) (x : α × β) : noLst (eP2 e f x) = true := by
  show (noLst (e x.1) && (noLst (f x.2) && true)) = true
  rw [h, h2]; rfl
theorem ns_p3 {f : β → PyData} {g : γ → PyData} (h : ∀ x, noLst (e x) = true) (h2 : ∀ x, noLst (f x) = true) (h3 : ∀ x, noLst (g x) = true) (x : α × β × γ) : noLst (eP3 e f g x) = true := by
  show (noLst (e x.1) && (noLst (f x.2.1) && (noLst (g x.2.2) && true))) = true
  rw [h, h2, h3]; rfl

/-! ### ends -/
theorem ws_retM {ρ : Type} {v r : ρ} (h : some v = some r) (val : ρ → PyData) (M : ρ → Fv → Prop) (h1 : Ef P F k (val v) P1) (hM : ∀ e, Mat P1 e → M v e) (hk : isV k = false := by rfl) : Ws P (retF F) (RQ k (val r) (M r)) := by
  cases h
  exact ws_ret h1 hk hM
theorem ws_retU {ρ : Type} {v r : ρ} (h : some v = some r) (val : ρ → PyData) (M : ρ → Fv → Prop) (h1 : Ef P F k (val v) P1) (hM : ∀ e, Mat P1 e → M v e) (hk : isV k = false := by rfl) : Ws P (retF F) (RQ .u (val r) (M r)) :=
  (ws_retM h val M h1 hM hk).post fun _ _ q => q.to_u hk
theorem ws_retO {ρ : Type} {v r : ρ} {i : Nat} {ds : List PyData} (h : some v = some r) (val : ρ → PyData) (M : ρ → Fv → Prop) (h1 : nth P i = some (.own none ds)) (hv : .list ds = val v) (hM : ∀ e, Mat P e → M v e) : Ws P (retF (readF i)) (RQ .f (val r) (M r)) := by
  cases h
  rw [← hv]
  exact ws_retV h1 hM
theorem ws_retN {ρ : Type} {v r : ρ} {i : Nat} {ds : List PyData} (h : some v = some r) (val : ρ → PyData) (M : ρ → Fv → Prop) (h1 : nth P i = some (.lst ds)) (hv : .list ds = val v) (hM : ∀ e, Mat P e → M v e) : Ws P (retF (readF i)) (RQ .u (val r) (M r)) := by
  cases h
  rw [← hv]
  exact ws_retL h1 hM
theorem ws_flr {ρ σ : Type} {v : ρ} {fl : Fl ρ σ} {J : σ → List Pt} (h : some (Fl.rt v) = some fl) (val : ρ → PyData) (M : ρ → Fv → Prop) (g : ∀ r, some v = some r → Ws P A (RQ k (val r) (M r))) : Ws P A (FQ J (fun r => RQ k (val r) (M r)) fl) := by
  cases h
  exact (g v rfl).post fun _ _ q => ⟨q.1, q⟩
theorem nx_fin {σ : Type} {v s : σ} (J : σ → List Pt) (h : some v = some s) (hn : Nx P A P1) (l : Le P1 (J v)) : Nx P A (J s) := by
  cases h
  exact hn.le l
theorem cq_nx {σ : Type} {v s : σ} {J : σ → List Pt} (h : some v = some s) (l : Le P1 (J v)) (en : Fv) (m : Mat P1 en) : CQ (J s) .nx en := by
  cases h
  exact ⟨.inl rfl, l.mat m⟩
theorem cq_ct {σ : Type} {v s : σ} {J : σ → List Pt} (h : some v = some s) (l : Le P1 (J v)) (en : Fv) (m : Mat P1 en) : CQ (J s) .ct en := by
  cases h
  exact ⟨.inr rfl, l.mat m⟩
theorem fq_nx {ρ σ : Type} {v : σ} {fl : Fl ρ σ} {J : σ → List Pt} {rq : ρ → Out → Fv → Prop} (h : some (Fl.nx v) = some fl) (l : Le P1 (J v)) (en : Fv) (m : Mat P1 en) : FQ J rq fl .nx en := by
  cases h
  exact ⟨.inl rfl, l.mat m⟩
theorem fq_ct {ρ σ : Type} {v : σ} {fl : Fl ρ σ} {J : σ → List Pt} {rq : ρ → Out → Fv → Prop} (h : some (Fl.nx v) = some fl) (l : Le P1 (J v)) (en : Fv) (m : Mat P1 en) : FQ J rq fl .ct en := by
  cases h
  exact ⟨.inr rfl, l.mat m⟩
theorem fq_bk {ρ σ : Type} {v : σ} {fl : Fl ρ σ} {J : σ → List Pt} {rq : ρ → Out → Fv → Prop} (h : some (Fl.bk v) = some fl) (l : Le P1 (J v)) (en : Fv) (m : Mat P1 en) : FQ J rq fl .bk en := by
  cases h
  exact ⟨rfl, l.mat m⟩
def rsO {ρ σ β : Type} (r : Rs ρ σ) (kr : ρ → Option β) (kn : σ → Option β) : Option β := match r with
  | .rt v => kr v
  | .nx s => kn s
theorem rs_nx {ρ σ β : Type} {r : Rs ρ σ} {kr : ρ → Option β} {kn : σ → Option β} {b : β} {s : σ} (h : rsO r kr kn = some b) (hs : r = .nx s) : kn s = some b := by
  subst hs
  exact h
theorem rs_rt {ρ σ β : Type} {r : Rs ρ σ} {kr : ρ → Option β} {kn : σ → Option β} {b : β} {v : ρ} (h : rsO r kr kn = some b) (hs : r = .rt v) : kr v = some b := by
  subst hs
  exact h
theorem q_rt {ρ : Type} {v r : ρ} {q : ρ → Out → Fv → Prop} (h : some v = some r) {o : Out} {en : Fv} (hq : q v o en) : q r o en := by
  cases h
  exact hq
theorem q_flrt {ρ σ : Type} {v : ρ} {fl : Fl ρ σ} {J : σ → List Pt} {val : ρ → PyData} {M : ρ → Fv → Prop} (h : some (Fl.rt v) = some fl) {o : Out} {en : Fv} (hq : RQ k (val v) (M v) o en) : FQ J (fun r => RQ k (val r) (M r)) fl o en := by
  cases h
  exact ⟨hq.1, hq⟩
theorem no_nxF {ρ σ : Type} {J : σ → List Pt} {val : ρ → PyData} {M : ρ → Fv → Prop} {v : ρ} {fl : Fl ρ σ} (h : some (Fl.rt v) = some fl) (en : Fv) : ¬ FQ J (fun r => RQ k (val r) (M r)) fl .nx en := by
  cases h
  exact fun z => by obtain ⟨⟨_, z⟩, _⟩ := z; cases z
theorem ws_sapp {G : Mo Out} (q : ∀ e, A e = G e) (h : Ws P (seqF G B) Q) : Ws P (seqF A B) Q := fun en m => by
  obtain ⟨o, e', a, b⟩ := h en m
  refine ⟨o, e', ?_, b⟩
  rw [← a]
  simp only [seqF_app, bind_app, q]
/-- the block ends here -/
theorem ws_cut (h : Ws P A Q) (hn : ∀ o en, Q o en → o ≠ .nx) : Ws P (seqF A C) Q := ws_stop h fun en q => hn _ _ q rfl
theorem rq_cut {M : Fv → Prop} (o : Out) (en : Fv) (h : RQ k d M o en) : o ≠ .nx := by
  obtain ⟨⟨v, rfl⟩, _⟩ := h
  exact fun z => by cases z
/-! ### alike -/
def AlikeOk (f : List PyData → FnR) : Prop := ∀ d, Deepn 12 d → f [d, d] = .ok (.sh (.bool true))
open Classical in
/-- what _law_alike says of the same data -/
noncomputable def alk (a b : PyData) : Option Bool := if a = b ∧ Deepn 12 a then some true else none
theorem ret_alk {f : List PyData → FnR} (hf : AlikeOk f) {a b : PyData} {r : Bool} (h : alk a b = some r) : Ret f [a, b] .s (.bool r) := by
  unfold alk at h
  split at h <;> cases h
  rename_i hc
  obtain ⟨rfl, hd⟩ := hc
  exact ⟨_, hf a hd, rfl⟩
theorem alk_ok {a : PyData} (h : Deepn 12 a) : alk a a = some true := if_pos ⟨rfl, h⟩
theorem deep_t {n : Nat} {xs : List α} (hl : xs.length < 2 ^ 24) (h : ∀ x ∈ xs, Deepn n (e x)) : Deepn (n + 1) (eT e xs) := .tup (by rw [List.length_map]; exact hl) fun d hd => by
  obtain ⟨x, hx, rfl⟩ := List.mem_map.mp hd
  exact h x hx
theorem deep_l {n : Nat} {xs : List α} (hl : xs.length < 2 ^ 24) (h : ∀ x ∈ xs, Deepn n (e x)) : Deepn (n + 1) (eL e xs) := .lst (by rw [List.length_map]; exact hl) fun d hd => by
  obtain ⟨x, hx, rfl⟩ := List.mem_map.mp hd
  exact h x hx
end
end Cn
namespace Cn
open PySem PySem.Spec PyProof.Rows L2 Cf PySem.W
section
variable {σ α : Type} {P P' P1 P2 : List Pt} {F : Mo Rv} {T : Mo Bool} {k : Kd} {A : Mo Out} {Q : Out → Fv → Prop}
theorem eb_fin {v s : σ} (h : some v = some s) (val : σ → Bool) (J : σ → List Pt) (hE : Eb P T (val v) P1) (l : Le P1 (J v)) : Eb P T (val s) (J s) := by
  cases h
  intro e m
  obtain ⟨e', a, m'⟩ := hE e m
  exact ⟨e', a, l.mat m'⟩
theorem ef_fin {v s : σ} (h : some v = some s) (val : σ → PyData) (J : σ → List Pt) (hE : Ef P F k (val v) P1) (st : Stab k P1 (J v)) (l : Le P1 (J v)) : Ef P F k (val s) (J s) := by
  cases h
  exact hE.weak st l
theorem ws_never {r : α} (h : (none : Option α) = some r) : Ws P A Q := by cases h
theorem leN : Le [] [] := trivial
theorem leC {p q : Pt} (h : ∀ s, Fit p s → Fit q s) (g : Le P P') : Le (p :: P) (q :: P') := ⟨h, g⟩
theorem leR (h : P = P') : Le P P' := h ▸ Le.refl
theorem sz0 : ((0 : Nat) ≤ sizeLine) = True := eq_true (Nat.zero_le _)
end
end Cn
namespace Cn
open PySem PySem.Spec PyProof.Rows L2 Cf PySem.W
section
variable {σ α β γ : Type} {P P' P1 P2 : List Pt} {F F1 F2 : Mo Rv} {T : Mo Bool} {k : Kd} {d d1 d2 : PyData} {A : Mo Out} {Q : Out → Fv → Prop} {Fs : Mo (List Rv)} {ks : List Kd} {ds : List PyData} {e : α → PyData} {eb : β → PyData} {C B : Mo Bool} {S : List Pt}
/-! starred parts -/
def NoV (ks : List Kd) : Prop := ∀ k ∈ ks, isV k = false
theorem noV_nil : NoV [] := fun _ h => by cases h
theorem noV_cons {k : Kd} {ks : List Kd} (h : isV k = false) (g : NoV ks) : NoV (k :: ks) := fun x hx => by
  rcases List.mem_cons.mp hx with rfl | hx
  · exact h
  · exact g x hx
theorem noV_star {α : Type} {xs : List α} {ks : List Kd} (g : NoV ks) : NoV (xs.map (fun _ => Kd.s) ++ ks) := fun x hx => by
  rcases List.mem_append.mp hx with hx | hx
  · obtain ⟨_, _, rfl⟩ := List.mem_map.mp hx
    rfl
  · exact g x hx
theorem noV_frz : ∀ {ks : List Kd} {P : List Pt}, NoV ks → frzs ks P = P ∧ okKs ks P = true ∧ onceK ks = true
  | [], P, _ => ⟨rfl, rfl, rfl⟩
  | k :: ks, P, h => by
    have ih := noV_frz (ks := ks) (P := P) fun x hx => h x (by simp [hx])
    have hk := h k (by simp)
    cases k with
    | v i => cases hk
    | s => exact ⟨ih.1, by rw [okKs, ih.2.1]; rfl, ih.2.2⟩
    | f => exact ⟨ih.1, by rw [okKs, ih.2.1]; rfl, ih.2.2⟩
    | u => exact ⟨ih.1, by rw [okKs, ih.2.1]; rfl, ih.2.2⟩
theorem ef_tupS (h : Ea P Fs ks ds P') (nv : NoV ks) (hn : ds.length ≤ sizeLine) : Ef P (tupF Fs) .s (.tuple ds) P' := by
  have := noV_frz (P := P') nv
  have h2 := ef_tup h (eq_true hn) this.2.1 this.2.2
  rw [this.1] at h2
  exact h2
theorem ef_dispS (h : Ea P Fs ks ds P') (nv : NoV ks) (hn : ds.length ≤ sizeLine) : Ef P (lstF Fs) .f (.list ds) P' := by
  have := noV_frz (P := P') nv
  have h2 := ef_disp h (eq_true hn) this.2.1 this.2.2
  rw [this.1] at h2
  exact h2
def szN (xs : List α) : Option (List α) := if xs.length ≤ sizeLine then some xs else none
theorem szN_p {xs zs : List α} (h : szN xs = some zs) : zs = xs ∧ xs.length ≤ sizeLine := by
  unfold szN at h
  split at h <;> cases h
  exact ⟨rfl, by assumption⟩
theorem szN_ok {xs : List α} (h : xs.length ≤ 16000000) : szN xs = some xs := if_pos (Nat.le_trans h (by decide))
/-! -/
theorem Eb.le {b : Bool} (h : Eb P T b P1) (l : Le P1 P2) : Eb P T b P2 := fun e m => by
  obtain ⟨e', a, m'⟩ := h e m
  exact ⟨e', a, l.mat m'⟩
theorem Lb_if {PB PC : List Pt} {c : Bool} {o : Option β} (hc : Eb PB C c PC) (ht : c = true → ∃ y, o = some y ∧ ∃ k P2, Ef PC F k (eb y) P2 ∧ okK k P2 = true ∧ Le (frzK k P2) S) (hf : c = false → o = none ∧ Le PC S) : Lb PB C F eb o S := by
  cases c with
  | true =>
    obtain ⟨y, h1, k, P2, h2, h3, h4⟩ := ht rfl
    exact .inr ⟨y, h1, PC, hc, k, P2, h2, h3, h4⟩
  | false =>
    obtain ⟨h1, h2⟩ := hf rfl
    exact .inl ⟨h1, hc.le h2⟩
theorem LbS_some {PB PC : List Pt} {p : Option β × σ} {y : β} {s : σ} (h : some (some y, s) = some p) (hc : Eb PB C true PC) {S : σ → List Pt} (hf : Ef PC F k (eb y) P2) (ok : okK k P2 = true) (l : Le (frzK k P2) (S s)) : Lb PB C F eb p.1 (S p.2) := by
  cases h
  exact .inr ⟨y, rfl, PC, hc, k, P2, hf, ok, l⟩
theorem LbS_if {PB PC : List Pt} {p : Option β × σ} {c : Bool} {S : σ → List Pt} (hc : Eb PB C c PC) (ht : c = true → ∃ y s, p = (some y, s) ∧ ∃ k P2, Ef PC F k (eb y) P2 ∧ okK k P2 = true ∧ Le (frzK k P2) (S s)) (hf : c = false → ∃ s, p = (none, s) ∧ Le PC (S s)) : Lb PB C F eb p.1 (S p.2) := by
  cases c with
  | true =>
    obtain ⟨y, s, rfl, k, P2, h2, h3, h4⟩ := ht rfl
    exact .inr ⟨y, rfl, PC, hc, k, P2, h2, h3, h4⟩
  | false =>
    obtain ⟨s, rfl, h2⟩ := hf rfl
    exact .inl ⟨rfl, hc.le h2⟩
theorem Qb_val {PB PC : List Pt} {stop v b : Bool} (h : some v = some b) (hc : Eb PB C true PC) (hB : Eb PC B v P2) (l : Le P2 S) : Qb PB C B stop b S := by
  cases h
  exact .inr ⟨PC, hc, hB.le l⟩
theorem Qb_if {PB PC : List Pt} {stop c b : Bool} (hc : Eb PB C c PC) (ht : c = true → ∃ v, b = v ∧ ∃ P2, Eb PC B v P2 ∧ Le P2 S) (hf : c = false → b = (!stop) ∧ Le PC S) : Qb PB C B stop b S := by
  cases c with
  | true =>
    obtain ⟨v, rfl, P2, h1, h2⟩ := ht rfl
    exact .inr ⟨PC, hc, h1.le h2⟩
  | false => exact .inl ⟨(hf rfl).1, hc.le (hf rfl).2⟩
theorem nq_fin {v s : σ} (J : σ → List Pt) (h : some v = some s) (l : Le P1 (J v)) (en : Fv) (m : Mat P1 en) : NQ (J s) .nx en := by
  cases h
  exact ⟨rfl, l.mat m⟩
theorem cq_cut {J : List Pt} (o : Out) (en : Fv) (h : CQ J o en) (hc : o = .ct ∨ True) : o ≠ .nx ∨ True := .inr trivial
theorem int_b (b : Bool) : intG [.bool b] = some (.sh (.int (if b = true then 1 else 0 : Int))) := rfl
def itemsT (d : PyData) : Option (List PyData) := match d with
  | .tuple ds => some ds
  | .list ds => some ds
  | _ => none
theorem itemsT_t {d : PyData} {xs : List PyData} (h : itemsT d = some xs) : tupleG [d] = some (.sh (eT eA xs)) := by
  cases d <;> cases h <;> simp [eT]
theorem itemsT_l {d : PyData} {xs : List PyData} (h : itemsT d = some xs) : listG [d] = some (.fr (xs.map eA)) := by
  cases d <;> cases h <;> simp
theorem ef_call0 {f : List PyData → FnR} {d : PyData} (r : Ret f [] k d) (h : Ea P Fs [] [] P') : Ef P (callF 0 f Fs) k d P' := ef_call r h
theorem Lb_map {PB : List Pt} {y : β} (hf : Ef PB F k (eb y) P2) (ok : okK k P2 = true) (l : Le (frzK k P2) S) : Lb PB yesF F eb (some y) S := .inr ⟨y, rfl, PB, eb_yes, k, P2, hf, ok, l⟩
end
end Cn
namespace Cn
open PySem PySem.Spec PyProof.Rows L2 Cf PySem.W
section
variable {P : List Pt} {F : Mo Rv} {C : Mo Out} {Q : Out → Fv → Prop}
theorem ws_ctS (g : ∀ e, Mat P e → Q .ct e) : Ws P (seqF (pure .ct) C) Q := fun e m => ⟨.ct, e, rfl, g e m⟩
theorem ws_bkS (g : ∀ e, Mat P e → Q .bk e) : Ws P (seqF (pure .bk) C) Q := fun e m => ⟨.bk, e, rfl, g e m⟩
theorem ws_rtS (h : Ws P (retF F) Q) : Ws P (seqF (retF F) C) Q := fun e m => by
  obtain ⟨o, e1, a, q⟩ := h e m
  have : ∃ r, o = .rt r := by
    have a' := a
    rw [retF_app, bind_app] at a'
    cases z : (F e : Res Rv) with
    | ok r e2 => rw [z] at a'; simp at a'; exact ⟨r, a'.1.symm⟩
    | exc c e2 => rw [z] at a'; cases a'
    | stuck => rw [z] at a'; cases a'
  obtain ⟨r, rfl⟩ := this
  exact ⟨.rt r, e1, bo a rfl, q⟩
end
end Cn
namespace Cn
open PySem PySem.Spec PyProof.Rows L2 Cf PySem.W
theorem eo_n {P : List Pt} : Eo P none none := trivial
theorem eo_s {P : List Pt} {F : Mo Rv} {i : Int} (h : Ef P F .s (.int i) P) : Eo P (some F) (some i) := h
end Cn
/-! Cn, part G: reckoning with native steps. -/
namespace Cn
open PySem L2 Cf

section
variable {σ α β ρ : Type}
/-! ### draws -/
def takeN (p_draws : List Int) (p_bound : Int) : Option (Int × List Int) :=
  if (decide ((p_draws.length : Int) = 0)) = true then some (0, p_draws) else (popN p_draws).bind fun p => (modN p.1 p_bound).bind fun t => some (t, p.2)
theorem takeN_ex (ms : List Int) {b : Int} (hb : 0 < b) : ∃ (r : Int) (ms' : List Int), takeN ms b = some (r, ms') ∧ 0 ≤ r ∧ r < b := by
  cases hm : ms.getLast? with
  | none =>
    have : ms = [] := List.getLast?_eq_none_iff.mp hm
    subst this
    exact ⟨0, [], rfl, by omega, hb⟩
  | some x =>
    refine ⟨x % b, ms.dropLast, ?_, Int.emod_nonneg _ (by omega), Int.emod_lt_of_pos _ hb⟩
    have hne : ms ≠ [] := fun z => by rw [z] at hm; cases hm
    unfold takeN
    rw [if_neg (by simpa using hne)]
    simp [popN, hm, modN_pos hb]
/-! ### loops -/
@[simp] theorem forN_nil {step : σ → α → Option σ} {s : σ} : forN step s [] = some s := rfl
theorem forN_cons {step : σ → α → Option σ} {s : σ} {x : α} {xs : List α} : forN step s (x :: xs) = (step s x).bind fun s => forN step s xs := rfl
theorem forN_fold {step : σ → α → Option σ} (f : σ → α → σ) : ∀ {xs : List α} {s : σ}, (∀ s, ∀ x ∈ xs, step s x = some (f s x)) → forN step s xs = some (xs.foldl f s)
  | [], _, _ => rfl
  | x :: xs, s, h => by
    rw [forN_cons, h s x (by simp)]
    exact forN_fold f fun s y hy => h s y (by simp [hy])
theorem forN_app {step : σ → α → Option σ} : ∀ {xs ys : List α} {s : σ}, forN step s (xs ++ ys) = (forN step s xs).bind fun s => forN step s ys
  | [], _, _ => rfl
  | x :: xs, ys, s => by
    rw [List.cons_append, forN_cons, forN_cons]
    cases step s x with
    | none => rfl
    | some s1 => exact forN_app
theorem forN_inv {step : σ → α → Option σ} (J : Nat → σ → Prop) : ∀ {xs : List α} {k : Nat} {s : σ}, (∀ (i : Nat) (s : σ) (hi : i < xs.length), J (k + i) s → ∃ s', step s xs[i] = some s' ∧ J (k + i + 1) s') → J k s → ∃ s', forN step s xs = some s' ∧ J (k + xs.length) s'
  | [], k, s, _, h => ⟨s, rfl, h⟩
  | x :: xs, k, s, hs, h => by
    obtain ⟨s1, h1, h2⟩ := hs 0 s (by simp) h
    obtain ⟨s2, h3, h4⟩ := forN_inv J (xs := xs) (k := k + 1) (s := s1) (fun i s hi hj => by
      have := hs (i + 1) s (by simpa using hi) (by rw [show k + (i + 1) = k + 1 + i by omega]; exact hj)
      simpa [show k + (i + 1) = k + 1 + i by omega] using this) h2
    refine ⟨s2, ?_, by rw [List.length_cons, show k + (xs.length + 1) = k + 1 + xs.length by omega]; exact h4⟩
    rw [forN_cons, show step s x = some s1 from h1]
    exact h3
theorem forN_inv0 {step : σ → α → Option σ} (J : Nat → σ → Prop) {xs : List α} {s : σ} (hs : ∀ (i : Nat) (s : σ) (hi : i < xs.length), J i s → ∃ s', step s xs[i] = some s' ∧ J (i + 1) s') (h : J 0 s) : ∃ s', forN step s xs = some s' ∧ J xs.length s' := by
  obtain ⟨s', h1, h2⟩ := forN_inv J (xs := xs) (k := 0) (s := s) (fun i s hi hj => by simpa using hs i s hi (by simpa using hj)) h
  exact ⟨s', h1, by simpa using h2⟩
/-- a loop that never leaves early, if its turns do not -/
theorem forR_inv {step : σ → α → Option (Fl ρ σ)} (J : σ → Prop) : ∀ {xs : List α} {s : σ}, (∀ s, ∀ x ∈ xs, J s → ∃ s', step s x = some (.nx s') ∧ J s') → J s → ∃ s', forR step s xs = some (.nx s') ∧ J s'
  | [], s, _, h => ⟨s, rfl, h⟩
  | x :: xs, s, hs, h => by
    obtain ⟨s1, h1, h2⟩ := hs s x (by simp) h
    obtain ⟨s2, h3, h4⟩ := forR_inv J (xs := xs) (s := s1) (fun s y hy => hs s y (by simp [hy])) h2
    exact ⟨s2, by rw [forR, h1]; exact h3, h4⟩
/-! ### walks -/
def nats (n : Nat) : List Int := (List.range n).map fun (k : Nat) => (k : Int)
@[simp] theorem nats_length {n : Nat} : (nats n).length = n := by simp [nats]
@[simp] theorem nats_get {n i : Nat} (h : i < (nats n).length) : (nats n)[i] = (i : Int) := by simp [nats]
theorem mem_nats {n : Nat} {x : Int} : x ∈ nats n ↔ ∃ k : Nat, k < n ∧ x = (k : Int) := by
  simp only [nats, List.mem_map, List.mem_range]
  exact ⟨fun ⟨k, h, e⟩ => ⟨k, h, e.symm⟩, fun ⟨k, h, e⟩ => ⟨k, h, e.symm⟩⟩
theorem mem_nats' {n : Nat} {x : Int} : x ∈ nats n ↔ 0 ≤ x ∧ x < n := by
  rw [mem_nats]
  exact ⟨fun ⟨k, h, e⟩ => by omega, fun h => ⟨x.toNat, by omega, by omega⟩⟩
theorem nats_succ {n : Nat} : nats (n + 1) = nats n ++ [(n : Int)] := by simp [nats, List.range_succ]
theorem rng_nat {n : Nat} (h : n ≤ 1000000) : rng 0 (n : Int) = some (nats n) := by
  rw [rng_ok (by omega) (by omega) (by omega) (by omega)]
  simp [nats]
theorem rng_to {j : Int} (h0 : 0 ≤ j) (h : j ≤ 1000000) : rng 0 j = some (nats j.toNat) := by
  have := rng_nat (n := j.toNat) (by omega)
  rwa [show ((j.toNat : Nat) : Int) = j by omega] at this
theorem rng_1 {n : Nat} (h : n ≤ 1000000) : rng 1 (n : Int) = some ((List.range (n - 1)).map fun (k : Nat) => (1 + k : Int)) := by
  rw [rng_ok (by omega) (by omega) (by omega) (by omega)]
  rw [show ((n : Int) - 1).toNat = n - 1 by omega]
theorem atI_nth {xs : List α} {k : Nat} (h : k < xs.length) : atI xs (k : Int) = some xs[k] := by
  rw [atI_nat (by omega) (by omega)]
  simp [List.getElem?_eq_getElem h]
theorem atI_int {xs : List α} {i : Int} (h0 : 0 ≤ i) (h : i < xs.length) : atI xs i = some (xs[i.toNat]'(by omega)) := by
  rw [atI_nat h0 h]
  exact List.getElem?_eq_getElem _
theorem atI_last {xs : List α} : atI xs (-1) = xs.getLast? := by
  unfold atI ixN
  rw [if_neg (by omega)]
  cases xs with
  | nil => rfl
  | cons x xs =>
    rw [if_pos (by simp only [List.length_cons]; omega), List.getLast?_eq_getElem?]
    simp only [Option.bind_some]
    congr 1
    simp only [List.length_cons]
    omega
theorem cutN_take {xs : List α} {k : Nat} (h : k ≤ xs.length) : cutN xs none (some (k : Int)) = xs.take k := by
  unfold cutN
  rw [HT.sIx_nat, HT.sIx_none, Nat.min_eq_left h]
  simp
theorem cutN_drop {xs : List α} {k : Nat} (h : k ≤ xs.length) : cutN xs (some (k : Int)) none = xs.drop k := by
  unfold cutN
  rw [HT.sIx_nat, HT.sIx_none, Nat.min_eq_left h]
  exact List.take_of_length_le (by simp)
theorem cutN_init {xs : List α} : cutN xs none (some (-1)) = xs.dropLast := by
  unfold cutN
  rw [List.dropLast_eq_take, HT.sIx_none]
  show (xs.drop 0).take ((if (-1 : Int) < 0 then (-1 + (xs.length : Int)).toNat else min (-1 : Int).toNat xs.length) - 0) = _
  rw [if_pos (by omega), List.drop_zero]
  congr 1
  omega
theorem setN_nat {xs : List α} {k : Nat} {v : α} (h : k < xs.length) : setN xs (k : Int) v = some (xs.set k v) := by
  simp [setN, ixN, h]
/-! ### comprehensions -/
theorem cmp_ok {c : α → Bool} {b : α → β} {xs : List α} (h : xs.length ≤ 16000000) : cmp c b xs = some ((xs.filter c).map b) :=
  if_pos (Nat.le_trans (List.length_filter_le _ _) (Nat.le_trans h (by decide)))
theorem mapN_ok {b : α → β} {xs : List α} (h : xs.length ≤ 16000000) : mapN b xs = some (xs.map b) := if_pos (Nat.le_trans h (by decide))
theorem cmpO0_eq {f : α → Option (Option β)} (g : α → Option β) : ∀ {xs : List α}, (∀ x ∈ xs, f x = some (g x)) → cmpO0 f xs = some (xs.filterMap g)
  | [], _ => rfl
  | x :: xs, h => by
    rw [cmpO0, h x (by simp), cmpO0_eq g fun y hy => h y (by simp [hy])]
    cases hg : g x <;> simp [hg]
theorem cmpO_eq {f : α → Option (Option β)} (g : α → Option β) {xs : List α} (h : ∀ x ∈ xs, f x = some (g x)) (hl : xs.length ≤ 16000000) : cmpO f xs = some (xs.filterMap g) := by
  unfold cmpO
  rw [cmpO0_eq g h]
  exact if_pos (Nat.le_trans (List.length_filterMap_le _ _) (Nat.le_trans hl (by decide)))
theorem cmpO_map {f : α → Option (Option β)} (g : α → β) {xs : List α} (h : ∀ x ∈ xs, f x = some (some (g x))) (hl : xs.length ≤ 16000000) : cmpO f xs = some (xs.map g) := by
  rw [cmpO_eq (fun x => some (g x)) h hl]
  simp
theorem cmpO_filter {f : α → Option (Option α)} (c : α → Bool) {xs : List α} (h : ∀ x ∈ xs, f x = some (if c x = true then some x else none)) (hl : xs.length ≤ 16000000) : cmpO f xs = some (xs.filter c) := by
  rw [cmpO_eq (fun x => if c x = true then some x else none) h hl]
  congr 1
  clear h hl
  induction xs with
  | nil => rfl
  | cons x xs ih => cases hc : c x <;> simp [hc, ih]
theorem cmpO_nil {f : α → Option (Option β)} : ∀ {xs : List α}, (∀ x ∈ xs, f x = some none) → cmpO f xs = some [] := fun {xs} h => by
  have : cmpO0 f xs = some (xs.filterMap fun _ => (none : Option β)) := cmpO0_eq _ h
  unfold cmpO
  rw [this, List.filterMap_eq_nil_iff.mpr (by simp)]
  rfl
theorem cmpA_ex {f : σ → α → Option (Option β × σ)} (J : σ → Prop) (Q : α → Option β → Prop) : ∀ {xs : List α} {s : σ}, (∀ s, ∀ x ∈ xs, J s → ∃ o s', f s x = some (o, s') ∧ J s' ∧ Q x o) → J s → ∃ (os : List (Option β)) (s' : σ), cmpA f s xs = some (os.filterMap id, s') ∧ J s' ∧ os.length = xs.length ∧ ∀ i (h : i < xs.length) (h' : i < os.length), Q xs[i] os[i]
  | [], s, _, hJ => ⟨[], s, rfl, hJ, rfl, fun i h => absurd h (by simp)⟩
  | x :: xs, s, h, hJ => by
    obtain ⟨o, s1, h1, h2, h3⟩ := h s x (by simp) hJ
    obtain ⟨os, s2, h4, h5, h6, h7⟩ := cmpA_ex J Q (xs := xs) (s := s1) (fun s y hy => h s y (by simp [hy])) h2
    refine ⟨o :: os, s2, ?_, h5, by simp [h6], ?_⟩
    · rw [cmpA, h1]
      show ((cmpA f s1 xs).bind _) = _
      rw [h4]
      cases o <;> rfl
    · intro i hi hi'
      cases i with
      | zero => exact h3
      | succ i => exact h7 i (by simpa using hi) (by simpa using hi')
/-- a comprehension that draws: each item has what its draws say -/
theorem cmpS_ex {f : σ → α → Option (Option β × σ)} (J : σ → Prop) (Q : α → Option β → Prop) {xs : List α} {s : σ} (h : ∀ s, ∀ x ∈ xs, J s → ∃ o s', f s x = some (o, s') ∧ J s' ∧ Q x o) (hl : xs.length ≤ 16000000) (hJ : J s) :
    ∃ (os : List (Option β)) (s' : σ), cmpS f s xs = some (os.filterMap id, s') ∧ J s' ∧ os.length = xs.length ∧ ∀ i (h : i < xs.length) (h' : i < os.length), Q xs[i] os[i] := by
  obtain ⟨os, s', h1, h2, h3, h4⟩ := cmpA_ex J Q h hJ
  refine ⟨os, s', ?_, h2, h3, h4⟩
  unfold cmpS
  rw [h1]
  refine if_pos ?_
  have := List.length_filterMap_le id os
  have : (16000000 : Nat) ≤ sizeLine := by decide
  show (List.filterMap id os).length ≤ sizeLine
  omega
/-- each item a draw -/
theorem cmpS_all {f : σ → α → Option (Option β × σ)} (Q : β → Prop) {xs : List α} {s : σ} (h : ∀ s, ∀ x ∈ xs, ∃ y s', f s x = some (some y, s') ∧ Q y) (hl : xs.length ≤ 16000000) :
    ∃ (ys : List β) (s' : σ), cmpS f s xs = some (ys, s') ∧ ys.length = xs.length ∧ ∀ y ∈ ys, Q y := by
  obtain ⟨os, s', h1, _, h3, h4⟩ := cmpS_ex (J := fun _ => True) (Q := fun _ o => ∃ y, o = some y ∧ Q y) (fun s x hx _ => by
    obtain ⟨y, s', a, b⟩ := h s x hx
    exact ⟨_, s', a, trivial, y, rfl, b⟩) hl trivial (s := s) (xs := xs)
  have key : ∀ (os : List (Option β)), (∀ i (h : i < os.length), ∃ y, os[i] = some y ∧ Q y) → (os.filterMap id).length = os.length ∧ ∀ y ∈ os.filterMap id, Q y := by
    intro os
    induction os with
    | nil => intro _; exact ⟨rfl, by simp⟩
    | cons o os ih =>
      intro h
      obtain ⟨y, e, q⟩ := h 0 (by simp)
      obtain ⟨i1, i2⟩ := ih fun i hi => h (i + 1) (Nat.succ_lt_succ hi)
      simp only [List.getElem_cons_zero] at e
      subst e
      refine ⟨by simp [i1], ?_⟩
      intro z hz
      simp only [id, List.filterMap_cons, List.mem_cons] at hz
      rcases hz with rfl | hz
      · exact q
      · exact i2 z hz
  obtain ⟨k1, k2⟩ := key os fun i hi => h4 i (h3 ▸ hi) hi
  exact ⟨_, s', h1, by rw [k1, h3], k2⟩
/-- each item stays or goes by its draw -/
theorem cmpS_some {f : σ → α → Option (Option α × σ)} {xs : List α} {s : σ} (h : ∀ s, ∀ x ∈ xs, ∃ (b : Bool) (s' : σ), f s x = some (if b = true then some x else none, s')) (hl : xs.length ≤ 16000000) :
    ∃ (ys : List α) (s' : σ), cmpS f s xs = some (ys, s') ∧ ys.Sublist xs := by
  obtain ⟨os, s', h1, _, h3, h4⟩ := cmpS_ex (J := fun _ => True) (Q := fun x o => o = some x ∨ o = none) (fun s x hx _ => by
    obtain ⟨b, s', a⟩ := h s x hx
    cases b
    · exact ⟨_, s', a, trivial, .inr rfl⟩
    · exact ⟨_, s', a, trivial, .inl rfl⟩) hl trivial (s := s) (xs := xs)
  refine ⟨_, s', h1, ?_⟩
  clear h1 h hl
  induction os generalizing xs with
  | nil => exact List.nil_sublist _
  | cons o os ih =>
    cases xs with
    | nil => cases h3
    | cons x xs =>
      have h0 := h4 0 (by simp) (by simp)
      have := ih (by simpa using h3) fun i h h' => h4 (i + 1) (Nat.succ_lt_succ h) (Nat.succ_lt_succ h')
      simp only [List.getElem_cons_zero] at h0
      rcases h0 with h0 | h0 <;> subst h0
      · simpa using this
      · simpa using this.cons x
theorem allO_eq {f : α → Option Bool} (p : α → Bool) : ∀ {xs : List α}, (∀ x ∈ xs, f x = some (p x)) → allO f xs = some (xs.all p)
  | [], _ => rfl
  | x :: xs, h => by
    rw [allO, h x (by simp), allO_eq p fun y hy => h y (by simp [hy])]
    cases hp : p x <;> simp [hp]
theorem anyO_eq {f : α → Option Bool} (p : α → Bool) : ∀ {xs : List α}, (∀ x ∈ xs, f x = some (p x)) → anyO f xs = some (xs.any p)
  | [], _ => rfl
  | x :: xs, h => by
    rw [anyO, h x (by simp), anyO_eq p fun y hy => h y (by simp [hy])]
    cases hp : p x <;> simp [hp]
theorem allO_true {f : α → Option Bool} : ∀ {xs : List α}, (∀ x ∈ xs, f x = some true) → allO f xs = some true := fun h => by
  rw [allO_eq (fun _ => true) h]
  simp
/-! ### order -/
structure LtOk (lt : α → α → Bool) : Prop where
  irr : ∀ a, lt a a = false
  tr : ∀ a b c, lt a b = true → lt b c = true → lt a c = true
  tot : ∀ a b, lt a b = true ∨ a = b ∨ lt b a = true
theorem LtOk.asym {lt : α → α → Bool} (o : LtOk lt) {a b : α} (h : lt a b = true) : lt b a = false := by
  cases q : lt b a with
  | false => rfl
  | true => rw [← o.irr a, o.tr a b a h q]
theorem LtOk.anti {lt : α → α → Bool} (o : LtOk lt) {a b : α} (h : lt a b = false) (g : lt b a = false) : a = b := by
  rcases o.tot a b with z | z | z
  · rw [h] at z; cases z
  · exact z
  · rw [g] at z; cases z
theorem LtOk.trN {lt : α → α → Bool} (o : LtOk lt) {a b c : α} (h : lt b a = false) (g : lt c b = false) : lt c a = false := by
  cases q : lt c a with
  | false => rfl
  | true =>
    rcases o.tot a b with z | z | z
    · rw [o.tr c a b q z] at g; cases g
    · subst z; rw [q] at g; cases g
    · rw [h] at z; cases z
theorem ltI_ok : LtOk ltI := ⟨fun a => by simp [ltI], fun a b c => by simp [ltI]; omega, fun a b => by simp [ltI]; omega⟩
theorem ltP_ok [DecidableEq α] {l : α → α → Bool} {m : β → β → Bool} (h : LtOk l) (k : LtOk m) : LtOk (ltP l m) where
  irr a := by simp [ltP, k.irr]
  tr a b c h1 h2 := by
    unfold ltP at *
    by_cases e1 : a.1 = b.1
    · rw [if_pos e1] at h1
      by_cases e2 : b.1 = c.1
      · rw [if_pos e2] at h2
        rw [if_pos (e1.trans e2)]
        exact k.tr _ _ _ h1 h2
      · rw [if_neg e2] at h2
        rw [if_neg (e1 ▸ e2), e1]
        exact h2
    · rw [if_neg e1] at h1
      by_cases e2 : b.1 = c.1
      · rw [if_pos e2] at h2
        rw [if_neg (e2 ▸ e1), ← e2]
        exact h1
      · rw [if_neg e2] at h2
        have h3 := h.tr _ _ _ h1 h2
        rw [if_neg (fun z => by rw [z, h.irr] at h3; cases h3)]
        exact h3
  tot a b := by
    unfold ltP
    by_cases e : a.1 = b.1
    · rw [if_pos e, if_pos e.symm]
      rcases k.tot a.2 b.2 with z | z | z
      · exact .inl z
      · exact .inr (.inl (Prod.ext e z))
      · exact .inr (.inr z)
    · rw [if_neg e, if_neg (Ne.symm e)]
      rcases h.tot a.1 b.1 with z | z | z
      · exact .inl z
      · exact absurd z e
      · exact .inr (.inr z)
theorem ltL_ok [DecidableEq α] {l : α → α → Bool} (h : LtOk l) : LtOk (ltL l) where
  irr a := by induction a with
    | nil => rfl
    | cons x xs ih => simp [ltL, ih]
  tr a b c h1 h2 := by
    induction a generalizing b c with
    | nil =>
      cases b with
      | nil => cases h1
      | cons y ys => cases c with
        | nil => cases h2
        | cons z zs => rfl
    | cons x xs ih =>
      cases b with
      | nil => cases h1
      | cons y ys => cases c with
        | nil => cases h2
        | cons z zs =>
          rw [ltL] at h1 h2 ⊢
          by_cases e1 : x = y
          · rw [if_pos e1] at h1
            by_cases e2 : y = z
            · rw [if_pos e2] at h2
              rw [if_pos (e1.trans e2)]
              exact ih _ _ h1 h2
            · rw [if_neg e2] at h2
              rw [if_neg (e1 ▸ e2), e1]
              exact h2
          · rw [if_neg e1] at h1
            by_cases e2 : y = z
            · rw [if_pos e2] at h2
              rw [if_neg (e2 ▸ e1), ← e2]
              exact h1
            · rw [if_neg e2] at h2
              have h3 := h.tr _ _ _ h1 h2
              rw [if_neg (fun z => by rw [z, h.irr] at h3; cases h3)]
              exact h3
  tot a b := by
    induction a generalizing b with
    | nil => cases b with
      | nil => exact .inr (.inl rfl)
      | cons y ys => exact .inl rfl
    | cons x xs ih => cases b with
      | nil => exact .inr (.inr rfl)
      | cons y ys =>
        rw [ltL, ltL]
        by_cases e : x = y
        · rw [if_pos e, if_pos e.symm]
          rcases ih ys with z | z | z
          · exact .inl z
          · exact .inr (.inl (by rw [e, z]))
          · exact .inr (.inr z)
        · rw [if_neg e, if_neg (Ne.symm e)]
          rcases h.tot x y with z | z | z
          · exact .inl z
          · exact absurd z e
          · exact .inr (.inr z)
theorem minB_spec {lt : α → α → Bool} (o : LtOk lt) : ∀ (xs : List α) (x : α), minB lt x xs ∈ x :: xs ∧ ∀ y ∈ x :: xs, lt y (minB lt x xs) = false
  | [], x => ⟨by simp [minB], fun y hy => by
    simp at hy
    subst hy
    exact o.irr _⟩
  | z :: xs, x => by
    have ih := minB_spec o xs (if lt z x = true then z else x)
    have e : minB lt x (z :: xs) = minB lt (if lt z x = true then z else x) xs := rfl
    rw [e]
    have hm := ih.2 (if lt z x = true then z else x) (by simp)
    refine ⟨?_, fun y hy => ?_⟩
    · rcases List.mem_cons.mp ih.1 with h | h
      · rw [h]
        split <;> simp
      · simp [h]
    · rcases List.mem_cons.mp hy with rfl | hy
      · by_cases q : lt z y = true
        · rw [if_pos q] at hm ⊢
          exact o.trN hm (o.asym q)
        · rw [if_neg q] at hm ⊢
          exact hm
      · rcases List.mem_cons.mp hy with rfl | hy
        · by_cases q : lt y x = true
          · rw [if_pos q] at hm ⊢
            exact hm
          · rw [if_neg q] at hm ⊢
            exact o.trN hm (by simpa using q)
        · exact ih.2 y (by simp [hy])
theorem minN_eq {lt : α → α → Bool} (o : LtOk lt) {xs : List α} {m : α} (h : m ∈ xs) (hm : ∀ y ∈ xs, lt y m = false) : minN lt xs = some m := by
  cases xs with
  | nil => cases h
  | cons x xs =>
    have s := minB_spec o xs x
    show some _ = _
    rw [o.anti (hm _ s.1) (s.2 _ h)]
theorem minN_some {lt : α → α → Bool} (o : LtOk lt) {xs : List α} (h : xs ≠ []) : ∃ m, minN lt xs = some m ∧ m ∈ xs ∧ ∀ y ∈ xs, lt y m = false := by
  cases xs with
  | nil => exact absurd rfl h
  | cons x xs => exact ⟨_, rfl, minB_spec o xs x⟩
theorem LtOk.flip {lt : α → α → Bool} (o : LtOk lt) : LtOk (fun a b => lt b a) := ⟨o.irr, fun a b c h g => o.tr c b a g h, fun a b => by
  rcases o.tot a b with z | z | z
  · exact .inr (.inr z)
  · exact .inr (.inl z)
  · exact .inl z⟩
theorem maxN_min {lt : α → α → Bool} (xs : List α) : maxN lt xs = minN (fun a b => lt b a) xs := by
  cases xs <;> rfl
theorem maxN_eq {lt : α → α → Bool} (o : LtOk lt) {xs : List α} {m : α} (h : m ∈ xs) (hm : ∀ y ∈ xs, lt m y = false) : maxN lt xs = some m := by
  rw [maxN_min]
  exact minN_eq o.flip h hm
theorem maxN_some {lt : α → α → Bool} (o : LtOk lt) {xs : List α} (h : xs ≠ []) : ∃ m, maxN lt xs = some m ∧ m ∈ xs ∧ ∀ y ∈ xs, lt m y = false := by
  rw [maxN_min]
  exact minN_some o.flip h
theorem sortN_perm {lt : α → α → Bool} (xs : List α) : (sortN lt xs).Perm xs := List.mergeSort_perm _ _
theorem sortN_sorted {lt : α → α → Bool} (o : LtOk lt) (xs : List α) : (sortN lt xs).Pairwise fun a b => lt b a = false := by
  have := List.pairwise_mergeSort (le := fun a b => !lt b a) (fun a b c h g => by
    simp only [Bool.not_eq_true'] at h g ⊢
    exact o.trN h g) (fun a b => by
    cases q : lt b a with
    | false => rfl
    | true => simp [o.asym q]) xs
  exact this.imp fun h => by simpa using h
theorem sortN_eq {lt : α → α → Bool} (o : LtOk lt) {xs ys : List α} (h : ys.Perm xs) (hs : ys.Pairwise fun a b => lt b a = false) : sortN lt xs = ys := by
  refine List.Perm.eq_of_pairwise (le := fun a b => lt b a = false) (fun a b _ _ h g => (o.anti g h)) (sortN_sorted o xs) hs ((sortN_perm xs).trans h.symm)
end
end Cn
namespace Cn
open PySem L2 Cf
section
variable {α : Type}
theorem cutN_dropA {xs : List α} {k : Nat} : cutN xs (some (k : Int)) none = xs.drop k := by
  unfold cutN
  rw [HT.sIx_nat, HT.sIx_none]
  rcases Nat.le_total k xs.length with h | h
  · rw [Nat.min_eq_left h]
    exact List.take_of_length_le (by simp)
  · rw [Nat.min_eq_right h, List.drop_of_length_le h]
    simp
theorem cutN_takeA {xs : List α} {k : Nat} : cutN xs none (some (k : Int)) = xs.take k := by
  unfold cutN
  rw [HT.sIx_nat, HT.sIx_none]
  rcases Nat.le_total k xs.length with h | h
  · rw [Nat.min_eq_left h]
    simp
  · rw [Nat.min_eq_right h, List.take_of_length_le h]
    simp
theorem cutN_1 {xs : List α} : cutN xs (some 1) none = xs.drop 1 := cutN_dropA (k := 1)
/-- neighbours -/
theorem adj_pair {R : α → α → Bool} (tr : ∀ a b c, R a b = true → R b c = true → R a c = true) : ∀ {xs : List α}, (∀ (k : Nat) (h : k + 1 < xs.length), R xs[k] xs[k + 1] = true) → xs.Pairwise fun a b => R a b = true
  | [], _ => .nil
  | [x], _ => by simp
  | x :: y :: xs, h => by
    have ih := adj_pair tr (xs := y :: xs) fun k hk => h (k + 1) (by simpa using hk)
    have h0 : R x y = true := h 0 (by simp)
    refine .cons (fun z hz => ?_) ih
    rcases List.mem_cons.mp hz with rfl | hz
    · exact h0
    · exact tr _ _ _ h0 ((List.pairwise_cons.mp ih).1 z hz)
open Classical in
theorem allO_adj {R : α → α → Bool} (tr : ∀ a b c, R a b = true → R b c = true → R a c = true) {xs : List α} {f : Int → Option Bool} (hf : ∀ (k : Nat) (h : k + 1 < xs.length), f (1 + (k : Int)) = some (R xs[k] xs[k + 1])) :
    allO f ((List.range (xs.length - 1)).map fun (k : Nat) => (1 + k : Int)) = some (decide (xs.Pairwise fun a b => R a b = true)) := by
  have h1 : ∀ x ∈ (List.range (xs.length - 1)).map (fun (k : Nat) => (1 + k : Int)), f x = some (decide (∃ (k : Nat) (h : k + 1 < xs.length), x = 1 + (k : Int) ∧ R xs[k] xs[k + 1] = true)) := fun x hx => by
    obtain ⟨k, hk, rfl⟩ := List.mem_map.mp hx
    have hk' : k + 1 < xs.length := by have := List.mem_range.mp hk; omega
    rw [hf k hk']
    congr 1
    rw [Bool.eq_iff_iff, decide_eq_true_eq]
    constructor
    · exact fun h => ⟨k, hk', rfl, h⟩
    · rintro ⟨j, hj, e, h⟩
      have : j = k := by omega
      subst this
      exact h
  rw [allO_eq _ h1]
  congr 1
  rw [Bool.eq_iff_iff, List.all_eq_true, decide_eq_true_eq]
  constructor
  · intro h
    refine adj_pair tr fun k hk => ?_
    have := h (1 + (k : Int)) (List.mem_map.mpr ⟨k, List.mem_range.mpr (by omega), rfl⟩)
    rw [decide_eq_true_eq] at this
    obtain ⟨j, hj, e, h⟩ := this
    have : j = k := by omega
    subst this
    exact h
  · intro h x hx
    obtain ⟨k, hk, rfl⟩ := List.mem_map.mp hx
    have hk' : k + 1 < xs.length := by have := List.mem_range.mp hk; omega
    rw [decide_eq_true_eq]
    exact ⟨k, hk', rfl, List.pairwise_iff_getElem.mp h k (k + 1) (by omega) hk' (by omega)⟩
end
end Cn
namespace Cn
open PySem L2 Cf
/-- downwards -/
theorem rng3_down {n : Nat} (h : n ≤ 1000000) : rng3 ((n : Int) - 1) (-1) (-1) = some ((List.range n).map fun k : Nat => (n : Int) - 1 + (k : Int) * (-1)) := by
  have hs : Builtin.Range.rangeSize ((n : Int) - 1) (-1) (-1) = (n : Int) := by
    rw [PySem.W.rangeSize_downNat]
    omega
  unfold rng3
  rw [if_pos, hs, Int.toNat_natCast]
  unfold range3Ok
  rw [hide_eq, hs]
  have := PySem.W.small_down (a := (n : Int) - 1) (b := -1) (by omega) (by omega) (by omega) (by omega)
  simp [this]
end Cn
namespace Cn
open PySem L2 Cf
section
variable {α β : Type}
theorem flat1 {n : Nat} {x : α} : (List.replicate n [x]).flatten = List.replicate n x := by
  induction n with
  | zero => rfl
  | succ n ih => rw [List.replicate_succ, List.flatten_cons, ih]; rfl
theorem repN1 {x : α} {n : Int} (h0 : n ≤ 10000) (h1 : -10000 ≤ n) : repN [x] n = some (List.replicate n.toNat x) := by
  rw [repN_ok h0 h1 (by simp), flat1]
theorem repT1 {x : α} {n : Int} (h0 : 1 ≤ n) (h1 : n ≤ 1000) : repT [x] n = some (List.replicate n.toNat x) := by
  unfold repT
  rw [if_pos ⟨by simp, h0, h1, by simp⟩, flat1]
theorem cmpO_if {f : α → Option (Option β)} (c : α → Bool) (b : α → β) {xs : List α} (h : ∀ x ∈ xs, f x = some (if c x = true then some (b x) else none)) (hl : xs.length ≤ 16000000) : cmpO f xs = some ((xs.filter c).map b) := by
  rw [cmpO_eq (fun x => if c x = true then some (b x) else none) h hl]
  congr 1
  clear h hl
  induction xs with
  | nil => rfl
  | cons x xs ih => cases hc : c x <;> simp [hc, ih]
end
end Cn
/-! K61: each def as a function of data (printed by gen.py) -/
namespace Lw
open PySem PySem.Spec PyProof.Rows L2 Cf
def topS (i : Nat) : Stmt := PySem.Challenge.pw_coastlit_k61_whole_shifts_of_a_night.main.body.getD i (.Pass ⟨0, 0, 0, 0⟩)
abbrev s_is_number : Stmt := topS 1
abbrev N_is_number : List Str := ["value", "least", "most"]
theorem sc_is_number : FnScope N_is_number ["value", "least", "most"] (defScope s_is_number) := ⟨rfl, rfl, rfl, by decide +kernel, rfl, by decide +kernel, by decide +kernel⟩
noncomputable def B_is_number : Mo Out :=
  retF (ofB (andF (isF "int" (readF 0)) (andF (notF (isF "bool" (readF 0))) (boolF (chainF leX leX (readF 1) (readF 0) (readF 2))))))
noncomputable def f_is_number : List PyData → FnR := hide (runF 3 B_is_number)
theorem f_is_number_eq : f_is_number = runF 3 B_is_number := by unfold f_is_number; rw [hide_eq]
abbrev s_is_night : Stmt := topS 6
abbrev N_is_night : List Str := ["value"]
theorem sc_is_night : FnScope N_is_night ["value"] (defScope s_is_night) := ⟨rfl, rfl, rfl, by decide +kernel, rfl, by decide +kernel, by decide +kernel⟩
abbrev N_G_is_night_1 : List Str := ["one"]
theorem nd_G_is_night_1 : N_G_is_night_1.Nodup := by decide +kernel
noncomputable def Z_is_night_1 : Mo Bool := hide <|
  quantF false [] 1 (pkI (binF itemG (readF 0) (constF (.int 0)))) (toSlot 0) (yesF) (boolF (callF 3 f_is_number (consF (readF 0) (consF (constF (.int 0)) (consF (constF (.int 5)) (nilF))))))
theorem Z_is_night_1_app (e : Fv) : Z_is_night_1 e = (quantF false [] 1 (pkI (binF itemG (readF 0) (constF (.int 0)))) (toSlot 0) (yesF) (boolF (callF 3 f_is_number (consF (readF 0) (consF (constF (.int 0)) (consF (constF (.int 5)) (nilF))))))) e := by unfold Z_is_night_1; rw [hide_eq]
noncomputable def B_is_night : Mo Out :=
  seqF (ifF (orF (notF (isF "tuple" (readF 0))) (orF (boolF (binF neG (callBF lenG (consF (readF 0) (nilF))) (constF (.int 2)))) (notF (truthF (callF 3 f_is_number (consF (binF itemG (readF 0) (constF (.int 1))) (consF (constF (.int 1)) (consF (constF (.int 6)) (nilF))))))))) (retF (constF (.bool false))) (skipF))
    (seqF (ifF (orF (notF (isF "tuple" (binF itemG (readF 0) (constF (.int 0))))) (notF (boolF (chainF leX leX (constF (.int 1)) (callBF lenG (consF (binF itemG (readF 0) (constF (.int 0))) (nilF))) (constF (.int 12)))))) (retF (constF (.bool false))) (skipF))
    (retF (ofB (Z_is_night_1))))
noncomputable def f_is_night : List PyData → FnR := hide (runF 1 B_is_night)
theorem f_is_night_eq : f_is_night = runF 1 B_is_night := by unfold f_is_night; rw [hide_eq]
abbrev s_awake_in : Stmt := topS 7
abbrev N_awake_in : List Str := ["night", "begins", "hour", "begin"]
theorem sc_awake_in : FnScope N_awake_in ["night", "begins", "hour"] (defScope s_awake_in) := ⟨rfl, rfl, rfl, by decide +kernel, rfl, by decide +kernel, by decide +kernel⟩
noncomputable def Q_awake_in_1 : Mo Rv := hide <|
  lcF [3] (seqI (readF 1)) (toSlot 3) (boolF (chainF leX ltX (readF 3) (readF 2) (binF addG (readF 3) (binF itemG (readF 0) (constF (.int 1)))))) (readF 3)
theorem Q_awake_in_1_app (e : Fv) : Q_awake_in_1 e = (lcF [3] (seqI (readF 1)) (toSlot 3) (boolF (chainF leX ltX (readF 3) (readF 2) (binF addG (readF 3) (binF itemG (readF 0) (constF (.int 1)))))) (readF 3)) e := by unfold Q_awake_in_1; rw [hide_eq]
noncomputable def B_awake_in : Mo Out :=
  retF (callBF lenG (consF (Q_awake_in_1) (nilF)))
noncomputable def f_awake_in : List PyData → FnR := hide (runF 4 B_awake_in)
theorem f_awake_in_eq : f_awake_in = runF 4 B_awake_in := by unfold f_awake_in; rw [hide_eq]
abbrev s_is_rota : Stmt := topS 8
abbrev N_is_rota : List Str := ["night", "value", "needs"]
theorem sc_is_rota : FnScope N_is_rota ["night", "value"] (defScope s_is_rota) := ⟨rfl, rfl, rfl, by decide +kernel, rfl, by decide +kernel, by decide +kernel⟩
abbrev N_G_is_rota_1 : List Str := ["needs", "one"]
theorem nd_G_is_rota_1 : N_G_is_rota_1.Nodup := by decide +kernel
abbrev N_G_is_rota_2 : List Str := ["value", "at"]
theorem nd_G_is_rota_2 : N_G_is_rota_2.Nodup := by decide +kernel
abbrev N_G_is_rota_3 : List Str := ["night", "value", "hour", "need"]
theorem nd_G_is_rota_3 : N_G_is_rota_3.Nodup := by decide +kernel
noncomputable def Z_is_rota_1 : Mo Bool := hide <|
  quantF false [2] 1 (pkI (readF 1)) (toSlot 1) (yesF) (boolF (callF 3 f_is_number (consF (readF 1) (consF (constF (.int 0)) (consF (binF subG (callBF lenG (consF (readF 0) (nilF))) (constF (.int 1))) (nilF))))))
theorem Z_is_rota_1_app (e : Fv) : Z_is_rota_1 e = (quantF false [2] 1 (pkI (readF 1)) (toSlot 1) (yesF) (boolF (callF 3 f_is_number (consF (readF 1) (consF (constF (.int 0)) (consF (binF subG (callBF lenG (consF (readF 0) (nilF))) (constF (.int 1))) (nilF))))))) e := by unfold Z_is_rota_1; rw [hide_eq]
noncomputable def Z_is_rota_2 : Mo Bool := hide <|
  quantF false [1] 1 (range2I (consF (constF (.int 1)) (consF (callBF lenG (consF (readF 1) (nilF))) (nilF)))) (toSlot 1) (yesF) (boolF (binF leX (binF itemG (readF 0) (binF subG (readF 1) (constF (.int 1)))) (binF itemG (readF 0) (readF 1))))
theorem Z_is_rota_2_app (e : Fv) : Z_is_rota_2 e = (quantF false [1] 1 (range2I (consF (constF (.int 1)) (consF (callBF lenG (consF (readF 1) (nilF))) (nilF)))) (toSlot 1) (yesF) (boolF (binF leX (binF itemG (readF 0) (binF subG (readF 1) (constF (.int 1)))) (binF itemG (readF 0) (readF 1))))) e := by unfold Z_is_rota_2; rw [hide_eq]
noncomputable def Z_is_rota_3 : Mo Bool := hide <|
  quantF false [0, 1] 2 (enumI (readF 2)) (toTup 2 (toCons (toSlot 2) (toCons (toSlot 3) (toNil)))) (yesF) (boolF (binF geX (callF 3 f_awake_in (consF (readF 0) (consF (readF 1) (consF (readF 2) (nilF))))) (readF 3)))
theorem Z_is_rota_3_app (e : Fv) : Z_is_rota_3 e = (quantF false [0, 1] 2 (enumI (readF 2)) (toTup 2 (toCons (toSlot 2) (toCons (toSlot 3) (toNil)))) (yesF) (boolF (binF geX (callF 3 f_awake_in (consF (readF 0) (consF (readF 1) (consF (readF 2) (nilF))))) (readF 3)))) e := by unfold Z_is_rota_3; rw [hide_eq]
noncomputable def B_is_rota : Mo Out :=
  seqF (setF 2 (binF itemG (readF 0) (constF (.int 0))))
    (seqF (ifF (orF (notF (isF "tuple" (readF 1))) (notF (Z_is_rota_1))) (retF (constF (.bool false))) (skipF))
    (seqF (ifF (notF (Z_is_rota_2)) (retF (constF (.bool false))) (skipF))
    (retF (ofB (Z_is_rota_3)))))
noncomputable def f_is_rota : List PyData → FnR := hide (runF 3 B_is_rota)
theorem f_is_rota_eq : f_is_rota = runF 3 B_is_rota := by unfold f_is_rota; rw [hide_eq]
abbrev s_fewest_shifts : Stmt := topS 9
abbrev N_fewest_shifts : List Str := ["night", "found", "hour", "need", "lacks"]
theorem sc_fewest_shifts : FnScope N_fewest_shifts ["night"] (defScope s_fewest_shifts) := ⟨rfl, rfl, rfl, by decide +kernel, rfl, by decide +kernel, by decide +kernel⟩
noncomputable def L_fewest_shifts_1 : Mo Out := hide <|
  seqF (setF 4 (binF subG (readF 3) (callB 3 f_awake_in (consF (readF 0) (consF (readF 1) (consF (readF 2) (nilF)))))))
    (dropF (extendF 1 (binF mulG (lstF (consF (readF 2) (nilF))) (callBF max2X (consF (constF (.int 0)) (consF (readF 4) (nilF)))))))
theorem L_fewest_shifts_1_app (e : Fv) : L_fewest_shifts_1 e = (seqF (setF 4 (binF subG (readF 3) (callB 3 f_awake_in (consF (readF 0) (consF (readF 1) (consF (readF 2) (nilF)))))))
    (dropF (extendF 1 (binF mulG (lstF (consF (readF 2) (nilF))) (callBF max2X (consF (constF (.int 0)) (consF (readF 4) (nilF)))))))) e := by unfold L_fewest_shifts_1; rw [hide_eq]
noncomputable def B_fewest_shifts : Mo Out :=
  seqF (setF 1 (lstF (nilF)))
    (seqF (forF (enumI (binF itemG (readF 0) (constF (.int 0)))) (toTup 2 (toCons (toSlot 2) (toCons (toSlot 3) (toNil)))) (L_fewest_shifts_1))
    (retF (callBF tupleG (consF (readF 1) (nilF)))))
noncomputable def f_fewest_shifts : List PyData → FnR := hide (runF 5 B_fewest_shifts)
theorem f_fewest_shifts_eq : f_fewest_shifts = runF 5 B_fewest_shifts := by unfold f_fewest_shifts; rw [hide_eq]
abbrev s_are_apart : Stmt := topS 10
abbrev N_are_apart : List Str := ["night", "value", "long", "needs"]
theorem sc_are_apart : FnScope N_are_apart ["night", "value"] (defScope s_are_apart) := ⟨rfl, rfl, rfl, by decide +kernel, rfl, by decide +kernel, by decide +kernel⟩
abbrev N_G_are_apart_1 : List Str := ["needs", "one"]
theorem nd_G_are_apart_1 : N_G_are_apart_1.Nodup := by decide +kernel
abbrev N_G_are_apart_2 : List Str := ["long", "value", "at"]
theorem nd_G_are_apart_2 : N_G_are_apart_2.Nodup := by decide +kernel
noncomputable def Z_are_apart_1 : Mo Bool := hide <|
  quantF false [3] 1 (pkI (readF 1)) (toSlot 1) (yesF) (boolF (callF 3 f_is_number (consF (readF 1) (consF (constF (.int 0)) (consF (binF subG (callBF lenG (consF (readF 0) (nilF))) (constF (.int 1))) (nilF))))))
theorem Z_are_apart_1_app (e : Fv) : Z_are_apart_1 e = (quantF false [3] 1 (pkI (readF 1)) (toSlot 1) (yesF) (boolF (callF 3 f_is_number (consF (readF 1) (consF (constF (.int 0)) (consF (binF subG (callBF lenG (consF (readF 0) (nilF))) (constF (.int 1))) (nilF))))))) e := by unfold Z_are_apart_1; rw [hide_eq]
noncomputable def Z_are_apart_2 : Mo Bool := hide <|
  quantF false [2, 1] 1 (range2I (consF (constF (.int 1)) (consF (callBF lenG (consF (readF 1) (nilF))) (nilF)))) (toSlot 2) (yesF) (boolF (binF geX (binF subG (binF itemG (readF 1) (readF 2)) (binF itemG (readF 1) (binF subG (readF 2) (constF (.int 1))))) (readF 0)))
theorem Z_are_apart_2_app (e : Fv) : Z_are_apart_2 e = (quantF false [2, 1] 1 (range2I (consF (constF (.int 1)) (consF (callBF lenG (consF (readF 1) (nilF))) (nilF)))) (toSlot 2) (yesF) (boolF (binF geX (binF subG (binF itemG (readF 1) (readF 2)) (binF itemG (readF 1) (binF subG (readF 2) (constF (.int 1))))) (readF 0)))) e := by unfold Z_are_apart_2; rw [hide_eq]
noncomputable def B_are_apart : Mo Out :=
  seqF (setT (toTup 2 (toCons (toSlot 3) (toCons (toSlot 2) (toNil)))) (readF 0))
    (seqF (ifF (orF (notF (isF "tuple" (readF 1))) (notF (Z_are_apart_1))) (retF (constF (.bool false))) (skipF))
    (retF (ofB (Z_are_apart_2))))
noncomputable def f_are_apart : List PyData → FnR := hide (runF 4 B_are_apart)
theorem f_are_apart_eq : f_are_apart = runF 4 B_are_apart := by unfold f_are_apart; rw [hide_eq]
abbrev s_hours_apart : Stmt := topS 11
abbrev N_hours_apart : List Str := ["night", "needs", "long", "best", "hour", "whole", "row"]
theorem sc_hours_apart : FnScope N_hours_apart ["night"] (defScope s_hours_apart) := ⟨rfl, rfl, rfl, by decide +kernel, rfl, by decide +kernel, by decide +kernel⟩
noncomputable def L_hours_apart_1 : Mo Out := hide <|
  seqF (setT (toTup 2 (toCons (toSlot 5) (toCons (toSlot 6) (toNil)))) (binF itemG (readF 3) (binF addG (readF 4) (readF 2))))
    (setItemF 3 (readF 4) (callBF min2X (consF (binF itemG (readF 3) (binF addG (readF 4) (constF (.int 1)))) (consF (tupF (consF (binF subG (readF 5) (binF itemG (readF 1) (readF 4))) (consF (tupF (consF (readF 4) (starF (readF 6) (nilF)))) (nilF)))) (nilF)))))
theorem L_hours_apart_1_app (e : Fv) : L_hours_apart_1 e = (seqF (setT (toTup 2 (toCons (toSlot 5) (toCons (toSlot 6) (toNil)))) (binF itemG (readF 3) (binF addG (readF 4) (readF 2))))
    (setItemF 3 (readF 4) (callBF min2X (consF (binF itemG (readF 3) (binF addG (readF 4) (constF (.int 1)))) (consF (tupF (consF (binF subG (readF 5) (binF itemG (readF 1) (readF 4))) (consF (tupF (consF (readF 4) (starF (readF 6) (nilF)))) (nilF)))) (nilF)))))) e := by unfold L_hours_apart_1; rw [hide_eq]
noncomputable def B_hours_apart : Mo Out :=
  seqF (setT (toTup 2 (toCons (toSlot 1) (toCons (toSlot 2) (toNil)))) (readF 0))
    (seqF (setF 3 (binF mulG (lstF (consF (tupF (consF (constF (.int 0)) (consF (tupF (nilF)) (nilF)))) (nilF))) (binF addG (callBF lenG (consF (readF 1) (nilF))) (readF 2))))
    (seqF (forF (range3I (consF (binF subG (callBF lenG (consF (readF 1) (nilF))) (constF (.int 1))) (consF (unF negG (constF (.int 1))) (consF (unF negG (constF (.int 1))) (nilF))))) (toSlot 4) (L_hours_apart_1))
    (retF (binF itemG (binF itemG (readF 3) (constF (.int 0))) (constF (.int 1))))))
noncomputable def f_hours_apart : List PyData → FnR := hide (runF 7 B_hours_apart)
theorem f_hours_apart_eq : f_hours_apart = runF 7 B_hours_apart := by unfold f_hours_apart; rw [hide_eq]
abbrev s__law_draws : Stmt := topS 13
abbrev N__law_draws : List Str := ["script", "draws", "cell", "number", "first", "k", "seed"]
theorem sc__law_draws : FnScope N__law_draws ["script"] (defScope s__law_draws) := ⟨rfl, rfl, rfl, by decide +kernel, rfl, by decide +kernel, by decide +kernel⟩
noncomputable def L__law_draws_1 : Mo Out := hide <|
  ifF (boolF (binF gtG (readF 3) (constF (.int 0)))) (seqF (dropF (appendF 1 (binF modG (callBF intG (consF (readF 3) (nilF))) (constF (.int 997)))))
    (setF 3 (binF fdivG (readF 3) (constF (.int 997))))) (skipF)
theorem L__law_draws_1_app (e : Fv) : L__law_draws_1 e = (ifF (boolF (binF gtG (readF 3) (constF (.int 0)))) (seqF (dropF (appendF 1 (binF modG (callBF intG (consF (readF 3) (nilF))) (constF (.int 997)))))
    (setF 3 (binF fdivG (readF 3) (constF (.int 997))))) (skipF)) e := by unfold L__law_draws_1; rw [hide_eq]
noncomputable def L__law_draws_2 : Mo Out := hide <|
  seqF (setF 3 (callBF absG (consF (readF 2) (nilF))))
    (seqF (ifF (boolF (binF ltG (readF 3) (binF powG (constF (.int 10)) (constF (.int 18))))) (seqF (setF 4 (binF modG (callBF intG (consF (binF addG (binF mulG (readF 3) (constF (.int 48271))) (constF (.int 11))) (nilF))) (constF (.int 2147483647))))
    (seqF (dropF (appendF 1 (binF modG (callBF intG (consF (binF addG (binF mulG (readF 4) (constF (.int 69621))) (readF 3)) (nilF))) (constF (.int 2147483629)))))
    (seqF (dropF (appendF 1 (binF modG (callBF intG (consF (binF addG (readF 4) (binF fdivG (readF 3) (constF (.int 7)))) (nilF))) (constF (.int 1000003)))))
    (setF 3 (constF (.int 0)))))) (skipF))
    (forF (range1I (consF (constF (.int 60)) (nilF))) (toSlot 5) (L__law_draws_1)))
theorem L__law_draws_2_app (e : Fv) : L__law_draws_2 e = (seqF (setF 3 (callBF absG (consF (readF 2) (nilF))))
    (seqF (ifF (boolF (binF ltG (readF 3) (binF powG (constF (.int 10)) (constF (.int 18))))) (seqF (setF 4 (binF modG (callBF intG (consF (binF addG (binF mulG (readF 3) (constF (.int 48271))) (constF (.int 11))) (nilF))) (constF (.int 2147483647))))
    (seqF (dropF (appendF 1 (binF modG (callBF intG (consF (binF addG (binF mulG (readF 4) (constF (.int 69621))) (readF 3)) (nilF))) (constF (.int 2147483629)))))
    (seqF (dropF (appendF 1 (binF modG (callBF intG (consF (binF addG (readF 4) (binF fdivG (readF 3) (constF (.int 7)))) (nilF))) (constF (.int 1000003)))))
    (setF 3 (constF (.int 0)))))) (skipF))
    (forF (range1I (consF (constF (.int 60)) (nilF))) (toSlot 5) (L__law_draws_1)))) e := by unfold L__law_draws_2; rw [hide_eq]
noncomputable def L__law_draws_3 : Mo Out := hide <|
  seqF (setF 6 (binF modG (callBF intG (consF (binF addG (binF mulG (readF 6) (constF (.int 48271))) (constF (.int 69621))) (nilF))) (constF (.int 2147483647))))
    (dropF (appendF 1 (binF fdivG (readF 6) (constF (.int 5)))))
theorem L__law_draws_3_app (e : Fv) : L__law_draws_3 e = (seqF (setF 6 (binF modG (callBF intG (consF (binF addG (binF mulG (readF 6) (constF (.int 48271))) (constF (.int 69621))) (nilF))) (constF (.int 2147483647))))
    (dropF (appendF 1 (binF fdivG (readF 6) (constF (.int 5)))))) e := by unfold L__law_draws_3; rw [hide_eq]
noncomputable def B__law_draws : Mo Out :=
  seqF (setF 1 (lstF (nilF)))
    (seqF (forF (seqI (readF 0)) (toSlot 2) (L__law_draws_2))
    (seqF (setF 6 (constF (.int 1)))
    (seqF (ifF (boolF (binF gtG (callBF lenG (consF (readF 0) (nilF))) (constF (.int 0)))) (setF 6 (binF addG (constF (.int 1)) (callBF absG (consF (binF itemG (readF 0) (constF (.int 0))) (nilF))))) (skipF))
    (seqF (forF (range1I (consF (constF (.int 900)) (nilF))) (toSlot 5) (L__law_draws_3))
    (retF (revL (readF 1)))))))
noncomputable def f__law_draws : List PyData → FnR := hide (runF 7 B__law_draws)
theorem f__law_draws_eq : f__law_draws = runF 7 B__law_draws := by unfold f__law_draws; rw [hide_eq]
abbrev s__law_take : Stmt := topS 14
abbrev N__law_take : List Str := ["draws", "bound"]
theorem sc__law_take : FnScope N__law_take ["draws", "bound"] (defScope s__law_take) := ⟨rfl, rfl, rfl, by decide +kernel, rfl, by decide +kernel, by decide +kernel⟩
noncomputable def B__law_take : Mo Out :=
  seqF (ifF (boolF (binF eqG (callBF lenG (consF (readF 0) (nilF))) (constF (.int 0)))) (retF (constF (.int 0))) (skipF))
    (retF (binF modG (callBF intG (consF (popF 0) (nilF))) (readF 1)))
noncomputable def f__law_take : List PyData → List PyData → FnL := hide (runL 2 B__law_take)
theorem f__law_take_eq : f__law_take = runL 2 B__law_take := by unfold f__law_take; rw [hide_eq]
abbrev s__law_alike : Stmt := topS 15
abbrev N__law_alike : List Str := ["found", "due", "k"]
theorem sc__law_alike : FnScope N__law_alike ["found", "due"] (defScope s__law_alike) := ⟨rfl, rfl, rfl, by decide +kernel, rfl, by decide +kernel, by decide +kernel⟩
noncomputable def Q__law_alike_1 (self : List PyData → FnR) : Mo Rv := hide <|
  lcF [2] (range1I (consF (callBF lenG (consF (readF 1) (nilF))) (nilF))) (toSlot 2) (notF (truthF (callF 2 self (consF (binF itemG (readF 0) (readF 2)) (consF (binF itemG (readF 1) (readF 2)) (nilF)))))) (readF 2)
theorem Q__law_alike_1_app (self : List PyData → FnR) (e : Fv) : Q__law_alike_1 self e = (lcF [2] (range1I (consF (callBF lenG (consF (readF 1) (nilF))) (nilF))) (toSlot 2) (notF (truthF (callF 2 self (consF (binF itemG (readF 0) (readF 2)) (consF (binF itemG (readF 1) (readF 2)) (nilF)))))) (readF 2)) e := by unfold Q__law_alike_1; rw [hide_eq]
noncomputable def B__law_alike (self : List PyData → FnR) : Mo Out :=
  seqF (ifF (orF (isF "list" (readF 1)) (isF "tuple" (readF 1))) (seqF (ifF (orF (boolF (binF neG (ofB (isF "list" (readF 0))) (ofB (isF "list" (readF 1))))) (boolF (binF neG (ofB (isF "tuple" (readF 0))) (ofB (isF "tuple" (readF 1)))))) (retF (constF (.bool false))) (skipF))
    (retF (ofB (andF (boolF (binF eqG (callBF lenG (consF (readF 0) (nilF))) (callBF lenG (consF (readF 1) (nilF))))) (boolF (binF eqG (Q__law_alike_1 self) (lstF (nilF)))))))) (skipF))
    (seqF (ifF (boolF (binF isG (readF 1) (constF .none))) (retF (binF isG (readF 0) (constF .none))) (skipF))
    (seqF (ifF (orF (isF "bool" (readF 1)) (isF "bool" (readF 0))) (retF (ofB (andF (isF "bool" (readF 0)) (andF (isF "bool" (readF 1)) (boolF (binF eqG (readF 0) (readF 1))))))) (skipF))
    (seqF (ifF (isF "int" (readF 1)) (retF (ofB (andF (isF "int" (readF 0)) (boolF (binF eqG (readF 0) (readF 1)))))) (skipF))
    (retF (ofB (andF (isF "str" (readF 0)) (boolF (binF eqG (readF 0) (readF 1)))))))))
noncomputable def f__law_alike : Nat → List PyData → FnR
  | 0 => fun _ => .stuck
  | n + 1 => hide (runF 3 (B__law_alike (f__law_alike n)))
theorem f__law_alike_eq (n : Nat) : f__law_alike (n + 1) = runF 3 (B__law_alike (f__law_alike n)) := by rw [f__law_alike, hide_eq]
abbrev s__law_night : Stmt := topS 16
abbrev N__law_night : List Str := ["draws", "top", "hour"]
theorem sc__law_night : FnScope N__law_night ["draws"] (defScope s__law_night) := ⟨rfl, rfl, rfl, by decide +kernel, rfl, by decide +kernel, by decide +kernel⟩
noncomputable def Q__law_night_1 : Mo Rv := hide <|
  lcF [2] (range1I (consF (binF addG (constF (.int 1)) (callL 2 f__law_take 0 (consF (constF (.int 8)) (nilF)))) (nilF))) (toSlot 2) (yesF) (binF mulG (callL 2 f__law_take 0 (consF (readF 1) (nilF))) (callBF intG (consF (binF gtX (callL 2 f__law_take 0 (consF (constF (.int 4)) (nilF))) (constF (.int 0))) (nilF))))
theorem Q__law_night_1_app (e : Fv) : Q__law_night_1 e = (lcF [2] (range1I (consF (binF addG (constF (.int 1)) (callL 2 f__law_take 0 (consF (constF (.int 8)) (nilF)))) (nilF))) (toSlot 2) (yesF) (binF mulG (callL 2 f__law_take 0 (consF (readF 1) (nilF))) (callBF intG (consF (binF gtX (callL 2 f__law_take 0 (consF (constF (.int 4)) (nilF))) (constF (.int 0))) (nilF))))) e := by unfold Q__law_night_1; rw [hide_eq]
noncomputable def B__law_night : Mo Out :=
  seqF (setF 1 (binF itemG (lstF (consF (constF (.int 2)) (consF (constF (.int 3)) (consF (constF (.int 6)) (nilF))))) (callL 2 f__law_take 0 (consF (constF (.int 3)) (nilF)))))
    (retF (tupF (consF (callBF tupleG (consF (Q__law_night_1) (nilF))) (consF (binF addG (constF (.int 1)) (callL 2 f__law_take 0 (consF (binF itemG (lstF (consF (constF (.int 2)) (consF (constF (.int 6)) (nilF)))) (callL 2 f__law_take 0 (consF (constF (.int 2)) (nilF)))) (nilF)))) (nilF)))))
noncomputable def f__law_night : List PyData → List PyData → FnL := hide (runL 3 B__law_night)
theorem f__law_night_eq : f__law_night = runL 3 B__law_night := by unfold f__law_night; rw [hide_eq]
abbrev s__law_awake : Stmt := topS 17
abbrev N__law_awake : List Str := ["night", "row", "hour", "begin"]
theorem sc__law_awake : FnScope N__law_awake ["night", "row", "hour"] (defScope s__law_awake) := ⟨rfl, rfl, rfl, by decide +kernel, rfl, by decide +kernel, by decide +kernel⟩
noncomputable def Q__law_awake_1 : Mo Rv := hide <|
  lcF [3] (seqI (readF 1)) (toSlot 3) (boolF (chainF ltX leX (binF subG (readF 2) (binF itemG (readF 0) (constF (.int 1)))) (readF 3) (readF 2))) (readF 3)
theorem Q__law_awake_1_app (e : Fv) : Q__law_awake_1 e = (lcF [3] (seqI (readF 1)) (toSlot 3) (boolF (chainF ltX leX (binF subG (readF 2) (binF itemG (readF 0) (constF (.int 1)))) (readF 3) (readF 2))) (readF 3)) e := by unfold Q__law_awake_1; rw [hide_eq]
noncomputable def B__law_awake : Mo Out :=
  retF (callBF lenG (consF (Q__law_awake_1) (nilF)))
noncomputable def f__law_awake : List PyData → FnR := hide (runF 4 B__law_awake)
theorem f__law_awake_eq : f__law_awake = runF 4 B__law_awake := by unfold f__law_awake; rw [hide_eq]
abbrev s__law_is_rota : Stmt := topS 18
abbrev N__law_is_rota : List Str := ["night", "row", "hour"]
theorem sc__law_is_rota : FnScope N__law_is_rota ["night", "row"] (defScope s__law_is_rota) := ⟨rfl, rfl, rfl, by decide +kernel, rfl, by decide +kernel, by decide +kernel⟩
noncomputable def Q__law_is_rota_1 : Mo Rv := hide <|
  lcF [2] (range1I (consF (callBF lenG (consF (binF itemG (readF 0) (constF (.int 0))) (nilF))) (nilF))) (toSlot 2) (boolF (binF ltX (callF 3 f__law_awake (consF (readF 0) (consF (readF 1) (consF (readF 2) (nilF))))) (binF itemG (binF itemG (readF 0) (constF (.int 0))) (readF 2)))) (readF 2)
theorem Q__law_is_rota_1_app (e : Fv) : Q__law_is_rota_1 e = (lcF [2] (range1I (consF (callBF lenG (consF (binF itemG (readF 0) (constF (.int 0))) (nilF))) (nilF))) (toSlot 2) (boolF (binF ltX (callF 3 f__law_awake (consF (readF 0) (consF (readF 1) (consF (readF 2) (nilF))))) (binF itemG (binF itemG (readF 0) (constF (.int 0))) (readF 2)))) (readF 2)) e := by unfold Q__law_is_rota_1; rw [hide_eq]
noncomputable def B__law_is_rota : Mo Out :=
  retF (binF eqG (Q__law_is_rota_1) (lstF (nilF)))
noncomputable def f__law_is_rota : List PyData → FnR := hide (runF 3 B__law_is_rota)
theorem f__law_is_rota_eq : f__law_is_rota = runF 3 B__law_is_rota := by unfold f__law_is_rota; rw [hide_eq]
abbrev s_law : Stmt := topS 19
abbrev N_law : List Str := ["script", "draws", "night", "needs", "long", "many", "odd", "own", "hour", "turn", "found", "rows", "row", "best", "k", "some", "good", "one", "value"]
theorem sc_law : FnScope N_law ["script"] (defScope s_law) := ⟨rfl, rfl, rfl, by decide +kernel, rfl, by decide +kernel, by decide +kernel⟩
noncomputable def Q_law_1 : Mo Rv := hide <|
  lcF [17] (seqI (lstF (consF (constF (.int 0)) (consF (constF (.int 7)) (consF (constF .none) (consF (constF (.bool true)) (nilF))))))) (toSlot 17) (yesF) (tupF (consF (readF 3) (consF (readF 17) (nilF))))
theorem Q_law_1_app (e : Fv) : Q_law_1 e = (lcF [17] (seqI (lstF (consF (constF (.int 0)) (consF (constF (.int 7)) (consF (constF .none) (consF (constF (.bool true)) (nilF))))))) (toSlot 17) (yesF) (tupF (consF (readF 3) (consF (readF 17) (nilF))))) e := by unfold Q_law_1; rw [hide_eq]
noncomputable def Q_law_2 : Mo Rv := hide <|
  lcF [17] (seqI (lstF (consF (unF negG (constF (.int 1))) (consF (constF (.int 6)) (consF (constF .none) (consF (constF (.bool true)) (nilF))))))) (toSlot 17) (yesF) (tupF (consF (binF addG (sliceF (readF 3) (some (constF (.int 1))) none) (tupF (consF (readF 17) (nilF)))) (consF (readF 4) (nilF))))
theorem Q_law_2_app (e : Fv) : Q_law_2 e = (lcF [17] (seqI (lstF (consF (unF negG (constF (.int 1))) (consF (constF (.int 6)) (consF (constF .none) (consF (constF (.bool true)) (nilF))))))) (toSlot 17) (yesF) (tupF (consF (binF addG (sliceF (readF 3) (some (constF (.int 1))) none) (tupF (consF (readF 17) (nilF)))) (consF (readF 4) (nilF))))) e := by unfold Q_law_2; rw [hide_eq]
noncomputable def Q_law_3 : Mo Rv := hide <|
  lcF [18] (seqI (readF 6)) (toSlot 18) (boolF (binF isNotG (callF 1 f_is_night (consF (readF 18) (nilF))) (constF (.bool false)))) (readF 18)
theorem Q_law_3_app (e : Fv) : Q_law_3 e = (lcF [18] (seqI (readF 6)) (toSlot 18) (boolF (binF isNotG (callF 1 f_is_night (consF (readF 18) (nilF))) (constF (.bool false)))) (readF 18)) e := by unfold Q_law_3; rw [hide_eq]
noncomputable def L_law_1 : Mo Out := hide <|
  ifF (boolF (binF ltX (callB 3 f__law_awake (consF (readF 2) (consF (readF 7) (consF (readF 8) (nilF))))) (binF itemG (readF 3) (readF 8)))) (dropF (appendF 7 (readF 8))) (skipF)
theorem L_law_1_app (e : Fv) : L_law_1 e = (ifF (boolF (binF ltX (callB 3 f__law_awake (consF (readF 2) (consF (readF 7) (consF (readF 8) (nilF))))) (binF itemG (readF 3) (readF 8)))) (dropF (appendF 7 (readF 8))) (skipF)) e := by unfold L_law_1; rw [hide_eq]
noncomputable def L_law_2 : Mo Out := hide <|
  forF (range1I (consF (constF (.int 5)) (nilF))) (toSlot 9) (L_law_1)
theorem L_law_2_app (e : Fv) : L_law_2 e = (forF (range1I (consF (constF (.int 5)) (nilF))) (toSlot 9) (L_law_1)) e := by unfold L_law_2; rw [hide_eq]
noncomputable def Q_law_4 : Mo Rv := hide <|
  lcF [12] (seqI (readF 11)) (toSlot 12) (orF (boolF (binF eqG (readF 12) (tupF (nilF)))) (boolF (binF geX (binF subG (readF 8) (binF itemG (readF 12) (unF negG (constF (.int 1))))) (readF 4)))) (binF addG (readF 12) (tupF (consF (readF 8) (nilF))))
theorem Q_law_4_app (e : Fv) : Q_law_4 e = (lcF [12] (seqI (readF 11)) (toSlot 12) (orF (boolF (binF eqG (readF 12) (tupF (nilF)))) (boolF (binF geX (binF subG (readF 8) (binF itemG (readF 12) (unF negG (constF (.int 1))))) (readF 4)))) (binF addG (readF 12) (tupF (consF (readF 8) (nilF))))) e := by unfold Q_law_4; rw [hide_eq]
noncomputable def L_law_3 : Mo Out := hide <|
  setF 11 (binF addG (readF 11) (Q_law_4))
theorem L_law_3_app (e : Fv) : L_law_3 e = (setF 11 (binF addG (readF 11) (Q_law_4))) e := by unfold L_law_3; rw [hide_eq]
noncomputable def Q_law_5 : Mo Rv := hide <|
  lcF [8] (seqI (readF 12)) (toSlot 8) (yesF) (binF itemG (readF 3) (readF 8))
theorem Q_law_5_app (e : Fv) : Q_law_5 e = (lcF [8] (seqI (readF 12)) (toSlot 8) (yesF) (binF itemG (readF 3) (readF 8))) e := by unfold Q_law_5; rw [hide_eq]
noncomputable def Q_law_6 : Mo Rv := hide <|
  lcF [12] (seqI (readF 11)) (toSlot 12) (yesF) (tupF (consF (binF subG (constF (.int 0)) (callBF sumG (consF (Q_law_5) (nilF)))) (consF (readF 12) (nilF))))
theorem Q_law_6_app (e : Fv) : Q_law_6 e = (lcF [12] (seqI (readF 11)) (toSlot 12) (yesF) (tupF (consF (binF subG (constF (.int 0)) (callBF sumG (consF (Q_law_5) (nilF)))) (consF (readF 12) (nilF))))) e := by unfold Q_law_6; rw [hide_eq]
noncomputable def Q_law_7 : Mo Rv := hide <|
  lcF [14] (range1I (consF (callL 2 f__law_take 1 (consF (constF (.int 3)) (nilF))) (nilF))) (toSlot 14) (yesF) (callL 2 f__law_take 1 (consF (readF 5) (nilF)))
theorem Q_law_7_app (e : Fv) : Q_law_7 e = (lcF [14] (range1I (consF (callL 2 f__law_take 1 (consF (constF (.int 3)) (nilF))) (nilF))) (toSlot 14) (yesF) (callL 2 f__law_take 1 (consF (readF 5) (nilF)))) e := by unfold Q_law_7; rw [hide_eq]
noncomputable def Q_law_8 : Mo Rv := hide <|
  lcF [8] (range1I (consF (readF 5) (nilF))) (toSlot 8) (boolF (binF eqG (callL 2 f__law_take 1 (consF (constF (.int 3)) (nilF))) (constF (.int 0)))) (readF 8)
theorem Q_law_8_app (e : Fv) : Q_law_8 e = (lcF [8] (range1I (consF (readF 5) (nilF))) (toSlot 8) (boolF (binF eqG (callL 2 f__law_take 1 (consF (constF (.int 3)) (nilF))) (constF (.int 0)))) (readF 8)) e := by unfold Q_law_8; rw [hide_eq]
noncomputable def L_law_4 : Mo Out := hide <|
  seqF (setF 15 (callBF tupleG (consF (callBF sortG (consF (binF addG (callBF listG (consF (readF 10) (nilF))) (Q_law_7)) (nilF))) (nilF))))
    (seqF (setF 14 (callL 2 f__law_take 1 (consF (callBF max2X (consF (constF (.int 1)) (consF (callBF lenG (consF (readF 15) (nilF))) (nilF)))) (nilF))))
    (seqF (setF 15 (ifF (boolF (binF eqG (callL 2 f__law_take 1 (consF (constF (.int 2)) (nilF))) (constF (.int 0)))) (binF addG (sliceF (readF 15) none (some (readF 14))) (sliceF (readF 15) (some (binF addG (readF 14) (constF (.int 1)))) none)) (readF 15)))
    (seqF (setF 16 (callF 2 f__law_is_rota (consF (readF 2) (consF (readF 15) (nilF)))))
    (seqF (ifF (orF (notF (truthF (callF 2 (f__law_alike 12) (consF (callF 2 f_is_rota (consF (readF 2) (consF (readF 15) (nilF)))) (consF (readF 16) (nilF)))))) (andF (truthF (readF 16)) (boolF (binF ltX (callBF lenG (consF (readF 15) (nilF))) (callBF lenG (consF (readF 10) (nilF))))))) (retF (constF (.bool false))) (skipF))
    (seqF (setF 12 (callBF tupleG (consF (Q_law_8) (nilF))))
    (ifF (notF (truthF (callF 2 (f__law_alike 12) (consF (callF 2 f_are_apart (consF (readF 2) (consF (readF 12) (nilF)))) (consF (binF inG (readF 12) (readF 11)) (nilF)))))) (retF (constF (.bool false))) (skipF)))))))
theorem L_law_4_app (e : Fv) : L_law_4 e = (seqF (setF 15 (callBF tupleG (consF (callBF sortG (consF (binF addG (callBF listG (consF (readF 10) (nilF))) (Q_law_7)) (nilF))) (nilF))))
    (seqF (setF 14 (callL 2 f__law_take 1 (consF (callBF max2X (consF (constF (.int 1)) (consF (callBF lenG (consF (readF 15) (nilF))) (nilF)))) (nilF))))
    (seqF (setF 15 (ifF (boolF (binF eqG (callL 2 f__law_take 1 (consF (constF (.int 2)) (nilF))) (constF (.int 0)))) (binF addG (sliceF (readF 15) none (some (readF 14))) (sliceF (readF 15) (some (binF addG (readF 14) (constF (.int 1)))) none)) (readF 15)))
    (seqF (setF 16 (callF 2 f__law_is_rota (consF (readF 2) (consF (readF 15) (nilF)))))
    (seqF (ifF (orF (notF (truthF (callF 2 (f__law_alike 12) (consF (callF 2 f_is_rota (consF (readF 2) (consF (readF 15) (nilF)))) (consF (readF 16) (nilF)))))) (andF (truthF (readF 16)) (boolF (binF ltX (callBF lenG (consF (readF 15) (nilF))) (callBF lenG (consF (readF 10) (nilF))))))) (retF (constF (.bool false))) (skipF))
    (seqF (setF 12 (callBF tupleG (consF (Q_law_8) (nilF))))
    (ifF (notF (truthF (callF 2 (f__law_alike 12) (consF (callF 2 f_are_apart (consF (readF 2) (consF (readF 12) (nilF)))) (consF (binF inG (readF 12) (readF 11)) (nilF)))))) (retF (constF (.bool false))) (skipF)))))))) e := by unfold L_law_4; rw [hide_eq]
noncomputable def Q_law_9 : Mo Rv := hide <|
  lcF [17] (seqI (lstF (consF (readF 5) (consF (unF negG (constF (.int 1))) (consF (constF .none) (nilF)))))) (toSlot 17) (yesF) (binF addG (sliceF (readF 10) none (some (unF negG (constF (.int 1))))) (tupF (consF (readF 17) (nilF))))
theorem Q_law_9_app (e : Fv) : Q_law_9 e = (lcF [17] (seqI (lstF (consF (readF 5) (consF (unF negG (constF (.int 1))) (consF (constF .none) (nilF)))))) (toSlot 17) (yesF) (binF addG (sliceF (readF 10) none (some (unF negG (constF (.int 1))))) (tupF (consF (readF 17) (nilF))))) e := by unfold Q_law_9; rw [hide_eq]
noncomputable def Q_law_10 : Mo Rv := hide <|
  lcF [18] (seqI (readF 6)) (toSlot 18) (boolF (binF isNotG (callF 2 f_is_rota (consF (readF 2) (consF (readF 18) (nilF)))) (constF (.bool false)))) (readF 18)
theorem Q_law_10_app (e : Fv) : Q_law_10 e = (lcF [18] (seqI (readF 6)) (toSlot 18) (boolF (binF isNotG (callF 2 f_is_rota (consF (readF 2) (consF (readF 18) (nilF)))) (constF (.bool false)))) (readF 18)) e := by unfold Q_law_10; rw [hide_eq]
noncomputable def Q_law_11 : Mo Rv := hide <|
  lcF [18] (seqI (readF 6)) (toSlot 18) (boolF (binF isNotG (callF 2 f_are_apart (consF (readF 2) (consF (readF 18) (nilF)))) (constF (.bool false)))) (readF 18)
theorem Q_law_11_app (e : Fv) : Q_law_11 e = (lcF [18] (seqI (readF 6)) (toSlot 18) (boolF (binF isNotG (callF 2 f_are_apart (consF (readF 2) (consF (readF 18) (nilF)))) (constF (.bool false)))) (readF 18)) e := by unfold Q_law_11; rw [hide_eq]
noncomputable def S_law_1 : Mo Out := hide <|
  setF 1 (callF 1 f__law_draws (consF (readF 0) (nilF)))
theorem S_law_1_app (e : Fv) : S_law_1 e = (setF 1 (callF 1 f__law_draws (consF (readF 0) (nilF)))) e := by unfold S_law_1; rw [hide_eq]
noncomputable def S_law_2 : Mo Out := hide <|
  setF 2 (callL 1 f__law_night 1 (nilF))
theorem S_law_2_app (e : Fv) : S_law_2 e = (setF 2 (callL 1 f__law_night 1 (nilF))) e := by unfold S_law_2; rw [hide_eq]
noncomputable def S_law_3 : Mo Out := hide <|
  setT (toTup 2 (toCons (toSlot 3) (toCons (toSlot 4) (toNil)))) (readF 2)
theorem S_law_3_app (e : Fv) : S_law_3 e = (setT (toTup 2 (toCons (toSlot 3) (toCons (toSlot 4) (toNil)))) (readF 2)) e := by unfold S_law_3; rw [hide_eq]
noncomputable def S_law_4 : Mo Out := hide <|
  setF 5 (callBF lenG (consF (readF 3) (nilF)))
theorem S_law_4_app (e : Fv) : S_law_4 e = (setF 5 (callBF lenG (consF (readF 3) (nilF)))) e := by unfold S_law_4; rw [hide_eq]
noncomputable def S_law_5 : Mo Out := hide <|
  setF 6 (binF addG (lstF (consF (constF .none) (consF (callBF listG (consF (readF 2) (nilF))) (consF (tupF (consF (readF 3) (nilF))) (consF (binF addG (readF 2) (tupF (consF (constF (.int 0)) (nilF)))) (consF (tupF (consF (tupF (nilF)) (consF (readF 4) (nilF)))) (consF (tupF (consF (binF mulG1 (tupF (consF (constF (.int 0)) (nilF))) (constF (.int 13))) (consF (readF 4) (nilF)))) (consF (tupF (consF (callBF listG (consF (readF 3) (nilF))) (consF (readF 4) (nilF)))) (consF (constF (.str "night")) (consF (constF (.int 0)) (nilF))))))))))) (Q_law_1))
theorem S_law_5_app (e : Fv) : S_law_5 e = (setF 6 (binF addG (lstF (consF (constF .none) (consF (callBF listG (consF (readF 2) (nilF))) (consF (tupF (consF (readF 3) (nilF))) (consF (binF addG (readF 2) (tupF (consF (constF (.int 0)) (nilF)))) (consF (tupF (consF (tupF (nilF)) (consF (readF 4) (nilF)))) (consF (tupF (consF (binF mulG1 (tupF (consF (constF (.int 0)) (nilF))) (constF (.int 13))) (consF (readF 4) (nilF)))) (consF (tupF (consF (callBF listG (consF (readF 3) (nilF))) (consF (readF 4) (nilF)))) (consF (constF (.str "night")) (consF (constF (.int 0)) (nilF))))))))))) (Q_law_1))) e := by unfold S_law_5; rw [hide_eq]
noncomputable def S_law_6 : Mo Out := hide <|
  setF 6 (binF addG (readF 6) (Q_law_2))
theorem S_law_6_app (e : Fv) : S_law_6 e = (setF 6 (binF addG (readF 6) (Q_law_2))) e := by unfold S_law_6; rw [hide_eq]
noncomputable def S_law_7 : Mo Out := hide <|
  ifF (orF (boolF (binF isNotG (callF 1 f_is_night (consF (readF 2) (nilF))) (constF (.bool true)))) (orF (boolF (binF isNotG (callF 1 f_is_night (consF (tupF (consF (binF mulG1 (tupF (consF (constF (.int 5)) (nilF))) (constF (.int 12))) (consF (constF (.int 6)) (nilF)))) (nilF))) (constF (.bool true)))) (boolF (binF neG (Q_law_3) (lstF (nilF)))))) (retF (constF (.bool false))) (skipF)
theorem S_law_7_app (e : Fv) : S_law_7 e = (ifF (orF (boolF (binF isNotG (callF 1 f_is_night (consF (readF 2) (nilF))) (constF (.bool true)))) (orF (boolF (binF isNotG (callF 1 f_is_night (consF (tupF (consF (binF mulG1 (tupF (consF (constF (.int 5)) (nilF))) (constF (.int 12))) (consF (constF (.int 6)) (nilF)))) (nilF))) (constF (.bool true)))) (boolF (binF neG (Q_law_3) (lstF (nilF)))))) (retF (constF (.bool false))) (skipF)) e := by unfold S_law_7; rw [hide_eq]
noncomputable def S_law_8 : Mo Out := hide <|
  setF 7 (lstF (nilF))
theorem S_law_8_app (e : Fv) : S_law_8 e = (setF 7 (lstF (nilF))) e := by unfold S_law_8; rw [hide_eq]
noncomputable def S_law_9 : Mo Out := hide <|
  forF (range1I (consF (readF 5) (nilF))) (toSlot 8) (L_law_2)
theorem S_law_9_app (e : Fv) : S_law_9 e = (forF (range1I (consF (readF 5) (nilF))) (toSlot 8) (L_law_2)) e := by unfold S_law_9; rw [hide_eq]
noncomputable def S_law_10 : Mo Out := hide <|
  setF 10 (callF 1 f_fewest_shifts (consF (readF 2) (nilF)))
theorem S_law_10_app (e : Fv) : S_law_10 e = (setF 10 (callF 1 f_fewest_shifts (consF (readF 2) (nilF)))) e := by unfold S_law_10; rw [hide_eq]
noncomputable def S_law_11 : Mo Out := hide <|
  ifF (orF (notF (truthF (callF 2 (f__law_alike 12) (consF (readF 10) (consF (callBF tupleG (consF (readF 7) (nilF))) (nilF)))))) (orF (notF (truthF (callF 2 f__law_is_rota (consF (readF 2) (consF (readF 10) (nilF)))))) (boolF (binF isNotG (callF 2 f_is_rota (consF (readF 2) (consF (readF 10) (nilF)))) (constF (.bool true)))))) (retF (constF (.bool false))) (skipF)
theorem S_law_11_app (e : Fv) : S_law_11 e = (ifF (orF (notF (truthF (callF 2 (f__law_alike 12) (consF (readF 10) (consF (callBF tupleG (consF (readF 7) (nilF))) (nilF)))))) (orF (notF (truthF (callF 2 f__law_is_rota (consF (readF 2) (consF (readF 10) (nilF)))))) (boolF (binF isNotG (callF 2 f_is_rota (consF (readF 2) (consF (readF 10) (nilF)))) (constF (.bool true)))))) (retF (constF (.bool false))) (skipF)) e := by unfold S_law_11; rw [hide_eq]
noncomputable def S_law_12 : Mo Out := hide <|
  setF 11 (lstF (consF (tupF (nilF)) (nilF)))
theorem S_law_12_app (e : Fv) : S_law_12 e = (setF 11 (lstF (consF (tupF (nilF)) (nilF)))) e := by unfold S_law_12; rw [hide_eq]
noncomputable def S_law_13 : Mo Out := hide <|
  forF (range1I (consF (readF 5) (nilF))) (toSlot 8) (L_law_3)
theorem S_law_13_app (e : Fv) : S_law_13 e = (forF (range1I (consF (readF 5) (nilF))) (toSlot 8) (L_law_3)) e := by unfold S_law_13; rw [hide_eq]
noncomputable def S_law_14 : Mo Out := hide <|
  setF 13 (callBF minG (consF (Q_law_6) (nilF)))
theorem S_law_14_app (e : Fv) : S_law_14 e = (setF 13 (callBF minG (consF (Q_law_6) (nilF)))) e := by unfold S_law_14; rw [hide_eq]
noncomputable def S_law_15 : Mo Out := hide <|
  ifF (orF (notF (truthF (callF 2 (f__law_alike 12) (consF (callF 1 f_hours_apart (consF (readF 2) (nilF))) (consF (binF itemG (readF 13) (constF (.int 1))) (nilF)))))) (boolF (binF neG (callBF lenG (consF (readF 10) (nilF))) (binF subG (constF (.int 0)) (binF itemG (readF 13) (constF (.int 0))))))) (retF (constF (.bool false))) (skipF)
theorem S_law_15_app (e : Fv) : S_law_15 e = (ifF (orF (notF (truthF (callF 2 (f__law_alike 12) (consF (callF 1 f_hours_apart (consF (readF 2) (nilF))) (consF (binF itemG (readF 13) (constF (.int 1))) (nilF)))))) (boolF (binF neG (callBF lenG (consF (readF 10) (nilF))) (binF subG (constF (.int 0)) (binF itemG (readF 13) (constF (.int 0))))))) (retF (constF (.bool false))) (skipF)) e := by unfold S_law_15; rw [hide_eq]
noncomputable def S_law_16 : Mo Out := hide <|
  forF (range1I (consF (constF (.int 5)) (nilF))) (toSlot 9) (L_law_4)
theorem S_law_16_app (e : Fv) : S_law_16 e = (forF (range1I (consF (constF (.int 5)) (nilF))) (toSlot 9) (L_law_4)) e := by unfold S_law_16; rw [hide_eq]
noncomputable def S_law_17 : Mo Out := hide <|
  setF 6 (binF addG (binF addG (lstF (consF (constF .none) (consF (callBF listG (consF (readF 10) (nilF))) (consF (tupF (consF (readF 5) (nilF))) (consF (tupF (consF (unF negG (constF (.int 1))) (nilF))) (consF (tupF (consF (constF .none) (nilF))) (consF (constF (.str "rota")) (consF (constF (.int 0)) (nilF))))))))) (Q_law_9)) (binF mulG (lstF (consF (binF addG (readF 10) (tupF (consF (constF (.int 0)) (nilF)))) (nilF))) (callBF intG (consF (ofB (andF (boolF (binF neG (readF 10) (tupF (nilF)))) (boolF (binF gtX (binF itemG (readF 10) (unF negG (constF (.int 1)))) (constF (.int 0)))))) (nilF)))))
theorem S_law_17_app (e : Fv) : S_law_17 e = (setF 6 (binF addG (binF addG (lstF (consF (constF .none) (consF (callBF listG (consF (readF 10) (nilF))) (consF (tupF (consF (readF 5) (nilF))) (consF (tupF (consF (unF negG (constF (.int 1))) (nilF))) (consF (tupF (consF (constF .none) (nilF))) (consF (constF (.str "rota")) (consF (constF (.int 0)) (nilF))))))))) (Q_law_9)) (binF mulG (lstF (consF (binF addG (readF 10) (tupF (consF (constF (.int 0)) (nilF)))) (nilF))) (callBF intG (consF (ofB (andF (boolF (binF neG (readF 10) (tupF (nilF)))) (boolF (binF gtX (binF itemG (readF 10) (unF negG (constF (.int 1)))) (constF (.int 0)))))) (nilF)))))) e := by unfold S_law_17; rw [hide_eq]
noncomputable def S_law_18 : Mo Out := hide <|
  ifF (boolF (binF neG (Q_law_10) (lstF (nilF)))) (retF (constF (.bool false))) (skipF)
theorem S_law_18_app (e : Fv) : S_law_18 e = (ifF (boolF (binF neG (Q_law_10) (lstF (nilF)))) (retF (constF (.bool false))) (skipF)) e := by unfold S_law_18; rw [hide_eq]
noncomputable def S_law_19 : Mo Out := hide <|
  setF 6 (binF addG (lstF (consF (constF .none) (consF (callBF listG (consF (binF itemG (readF 13) (constF (.int 1))) (nilF))) (consF (tupF (consF (readF 5) (nilF))) (consF (tupF (consF (unF negG (constF (.int 1))) (nilF))) (consF (tupF (consF (constF .none) (nilF))) (consF (tupF (consF (constF (.int 0)) (consF (constF (.int 0)) (nilF)))) (consF (tupF (consF (constF (.bool true)) (nilF))) (consF (constF (.str "hours")) (consF (constF (.int 0)) (nilF))))))))))) (binF mulG (lstF (consF (tupF (consF (binF subG (readF 5) (constF (.int 1))) (consF (constF (.int 0)) (nilF)))) (nilF))) (callBF intG (consF (binF gtX (readF 5) (constF (.int 1))) (nilF)))))
theorem S_law_19_app (e : Fv) : S_law_19 e = (setF 6 (binF addG (lstF (consF (constF .none) (consF (callBF listG (consF (binF itemG (readF 13) (constF (.int 1))) (nilF))) (consF (tupF (consF (readF 5) (nilF))) (consF (tupF (consF (unF negG (constF (.int 1))) (nilF))) (consF (tupF (consF (constF .none) (nilF))) (consF (tupF (consF (constF (.int 0)) (consF (constF (.int 0)) (nilF)))) (consF (tupF (consF (constF (.bool true)) (nilF))) (consF (constF (.str "hours")) (consF (constF (.int 0)) (nilF))))))))))) (binF mulG (lstF (consF (tupF (consF (binF subG (readF 5) (constF (.int 1))) (consF (constF (.int 0)) (nilF)))) (nilF))) (callBF intG (consF (binF gtX (readF 5) (constF (.int 1))) (nilF)))))) e := by unfold S_law_19; rw [hide_eq]
noncomputable def S_law_20 : Mo Out := hide <|
  retF (binF eqG (Q_law_11) (lstF (nilF)))
theorem S_law_20_app (e : Fv) : S_law_20 e = (retF (binF eqG (Q_law_11) (lstF (nilF)))) e := by unfold S_law_20; rw [hide_eq]
noncomputable def B_law : Mo Out :=
  seqF (S_law_1)
    (seqF (S_law_2)
    (seqF (S_law_3)
    (seqF (S_law_4)
    (seqF (S_law_5)
    (seqF (S_law_6)
    (seqF (S_law_7)
    (seqF (S_law_8)
    (seqF (S_law_9)
    (seqF (S_law_10)
    (seqF (S_law_11)
    (seqF (S_law_12)
    (seqF (S_law_13)
    (seqF (S_law_14)
    (seqF (S_law_15)
    (seqF (S_law_16)
    (seqF (S_law_17)
    (seqF (S_law_18)
    (seqF (S_law_19)
    (S_law_20)))))))))))))))))))
noncomputable def f_law : List PyData → FnR := hide (runF 19 B_law)
theorem f_law_eq : f_law = runF 19 B_law := by unfold f_law; rw [hide_eq]
/-- what stands behind the top -/
structure Tx (K : PySem.W.Frag) (mg : Str → Option Value) (base : Heap) (tabs : List Addr) (fa : Nat → Addr) (fd : Nat → FuncData) (ca pa : Nat → Addr) : Prop where
  F_is_number : Fun K "is_number" "is_number" s_is_number (fa 1) (fd 1)
  b_is_number : Binds K (fd 1) ["value", "least", "most"] []
  g_is_number : mg "is_number" = some (.ref (fa 1))
  F_is_night : Fun K "is_night" "is_night" s_is_night (fa 6) (fd 6)
  b_is_night : Binds K (fd 6) ["value"] []
  g_is_night : mg "is_night" = some (.ref (fa 6))
  t_is_night : GxR.TabB base mg (ca 6) (pa 6)
  m_is_night : pa 6 ∈ tabs
  e_is_night : (fd 6).code = .ref (ca 6)
  F_awake_in : Fun K "awake_in" "awake_in" s_awake_in (fa 7) (fd 7)
  b_awake_in : Binds K (fd 7) ["night", "begins", "hour"] []
  g_awake_in : mg "awake_in" = some (.ref (fa 7))
  F_is_rota : Fun K "is_rota" "is_rota" s_is_rota (fa 8) (fd 8)
  b_is_rota : Binds K (fd 8) ["night", "value"] []
  g_is_rota : mg "is_rota" = some (.ref (fa 8))
  t_is_rota : GxR.TabB base mg (ca 8) (pa 8)
  m_is_rota : pa 8 ∈ tabs
  e_is_rota : (fd 8).code = .ref (ca 8)
  F_fewest_shifts : Fun K "fewest_shifts" "fewest_shifts" s_fewest_shifts (fa 9) (fd 9)
  b_fewest_shifts : Binds K (fd 9) ["night"] []
  g_fewest_shifts : mg "fewest_shifts" = some (.ref (fa 9))
  F_are_apart : Fun K "are_apart" "are_apart" s_are_apart (fa 10) (fd 10)
  b_are_apart : Binds K (fd 10) ["night", "value"] []
  g_are_apart : mg "are_apart" = some (.ref (fa 10))
  t_are_apart : GxR.TabB base mg (ca 10) (pa 10)
  m_are_apart : pa 10 ∈ tabs
  e_are_apart : (fd 10).code = .ref (ca 10)
  F_hours_apart : Fun K "hours_apart" "hours_apart" s_hours_apart (fa 11) (fd 11)
  b_hours_apart : Binds K (fd 11) ["night"] []
  g_hours_apart : mg "hours_apart" = some (.ref (fa 11))
  F__law_draws : Fun K "_law_draws" "_law_draws" s__law_draws (fa 13) (fd 13)
  b__law_draws : Binds K (fd 13) ["script"] []
  g__law_draws : mg "_law_draws" = some (.ref (fa 13))
  F__law_take : Fun K "_law_take" "_law_take" s__law_take (fa 14) (fd 14)
  b__law_take : Binds K (fd 14) ["draws", "bound"] []
  g__law_take : mg "_law_take" = some (.ref (fa 14))
  F__law_alike : Fun K "_law_alike" "_law_alike" s__law_alike (fa 15) (fd 15)
  b__law_alike : Binds K (fd 15) ["found", "due"] []
  g__law_alike : mg "_law_alike" = some (.ref (fa 15))
  F__law_night : Fun K "_law_night" "_law_night" s__law_night (fa 16) (fd 16)
  b__law_night : Binds K (fd 16) ["draws"] []
  g__law_night : mg "_law_night" = some (.ref (fa 16))
  F__law_awake : Fun K "_law_awake" "_law_awake" s__law_awake (fa 17) (fd 17)
  b__law_awake : Binds K (fd 17) ["night", "row", "hour"] []
  g__law_awake : mg "_law_awake" = some (.ref (fa 17))
  F__law_is_rota : Fun K "_law_is_rota" "_law_is_rota" s__law_is_rota (fa 18) (fd 18)
  b__law_is_rota : Binds K (fd 18) ["night", "row"] []
  g__law_is_rota : mg "_law_is_rota" = some (.ref (fa 18))
  F_law : Fun K "law" "law" s_law (fa 19) (fd 19)
  b_law : Binds K (fd 19) ["script"] []
  g_law : mg "law" = some (.ref (fa 19))
  z_abs : mg "abs" = none
  z_all : mg "all" = none
  z_bool : mg "bool" = none
  z_enumerate : mg "enumerate" = none
  z_int : mg "int" = none
  z_isinstance : mg "isinstance" = none
  z_len : mg "len" = none
  z_list : mg "list" = none
  z_max : mg "max" = none
  z_min : mg "min" = none
  z_range : mg "range" = none
  z_reversed : mg "reversed" = none
  z_sorted : mg "sorted" = none
  z_str : mg "str" = none
  z_sum : mg "sum" = none
  z_tuple : mg "tuple" = none
  c_LONGEST : ∃ t, mg "LONGEST" = some (.int 6 t)
  c_MOST_HOURS : ∃ t, mg "MOST_HOURS" = some (.int 12 t)
  c_MOST_NEED : ∃ t, mg "MOST_NEED" = some (.int 5 t)
section
variable {P : Program} {w : World} {K : PySem.W.Frag} {mg : Str → Option Value} {base : Heap} {tabs : List Addr} {fa : Nat → Addr} {fd : Nat → FuncData} {ca pa : Nat → Addr} (T : Tx K mg base tabs fa fd ca pa)
include T
theorem ok_is_number : FnOk P w K mg base CX0 1 (fa 1) (fd 1) ["value", "least", "most"] (sp0 K tabs 3 f_is_number) :=
  hid_f (fn0 T.F_is_number sc_is_number (by decide) fun cdv A outer s H E p hr =>
    es_one (es_ret (ev_ofB (eb_and (eb_is (T := "int") (by decide) (by rfl) T.z_isinstance (by rfl) T.z_int bt_int (ev_var 0)) (eb_and (eb_not (eb_is (T := "bool") (by decide) (by rfl) T.z_isinstance (by rfl) T.z_bool bt_bool (ev_var 0))) (eb_one (ev_toB (ev_chain (op2_leX (hu100 hr)) (op2_leX (hu100 hr)) (ev_var 1) (ev_var 0) (ev_var 2)))))))))
theorem ok_is_night : FnOk P w K mg base CX0 7 (fa 6) (fd 6) ["value"] (sp0 K tabs 1 f_is_night) :=
  hid_f (fn0C T.F_is_night T.e_is_night sc_is_night (by decide) fun A outer s H E p hr =>
    es_cons (es_if (et_of (ew_or (et_not (et_val (eb_is (T := "tuple") (by decide) (by rfl) T.z_isinstance (by rfl) T.z_tuple bt_tuple (ev_var 0)))) (ew_or (et_cmp (op2_ne (hu100 hr)) (ev_callB opN_len (by rfl) T.z_len bt_len (ea_cons (ev_var 0) (ea_nil))) (ev_int)) (ew_or1 (et_not (et_truth (ev_call (ok_is_number T) (hr.mono (by decide)) (by rfl) T.g_is_number T.F_is_number.kp T.b_is_number (ea_cons (ev_ix (ev_var 0) (ev_int)) (ea_cons (ev_int) (ea_cons (ev_globI (by rfl) T.c_LONGEST) (ea_nil))))))))))) (es_one (es_ret (ev_bl))) (es_nil))
    (es_cons (es_if (et_of (ew_or (et_not (et_val (eb_is (T := "tuple") (by decide) (by rfl) T.z_isinstance (by rfl) T.z_tuple bt_tuple (ev_ix (ev_var 0) (ev_int))))) (ew_or1 (et_not (et_chain2 (op2_leX (hu100 hr)) (op2_leX (hu100 hr)) (ev_int) (ev_callB opN_len (by rfl) T.z_len bt_len (ea_cons (ev_ix (ev_var 0) (ev_int)) (ea_nil))) (ev_globI (by rfl) T.c_MOST_HOURS)))))) (es_one (es_ret (ev_bl))) (es_nil))
    (es_one (es_ret (ev_ofB (hid_eb (eb_all (k := 1) (hr.mono (by decide)) (by rfl) T.z_all T.t_is_night rfl T.m_is_night (genOk_by (M := N_is_night) (sc := defScope s_is_night) (N := N_G_is_night_1) (ixs := []) (m := 1) (by decide +kernel)) (eq_seq (ev_ix (ev_var 0) (ev_int))) (fun p s H C code fp pn hr => eg_name (i := 0) nd_G_is_night_1 rfl (.inl rfl)) (fun p s H C code fp pn hr => ets_nil) (fun p s H C code fp pn hr => ev_toB (ev_call (ok_is_number T) (hr.mono (by decide)) (by rfl) T.g_is_number T.F_is_number.kp T.b_is_number (ea_cons (ev_var 0) (ea_cons (ev_int) (ea_cons (ev_globI (by rfl) T.c_MOST_NEED) (ea_nil)))))))))))))
theorem ok_awake_in : FnOk P w K mg base CX0 1 (fa 7) (fd 7) ["night", "begins", "hour"] (sp0 K tabs 3 f_awake_in) :=
  hid_f (fn0 T.F_awake_in sc_awake_in (by decide) fun cdv A outer s H E p hr =>
    es_one (es_ret (ev_callB opN_len (by rfl) T.z_len bt_len (ea_cons (hid_e (ev_lc (own := [("begin", 3)]) (by decide) rfl sc_awake_in.nd (ei_seq (ev_var 1)) (blkOk_by (own := [("begin", 3)]) (N := N_awake_in) (sc := defScope s_awake_in) (by decide +kernel)) (fun p s H C cl fp => eg_name (i := 3) sc_awake_in.nd rfl (by first | exact .inl rfl | exact .inr rfl)) (fun p s H C cl fp => ets_one (et_chain2 (op2_leX (hu100 hr)) (op2_ltX (hu100 hr)) (ev_var 3) (ev_var 2) (ev_bin op2_add (ev_var 3) (ev_ix (ev_var 0) (ev_int))))) (fun p s H C cl fp => ev_var 3))) (ea_nil)))))
theorem ok_is_rota : FnOk P w K mg base CX0 7 (fa 8) (fd 8) ["night", "value"] (sp0 K tabs 2 f_is_rota) :=
  hid_f (fn0C T.F_is_rota T.e_is_rota sc_is_rota (by decide) fun A outer s H E p hr =>
    es_cons (es_set (i := 2) sc_is_rota.nd rfl (.inr rfl) (ev_ix (ev_var 0) (ev_int)))
    (es_cons (es_if (et_of (ew_or (et_not (et_val (eb_is (T := "tuple") (by decide) (by rfl) T.z_isinstance (by rfl) T.z_tuple bt_tuple (ev_var 1)))) (ew_or1 (et_not (et_val (hid_eb (eb_all (k := 1) (hr.mono (by decide)) (by rfl) T.z_all T.t_is_rota rfl T.m_is_rota (genOk_by (M := N_is_rota) (sc := defScope s_is_rota) (N := N_G_is_rota_1) (ixs := [2]) (m := 1) (by decide +kernel)) (eq_seq (ev_var 1)) (fun p s H C code fp pn hr => eg_name (i := 1) nd_G_is_rota_1 rfl (.inl rfl)) (fun p s H C code fp pn hr => ets_nil) (fun p s H C code fp pn hr => ev_toB (ev_call (ok_is_number T) (hr.mono (by decide)) (by rfl) T.g_is_number T.F_is_number.kp T.b_is_number (ea_cons (ev_var 1) (ea_cons (ev_int) (ea_cons (ev_bin op2_sub (ev_callB opN_len (by rfl) T.z_len bt_len (ea_cons (ev_var 0) (ea_nil))) (ev_int)) (ea_nil))))))))))))) (es_one (es_ret (ev_bl))) (es_nil))
    (es_cons (es_if (et_not (et_val (hid_eb (eb_all (k := 0) (hr.mono (by decide)) (by rfl) T.z_all T.t_is_rota rfl T.m_is_rota (genOk_by (M := N_is_rota) (sc := defScope s_is_rota) (N := N_G_is_rota_2) (ixs := [1]) (m := 1) (by decide +kernel)) (PIv.q (ei_range2 (by rfl) T.z_range (ea_cons (ev_int) (ea_cons (ev_callB opN_len (by rfl) T.z_len bt_len (ea_cons (ev_var 1) (ea_nil))) (ea_nil))))) (fun p s H C code fp pn hr => eg_name (i := 1) nd_G_is_rota_2 rfl (.inl rfl)) (fun p s H C code fp pn hr => ets_nil) (fun p s H C code fp pn hr => ev_toB (ev_cmp (op2_leX (hu100 hr)) (ev_ix (ev_var 0) (ev_bin op2_sub (ev_var 1) (ev_int))) (ev_ix (ev_var 0) (ev_var 1)))))))) (es_one (es_ret (ev_bl))) (es_nil))
    (es_one (es_ret (ev_ofB (hid_eb (eb_all (k := 1) (hr.mono (by decide)) (by rfl) T.z_all T.t_is_rota rfl T.m_is_rota (genOk_by (M := N_is_rota) (sc := defScope s_is_rota) (N := N_G_is_rota_3) (ixs := [0, 1]) (m := 2) (by decide +kernel)) (PIv.q (ei_enum (by rfl) T.z_enumerate (ev_var 2))) (fun p s H C code fp pn hr => eg_tup rfl (egs_cons (eg_name (i := 2) nd_G_is_rota_3 rfl (.inl rfl)) (egs_cons (eg_name (i := 3) nd_G_is_rota_3 rfl (.inl rfl)) (egs_nil)))) (fun p s H C code fp pn hr => ets_nil) (fun p s H C code fp pn hr => ev_toB (ev_cmp (op2_geX (hu100 hr)) (ev_call (ok_awake_in T) (hr.mono (by decide)) (by rfl) T.g_awake_in T.F_awake_in.kp T.b_awake_in (ea_cons (ev_var 0) (ea_cons (ev_var 1) (ea_cons (ev_var 2) (ea_nil))))) (ev_var 3)))))))))))
theorem ok_fewest_shifts : FnOk P w K mg base CX0 2 (fa 9) (fd 9) ["night"] (sp0 K tabs 1 f_fewest_shifts) :=
  hid_f (fn0 T.F_fewest_shifts sc_fewest_shifts (by decide) fun cdv A outer s H E p hr =>
    es_cons (es_set (i := 1) sc_fewest_shifts.nd rfl (.inl rfl) (ev_lst (ea_nil)))
    (es_cons (es_for PassesOwn.never rfl (ei_enum (by rfl) T.z_enumerate (ev_ix (ev_var 0) (ev_int))) (eg_tup rfl (egs_cons (eg_name (i := 2) sc_fewest_shifts.nd rfl (.inl rfl)) (egs_cons (eg_name (i := 3) sc_fewest_shifts.nd rfl (.inl rfl)) (egs_nil)))) (hid_b (es_cons (es_set (i := 4) sc_fewest_shifts.nd rfl (.inl rfl) (ev_bin op2_sub (ev_var 3) (ev_callBw (ok_awake_in T) (hr.mono (by decide)) (by rfl) T.g_awake_in T.F_awake_in.kp T.b_awake_in (ea_cons (ev_var 0) (ea_cons (ev_var 1) (ea_cons (ev_var 2) (ea_nil)))))))
    (es_one (es_drop (ev_extend (ev_var 1) (ev_bin op2_mul (ev_lst (ea_cons (ev_var 2) (ea_nil))) (ev_callB (opN_max2X rfl (hu100 hr)) (by rfl) T.z_max bt_max (ea_cons (ev_int) (ea_cons (ev_var 4) (ea_nil)))))))))))
    (es_one (es_ret (ev_callTy opN_tuple (by rfl) T.z_tuple bt_tuple (ea_cons (ev_var 1) (ea_nil)))))))
theorem ok_are_apart : FnOk P w K mg base CX0 7 (fa 10) (fd 10) ["night", "value"] (sp0 K tabs 2 f_are_apart) :=
  hid_f (fn0C T.F_are_apart T.e_are_apart sc_are_apart (by decide) fun A outer s H E p hr =>
    es_cons (es_asg (ev_var 0) (eg_tup rfl (egs_cons (eg_name (i := 3) sc_are_apart.nd rfl (.inr rfl)) (egs_cons (eg_name (i := 2) sc_are_apart.nd rfl (.inr rfl)) (egs_nil)))))
    (es_cons (es_if (et_of (ew_or (et_not (et_val (eb_is (T := "tuple") (by decide) (by rfl) T.z_isinstance (by rfl) T.z_tuple bt_tuple (ev_var 1)))) (ew_or1 (et_not (et_val (hid_eb (eb_all (k := 1) (hr.mono (by decide)) (by rfl) T.z_all T.t_are_apart rfl T.m_are_apart (genOk_by (M := N_are_apart) (sc := defScope s_are_apart) (N := N_G_are_apart_1) (ixs := [3]) (m := 1) (by decide +kernel)) (eq_seq (ev_var 1)) (fun p s H C code fp pn hr => eg_name (i := 1) nd_G_are_apart_1 rfl (.inl rfl)) (fun p s H C code fp pn hr => ets_nil) (fun p s H C code fp pn hr => ev_toB (ev_call (ok_is_number T) (hr.mono (by decide)) (by rfl) T.g_is_number T.F_is_number.kp T.b_is_number (ea_cons (ev_var 1) (ea_cons (ev_int) (ea_cons (ev_bin op2_sub (ev_callB opN_len (by rfl) T.z_len bt_len (ea_cons (ev_var 0) (ea_nil))) (ev_int)) (ea_nil))))))))))))) (es_one (es_ret (ev_bl))) (es_nil))
    (es_one (es_ret (ev_ofB (hid_eb (eb_all (k := 0) (hr.mono (by decide)) (by rfl) T.z_all T.t_are_apart rfl T.m_are_apart (genOk_by (M := N_are_apart) (sc := defScope s_are_apart) (N := N_G_are_apart_2) (ixs := [2, 1]) (m := 1) (by decide +kernel)) (PIv.q (ei_range2 (by rfl) T.z_range (ea_cons (ev_int) (ea_cons (ev_callB opN_len (by rfl) T.z_len bt_len (ea_cons (ev_var 1) (ea_nil))) (ea_nil))))) (fun p s H C code fp pn hr => eg_name (i := 2) nd_G_are_apart_2 rfl (.inl rfl)) (fun p s H C code fp pn hr => ets_nil) (fun p s H C code fp pn hr => ev_toB (ev_cmp (op2_geX (hu100 hr)) (ev_bin op2_sub (ev_ix (ev_var 1) (ev_var 2)) (ev_ix (ev_var 1) (ev_bin op2_sub (ev_var 2) (ev_int)))) (ev_var 0))))))))))
theorem ok_hours_apart : FnOk P w K mg base CX0 1 (fa 11) (fd 11) ["night"] (sp0 K tabs 1 f_hours_apart) :=
  hid_f (fn0 T.F_hours_apart sc_hours_apart (by decide) fun cdv A outer s H E p hr =>
    es_cons (es_asg (ev_var 0) (eg_tup rfl (egs_cons (eg_name (i := 1) sc_hours_apart.nd rfl (.inl rfl)) (egs_cons (eg_name (i := 2) sc_hours_apart.nd rfl (.inl rfl)) (egs_nil)))))
    (es_cons (es_set (i := 3) sc_hours_apart.nd rfl (.inl rfl) (ev_bin op2_mul (ev_lst (ea_cons (ev_tup (ea_cons (ev_int) (ea_cons (ev_tup (ea_nil)) (ea_nil)))) (ea_nil))) (ev_bin op2_add (ev_callB opN_len (by rfl) T.z_len bt_len (ea_cons (ev_var 1) (ea_nil))) (ev_var 2))))
    (es_cons (es_for PassesOwn.never rfl (ei_range3 (by rfl) T.z_range (ea_cons (ev_bin op2_sub (ev_callB opN_len (by rfl) T.z_len bt_len (ea_cons (ev_var 1) (ea_nil))) (ev_int)) (ea_cons (ev_neg (ev_int)) (ea_cons (ev_neg (ev_int)) (ea_nil))))) (eg_name (i := 4) sc_hours_apart.nd rfl (.inl rfl)) (hid_b (es_cons (es_asg (ev_ix (ev_var 3) (ev_bin op2_add (ev_var 4) (ev_var 2))) (eg_tup rfl (egs_cons (eg_name (i := 5) sc_hours_apart.nd rfl (.inl rfl)) (egs_cons (eg_name (i := 6) sc_hours_apart.nd rfl (.inl rfl)) (egs_nil)))))
    (es_one (es_setItem (ev_var 3) (ev_var 4) (ev_callB (opN_min2X rfl (hu100 hr)) (by rfl) T.z_min bt_min (ea_cons (ev_ix (ev_var 3) (ev_bin op2_add (ev_var 4) (ev_int))) (ea_cons (ev_tup (ea_cons (ev_bin op2_sub (ev_var 5) (ev_ix (ev_var 1) (ev_var 4))) (ea_cons (ev_tup (ea_cons (ev_var 4) (ea_star (ev_var 6) (ea_nil)))) (ea_nil)))) (ea_nil)))))))))
    (es_one (es_ret (ev_ix (ev_ix (ev_var 3) (ev_int)) (ev_int)))))))
theorem ok__law_draws : FnOk P w K mg base CX0 1 (fa 13) (fd 13) ["script"] (sp0 K tabs 1 f__law_draws) :=
  hid_f (fn0 T.F__law_draws sc__law_draws (by decide) fun cdv A outer s H E p hr =>
    es_cons (es_set (i := 1) sc__law_draws.nd rfl (.inl rfl) (ev_lst (ea_nil)))
    (es_cons (es_for PassesOwn.never rfl (ei_seq (ev_var 0)) (eg_name (i := 2) sc__law_draws.nd rfl (.inl rfl)) (hid_b (es_cons (es_set (i := 3) sc__law_draws.nd rfl (.inl rfl) (ev_callB opN_abs (by rfl) T.z_abs bt_abs (ea_cons (ev_var 2) (ea_nil))))
    (es_cons (es_if (et_cmp op2_lt (ev_var 3) (ev_bin op2_pow (ev_int) (ev_int))) (es_cons (es_set (i := 4) sc__law_draws.nd rfl (.inl rfl) (ev_bin op2_mod (ev_callTy opN_int (by rfl) T.z_int bt_int (ea_cons (ev_bin op2_add (ev_bin op2_mul (ev_var 3) (ev_int)) (ev_int)) (ea_nil))) (ev_int)))
    (es_cons (es_drop (ev_append (ev_var 1) (ev_bin op2_mod (ev_callTy opN_int (by rfl) T.z_int bt_int (ea_cons (ev_bin op2_add (ev_bin op2_mul (ev_var 4) (ev_int)) (ev_var 3)) (ea_nil))) (ev_int))))
    (es_cons (es_drop (ev_append (ev_var 1) (ev_bin op2_mod (ev_callTy opN_int (by rfl) T.z_int bt_int (ea_cons (ev_bin op2_add (ev_var 4) (ev_bin op2_fdiv (ev_var 3) (ev_int))) (ea_nil))) (ev_int))))
    (es_one (es_set (i := 3) sc__law_draws.nd rfl (.inl rfl) (ev_int)))))) (es_nil))
    (es_one (es_for PassesOwn.never rfl (ei_range1 (by rfl) T.z_range (ea_cons (ev_int) (ea_nil))) (eg_name (i := 5) sc__law_draws.nd rfl (.inl rfl)) (hid_b (es_one (es_if (et_cmp op2_gt (ev_var 3) (ev_int)) (es_cons (es_drop (ev_append (ev_var 1) (ev_bin op2_mod (ev_callTy opN_int (by rfl) T.z_int bt_int (ea_cons (ev_var 3) (ea_nil))) (ev_int))))
    (es_one (es_set (i := 3) sc__law_draws.nd rfl (.inl rfl) (ev_bin op2_fdiv (ev_var 3) (ev_int))))) (es_nil))))))))))
    (es_cons (es_set (i := 6) sc__law_draws.nd rfl (.inl rfl) (ev_int))
    (es_cons (es_if (et_cmp op2_gt (ev_callB opN_len (by rfl) T.z_len bt_len (ea_cons (ev_var 0) (ea_nil))) (ev_int)) (es_one (es_set (i := 6) sc__law_draws.nd rfl (.inl rfl) (ev_bin op2_add (ev_int) (ev_callB opN_abs (by rfl) T.z_abs bt_abs (ea_cons (ev_ix (ev_var 0) (ev_int)) (ea_nil)))))) (es_nil))
    (es_cons (es_for PassesOwn.never rfl (ei_range1 (by rfl) T.z_range (ea_cons (ev_int) (ea_nil))) (eg_name (i := 5) sc__law_draws.nd rfl (.inl rfl)) (hid_b (es_cons (es_set (i := 6) sc__law_draws.nd rfl (.inl rfl) (ev_bin op2_mod (ev_callTy opN_int (by rfl) T.z_int bt_int (ea_cons (ev_bin op2_add (ev_bin op2_mul (ev_var 6) (ev_int)) (ev_int)) (ea_nil))) (ev_int)))
    (es_one (es_drop (ev_append (ev_var 1) (ev_bin op2_fdiv (ev_var 6) (ev_int))))))))
    (es_one (es_ret (ev_listRev rfl (by rfl) T.z_list (by rfl) T.z_reversed (ev_var 1)))))))))
theorem ok__law_take : FnOk P w K mg base CX0 1 (fa 14) (fd 14) ["draws", "bound"] (spL K tabs 2 f__law_take) :=
  hid_l (fnL T.F__law_take sc__law_take (by decide) fun cdv A outer s H E p m hr =>
    es_cons (es_if (et_cmp (op2_eq (hu100 hr)) (ev_callB opN_len (by rfl) T.z_len bt_len (ea_cons (ev_var 0) (ea_nil))) (ev_int)) (es_one (es_ret (ev_int))) (es_nil))
    (es_one (es_ret (ev_bin op2_mod (ev_callTy opN_int (by rfl) T.z_int bt_int (ea_cons (ev_pop (ev_var 0)) (ea_nil))) (ev_var 1)))))
theorem ok__law_alike : ∀ n : Nat, FnOk P w K mg base CX0 (n + 1) (fa 15) (fd 15) ["found", "due"] (sp0 K tabs 2 (f__law_alike n))
  | 0 => fn_stuck fun _ => rfl
  | n + 1 => by
    have ih := ok__law_alike n
    rw [show n + 1 + 1 = (n + 1) + 1 by omega]
    exact hid_f (fn0 T.F__law_alike sc__law_alike (by decide) fun cdv A outer s H E p hr =>
        es_cons (es_if (et_of (ew_or (et_val (eb_is (T := "list") (by decide) (by rfl) T.z_isinstance (by rfl) T.z_list bt_list (ev_var 1))) (ew_or1 (et_val (eb_is (T := "tuple") (by decide) (by rfl) T.z_isinstance (by rfl) T.z_tuple bt_tuple (ev_var 1)))))) (es_cons (es_if (et_of (ew_or (et_cmp (op2_ne (hu100 hr)) (ev_ofB (eb_is (T := "list") (by decide) (by rfl) T.z_isinstance (by rfl) T.z_list bt_list (ev_var 0))) (ev_ofB (eb_is (T := "list") (by decide) (by rfl) T.z_isinstance (by rfl) T.z_list bt_list (ev_var 1)))) (ew_or1 (et_cmp (op2_ne (hu100 hr)) (ev_ofB (eb_is (T := "tuple") (by decide) (by rfl) T.z_isinstance (by rfl) T.z_tuple bt_tuple (ev_var 0))) (ev_ofB (eb_is (T := "tuple") (by decide) (by rfl) T.z_isinstance (by rfl) T.z_tuple bt_tuple (ev_var 1))))))) (es_one (es_ret (ev_bl))) (es_nil))
        (es_one (es_ret (ev_ofB (eb_and (ev_toB (ev_cmp (op2_eq (hu100 hr)) (ev_callB opN_len (by rfl) T.z_len bt_len (ea_cons (ev_var 0) (ea_nil))) (ev_callB opN_len (by rfl) T.z_len bt_len (ea_cons (ev_var 1) (ea_nil))))) (eb_one (ev_toB (ev_cmp (op2_eq (hu100 hr)) (hid_e (ev_lc (own := [("k", 2)]) (by decide) rfl sc__law_alike.nd (ei_range1 (by rfl) T.z_range (ea_cons (ev_callB opN_len (by rfl) T.z_len bt_len (ea_cons (ev_var 1) (ea_nil))) (ea_nil))) (blkOk_by (own := [("k", 2)]) (N := N__law_alike) (sc := defScope s__law_alike) (by decide +kernel)) (fun p s H C cl fp => eg_name (i := 2) sc__law_alike.nd rfl (by first | exact .inl rfl | exact .inr rfl)) (fun p s H C cl fp => ets_one (et_not (et_truth (ev_call ih (hr.mono (by omega)) (by rfl) T.g__law_alike T.F__law_alike.kp T.b__law_alike (ea_cons (ev_ix (ev_var 0) (ev_var 2)) (ea_cons (ev_ix (ev_var 1) (ev_var 2)) (ea_nil))))))) (fun p s H C cl fp => ev_var 2))) (ev_lst (ea_nil)))))))))) (es_nil))
        (es_cons (es_if (et_cmp op2_is (ev_var 1) (ev_non)) (es_one (es_ret (ev_cmp op2_is (ev_var 0) (ev_non)))) (es_nil))
        (es_cons (es_if (et_of (ew_or (et_val (eb_is (T := "bool") (by decide) (by rfl) T.z_isinstance (by rfl) T.z_bool bt_bool (ev_var 1))) (ew_or1 (et_val (eb_is (T := "bool") (by decide) (by rfl) T.z_isinstance (by rfl) T.z_bool bt_bool (ev_var 0)))))) (es_one (es_ret (ev_ofB (eb_and (eb_is (T := "bool") (by decide) (by rfl) T.z_isinstance (by rfl) T.z_bool bt_bool (ev_var 0)) (eb_and (eb_is (T := "bool") (by decide) (by rfl) T.z_isinstance (by rfl) T.z_bool bt_bool (ev_var 1)) (eb_one (ev_toB (ev_cmp (op2_eq (hu100 hr)) (ev_var 0) (ev_var 1))))))))) (es_nil))
        (es_cons (es_if (et_val (eb_is (T := "int") (by decide) (by rfl) T.z_isinstance (by rfl) T.z_int bt_int (ev_var 1))) (es_one (es_ret (ev_ofB (eb_and (eb_is (T := "int") (by decide) (by rfl) T.z_isinstance (by rfl) T.z_int bt_int (ev_var 0)) (eb_one (ev_toB (ev_cmp (op2_eq (hu100 hr)) (ev_var 0) (ev_var 1)))))))) (es_nil))
        (es_one (es_ret (ev_ofB (eb_and (eb_is (T := "str") (by decide) (by rfl) T.z_isinstance (by rfl) T.z_str bt_str (ev_var 0)) (eb_one (ev_toB (ev_cmp (op2_eq (hu100 hr)) (ev_var 0) (ev_var 1))))))))))))
theorem ok__law_night : FnOk P w K mg base CX0 2 (fa 16) (fd 16) ["draws"] (spL K tabs 1 f__law_night) :=
  hid_l (fnL T.F__law_night sc__law_night (by decide) fun cdv A outer s H E p m hr =>
    es_cons (es_set (i := 1) sc__law_night.nd rfl (.inr rfl) (ev_ix (ev_lst (ea_cons (ev_int) (ea_cons (ev_int) (ea_cons (ev_int) (ea_nil))))) (ev_callL (ok__law_take T) (hr.mono (by decide)) (by rfl) T.g__law_take T.F__law_take.kp T.b__law_take (ev_var 0) (ea_cons (ev_int) (ea_nil)))))
    (es_one (es_ret (ev_tup (ea_cons (ev_callTy opN_tuple (by rfl) T.z_tuple bt_tuple (ea_cons (hid_e (ev_lc (own := [("hour", 2)]) (by decide) rfl sc__law_night.nd (ei_range1 (by rfl) T.z_range (ea_cons (ev_bin op2_add (ev_int) (ev_callL (ok__law_take T) (hr.mono (by decide)) (by rfl) T.g__law_take T.F__law_take.kp T.b__law_take (ev_var 0) (ea_cons (ev_int) (ea_nil)))) (ea_nil))) (blkOk_by (own := [("hour", 2)]) (N := N__law_night) (sc := defScope s__law_night) (by decide +kernel)) (fun p s H C cl fp => eg_name (i := 2) sc__law_night.nd rfl (by first | exact .inl rfl | exact .inr rfl)) (fun p s H C cl fp => ets_nil) (fun p s H C cl fp => ev_bin op2_mul (ev_callL (ok__law_take T) (hr.mono (by decide)) (by rfl) T.g__law_take T.F__law_take.kp T.b__law_take (ev_var 0) (ea_cons (ev_var 1) (ea_nil))) (ev_callTy opN_int (by rfl) T.z_int bt_int (ea_cons (ev_cmp (op2_gtX (hu100 hr)) (ev_callL (ok__law_take T) (hr.mono (by decide)) (by rfl) T.g__law_take T.F__law_take.kp T.b__law_take (ev_var 0) (ea_cons (ev_int) (ea_nil))) (ev_int)) (ea_nil)))))) (ea_nil))) (ea_cons (ev_bin op2_add (ev_int) (ev_callL (ok__law_take T) (hr.mono (by decide)) (by rfl) T.g__law_take T.F__law_take.kp T.b__law_take (ev_var 0) (ea_cons (ev_ix (ev_lst (ea_cons (ev_int) (ea_cons (ev_int) (ea_nil)))) (ev_callL (ok__law_take T) (hr.mono (by decide)) (by rfl) T.g__law_take T.F__law_take.kp T.b__law_take (ev_var 0) (ea_cons (ev_int) (ea_nil)))) (ea_nil)))) (ea_nil)))))))
theorem ok__law_awake : FnOk P w K mg base CX0 1 (fa 17) (fd 17) ["night", "row", "hour"] (sp0 K tabs 3 f__law_awake) :=
  hid_f (fn0 T.F__law_awake sc__law_awake (by decide) fun cdv A outer s H E p hr =>
    es_one (es_ret (ev_callB opN_len (by rfl) T.z_len bt_len (ea_cons (hid_e (ev_lc (own := [("begin", 3)]) (by decide) rfl sc__law_awake.nd (ei_seq (ev_var 1)) (blkOk_by (own := [("begin", 3)]) (N := N__law_awake) (sc := defScope s__law_awake) (by decide +kernel)) (fun p s H C cl fp => eg_name (i := 3) sc__law_awake.nd rfl (by first | exact .inl rfl | exact .inr rfl)) (fun p s H C cl fp => ets_one (et_chain2 (op2_ltX (hu100 hr)) (op2_leX (hu100 hr)) (ev_bin op2_sub (ev_var 2) (ev_ix (ev_var 0) (ev_int))) (ev_var 3) (ev_var 2))) (fun p s H C cl fp => ev_var 3))) (ea_nil)))))
theorem ok__law_is_rota : FnOk P w K mg base CX0 2 (fa 18) (fd 18) ["night", "row"] (sp0 K tabs 2 f__law_is_rota) :=
  hid_f (fn0 T.F__law_is_rota sc__law_is_rota (by decide) fun cdv A outer s H E p hr =>
    es_one (es_ret (ev_cmp (op2_eq (hu100 hr)) (hid_e (ev_lc (own := [("hour", 2)]) (by decide) rfl sc__law_is_rota.nd (ei_range1 (by rfl) T.z_range (ea_cons (ev_callB opN_len (by rfl) T.z_len bt_len (ea_cons (ev_ix (ev_var 0) (ev_int)) (ea_nil))) (ea_nil))) (blkOk_by (own := [("hour", 2)]) (N := N__law_is_rota) (sc := defScope s__law_is_rota) (by decide +kernel)) (fun p s H C cl fp => eg_name (i := 2) sc__law_is_rota.nd rfl (by first | exact .inl rfl | exact .inr rfl)) (fun p s H C cl fp => ets_one (et_cmp (op2_ltX (hu100 hr)) (ev_call (ok__law_awake T) (hr.mono (by decide)) (by rfl) T.g__law_awake T.F__law_awake.kp T.b__law_awake (ea_cons (ev_var 0) (ea_cons (ev_var 1) (ea_cons (ev_var 2) (ea_nil))))) (ev_ix (ev_ix (ev_var 0) (ev_int)) (ev_var 2)))) (fun p s H C cl fp => ev_var 2))) (ev_lst (ea_nil)))))
theorem ok_law : FnOk P w K mg base CX0 14 (fa 19) (fd 19) ["script"] (sp0 K tabs 1 f_law) :=
  hid_f (fn0 T.F_law sc_law (by decide) fun cdv A outer s H E p hr =>
    es_cons (hid_s (es_set (i := 1) sc_law.nd rfl (.inr rfl) (ev_call (ok__law_draws T) (hr.mono (by decide)) (by rfl) T.g__law_draws T.F__law_draws.kp T.b__law_draws (ea_cons (ev_var 0) (ea_nil)))))
    (es_cons (hid_s (es_set (i := 2) sc_law.nd rfl (.inr rfl) (ev_callL (ok__law_night T) (hr.mono (by decide)) (by rfl) T.g__law_night T.F__law_night.kp T.b__law_night (ev_var 1) (ea_nil))))
    (es_cons (hid_s (es_asg (ev_var 2) (eg_tup rfl (egs_cons (eg_name (i := 3) sc_law.nd rfl (.inr rfl)) (egs_cons (eg_name (i := 4) sc_law.nd rfl (.inr rfl)) (egs_nil))))))
    (es_cons (hid_s (es_set (i := 5) sc_law.nd rfl (.inr rfl) (ev_callB opN_len (by rfl) T.z_len bt_len (ea_cons (ev_var 3) (ea_nil)))))
    (es_cons (hid_s (es_set (i := 6) sc_law.nd rfl (.inl rfl) (ev_bin op2_add (ev_lst (ea_cons (ev_non) (ea_cons (ev_callTy opN_list (by rfl) T.z_list bt_list (ea_cons (ev_var 2) (ea_nil))) (ea_cons (ev_tup (ea_cons (ev_var 3) (ea_nil))) (ea_cons (ev_bin op2_add (ev_var 2) (ev_tup (ea_cons (ev_int) (ea_nil)))) (ea_cons (ev_tup (ea_cons (ev_tup (ea_nil)) (ea_cons (ev_var 4) (ea_nil)))) (ea_cons (ev_tup (ea_cons (ev_bin op2_mul1 (ev_tup (ea_cons (ev_int) (ea_nil))) (ev_int)) (ea_cons (ev_var 4) (ea_nil)))) (ea_cons (ev_tup (ea_cons (ev_callTy opN_list (by rfl) T.z_list bt_list (ea_cons (ev_var 3) (ea_nil))) (ea_cons (ev_var 4) (ea_nil)))) (ea_cons (ev_str) (ea_cons (ev_int) (ea_nil))))))))))) (hid_e (ev_lc (own := [("one", 17)]) (by decide) rfl sc_law.nd (ei_seq (ev_lst (ea_cons (ev_int) (ea_cons (ev_int) (ea_cons (ev_non) (ea_cons (ev_bl) (ea_nil))))))) (blkOk_by (own := [("one", 17)]) (N := N_law) (sc := defScope s_law) (by decide +kernel)) (fun p s H C cl fp => eg_name (i := 17) sc_law.nd rfl (by first | exact .inl rfl | exact .inr rfl)) (fun p s H C cl fp => ets_nil) (fun p s H C cl fp => ev_tup (ea_cons (ev_var 3) (ea_cons (ev_var 17) (ea_nil)))))))))
    (es_cons (hid_s (es_set (i := 6) sc_law.nd rfl (.inl rfl) (ev_bin op2_add (ev_var 6) (hid_e (ev_lc (own := [("one", 17)]) (by decide) rfl sc_law.nd (ei_seq (ev_lst (ea_cons (ev_neg (ev_int)) (ea_cons (ev_int) (ea_cons (ev_non) (ea_cons (ev_bl) (ea_nil))))))) (blkOk_by (own := [("one", 17)]) (N := N_law) (sc := defScope s_law) (by decide +kernel)) (fun p s H C cl fp => eg_name (i := 17) sc_law.nd rfl (by first | exact .inl rfl | exact .inr rfl)) (fun p s H C cl fp => ets_nil) (fun p s H C cl fp => ev_tup (ea_cons (ev_bin op2_add (ev_slice (ev_var 3) (eo_some (ev_int)) eo_none) (ev_tup (ea_cons (ev_var 17) (ea_nil)))) (ea_cons (ev_var 4) (ea_nil)))))))))
    (es_cons (hid_s (es_if (et_of (ew_or (et_cmp op2_isNot (ev_call (ok_is_night T) (hr.mono (by decide)) (by rfl) T.g_is_night T.F_is_night.kp T.b_is_night (ea_cons (ev_var 2) (ea_nil))) (ev_bl)) (ew_or (et_cmp op2_isNot (ev_call (ok_is_night T) (hr.mono (by decide)) (by rfl) T.g_is_night T.F_is_night.kp T.b_is_night (ea_cons (ev_tup (ea_cons (ev_bin op2_mul1 (ev_tup (ea_cons (ev_int) (ea_nil))) (ev_int)) (ea_cons (ev_int) (ea_nil)))) (ea_nil))) (ev_bl)) (ew_or1 (et_cmp (op2_ne (hu100 hr)) (hid_e (ev_lc (own := [("value", 18)]) (by decide) rfl sc_law.nd (ei_seq (ev_var 6)) (blkOk_by (own := [("value", 18)]) (N := N_law) (sc := defScope s_law) (by decide +kernel)) (fun p s H C cl fp => eg_name (i := 18) sc_law.nd rfl (by first | exact .inl rfl | exact .inr rfl)) (fun p s H C cl fp => ets_one (et_cmp op2_isNot (ev_call (ok_is_night T) (hr.mono (by decide)) (by rfl) T.g_is_night T.F_is_night.kp T.b_is_night (ea_cons (ev_var 18) (ea_nil))) (ev_bl))) (fun p s H C cl fp => ev_var 18))) (ev_lst (ea_nil))))))) (es_one (es_ret (ev_bl))) (es_nil)))
    (es_cons (hid_s (es_set (i := 7) sc_law.nd rfl (.inl rfl) (ev_lst (ea_nil))))
    (es_cons (hid_s (es_for PassesOwn.never rfl (ei_range1 (by rfl) T.z_range (ea_cons (ev_var 5) (ea_nil))) (eg_name (i := 8) sc_law.nd rfl (.inr rfl)) (hid_b (es_one (es_for PassesOwn.never rfl (ei_range1 (by rfl) T.z_range (ea_cons (ev_int) (ea_nil))) (eg_name (i := 9) sc_law.nd rfl (.inl rfl)) (hid_b (es_one (es_if (et_cmp (op2_ltX (hu100 hr)) (ev_callBw (ok__law_awake T) (hr.mono (by decide)) (by rfl) T.g__law_awake T.F__law_awake.kp T.b__law_awake (ea_cons (ev_var 2) (ea_cons (ev_var 7) (ea_cons (ev_var 8) (ea_nil))))) (ev_ix (ev_var 3) (ev_var 8))) (es_one (es_drop (ev_append (ev_var 7) (ev_var 8)))) (es_nil)))))))))
    (es_cons (hid_s (es_set (i := 10) sc_law.nd rfl (.inr rfl) (ev_call (ok_fewest_shifts T) (hr.mono (by decide)) (by rfl) T.g_fewest_shifts T.F_fewest_shifts.kp T.b_fewest_shifts (ea_cons (ev_var 2) (ea_nil)))))
    (es_cons (hid_s (es_if (et_of (ew_or (et_not (et_truth (ev_call (ok__law_alike T 12) (hr.mono (by omega)) (by rfl) T.g__law_alike T.F__law_alike.kp T.b__law_alike (ea_cons (ev_var 10) (ea_cons (ev_callTy opN_tuple (by rfl) T.z_tuple bt_tuple (ea_cons (ev_var 7) (ea_nil))) (ea_nil)))))) (ew_or (et_not (et_truth (ev_call (ok__law_is_rota T) (hr.mono (by decide)) (by rfl) T.g__law_is_rota T.F__law_is_rota.kp T.b__law_is_rota (ea_cons (ev_var 2) (ea_cons (ev_var 10) (ea_nil)))))) (ew_or1 (et_cmp op2_isNot (ev_call (ok_is_rota T) (hr.mono (by decide)) (by rfl) T.g_is_rota T.F_is_rota.kp T.b_is_rota (ea_cons (ev_var 2) (ea_cons (ev_var 10) (ea_nil)))) (ev_bl)))))) (es_one (es_ret (ev_bl))) (es_nil)))
    (es_cons (hid_s (es_set (i := 11) sc_law.nd rfl (.inl rfl) (ev_lst (ea_cons (ev_tup (ea_nil)) (ea_nil)))))
    (es_cons (hid_s (es_for PassesOwn.never rfl (ei_range1 (by rfl) T.z_range (ea_cons (ev_var 5) (ea_nil))) (eg_name (i := 8) sc_law.nd rfl (.inr rfl)) (hid_b (es_one (es_set (i := 11) sc_law.nd rfl (.inl rfl) (ev_bin op2_add (ev_var 11) (hid_e (ev_lc (own := [("row", 12)]) (by decide) rfl sc_law.nd (ei_seq (ev_var 11)) (blkOk_by (own := [("row", 12)]) (N := N_law) (sc := defScope s_law) (by decide +kernel)) (fun p s H C cl fp => eg_name (i := 12) sc_law.nd rfl (by first | exact .inl rfl | exact .inr rfl)) (fun p s H C cl fp => ets_one (et_of (ew_or (et_cmp (op2_eq (hu100 hr)) (ev_var 12) (ev_tup (ea_nil))) (ew_or1 (et_cmp (op2_geX (hu100 hr)) (ev_bin op2_sub (ev_var 8) (ev_ix (ev_var 12) (ev_neg (ev_int)))) (ev_var 4)))))) (fun p s H C cl fp => ev_bin op2_add (ev_var 12) (ev_tup (ea_cons (ev_var 8) (ea_nil))))))))))))
    (es_cons (hid_s (es_set (i := 13) sc_law.nd rfl (.inl rfl) (ev_callB (opN_min rfl (hu100 hr)) (by rfl) T.z_min bt_min (ea_cons (hid_e (ev_lc (own := [("row", 12)]) (by decide) rfl sc_law.nd (ei_seq (ev_var 11)) (blkOk_by (own := [("row", 12)]) (N := N_law) (sc := defScope s_law) (by decide +kernel)) (fun p s H C cl fp => eg_name (i := 12) sc_law.nd rfl (by first | exact .inl rfl | exact .inr rfl)) (fun p s H C cl fp => ets_nil) (fun p s H C cl fp => ev_tup (ea_cons (ev_bin op2_sub (ev_int) (ev_callB (opN_sum rfl) (by rfl) T.z_sum bt_sum (ea_cons (hid_e (ev_lc (own := [("hour", 8)]) (by decide) rfl sc_law.nd (ei_seq (ev_var 12)) (blkOk_by (own := [("hour", 8)]) (by kernel_rfl)) (fun p s H C cl fp => eg_name (i := 8) sc_law.nd rfl (by first | exact .inl rfl | exact .inr rfl)) (fun p s H C cl fp => ets_nil) (fun p s H C cl fp => ev_ix (ev_var 3) (ev_var 8)))) (ea_nil)))) (ea_cons (ev_var 12) (ea_nil)))))) (ea_nil)))))
    (es_cons (hid_s (es_if (et_of (ew_or (et_not (et_truth (ev_call (ok__law_alike T 12) (hr.mono (by omega)) (by rfl) T.g__law_alike T.F__law_alike.kp T.b__law_alike (ea_cons (ev_call (ok_hours_apart T) (hr.mono (by decide)) (by rfl) T.g_hours_apart T.F_hours_apart.kp T.b_hours_apart (ea_cons (ev_var 2) (ea_nil))) (ea_cons (ev_ix (ev_var 13) (ev_int)) (ea_nil)))))) (ew_or1 (et_cmp (op2_ne (hu100 hr)) (ev_callB opN_len (by rfl) T.z_len bt_len (ea_cons (ev_var 10) (ea_nil))) (ev_bin op2_sub (ev_int) (ev_ix (ev_var 13) (ev_int))))))) (es_one (es_ret (ev_bl))) (es_nil)))
    (es_cons (hid_s (es_for PassesOwn.never rfl (ei_range1 (by rfl) T.z_range (ea_cons (ev_int) (ea_nil))) (eg_name (i := 9) sc_law.nd rfl (.inl rfl)) (hid_b (es_cons (es_set (i := 15) sc_law.nd rfl (.inl rfl) (ev_callTy opN_tuple (by rfl) T.z_tuple bt_tuple (ea_cons (ev_callB (opN_sorted (hu100 hr)) (by rfl) T.z_sorted bt_sorted (ea_cons (ev_bin op2_add (ev_callTy opN_list (by rfl) T.z_list bt_list (ea_cons (ev_var 10) (ea_nil))) (hid_e (ev_lc (own := [("k", 14)]) (by decide) rfl sc_law.nd (ei_range1 (by rfl) T.z_range (ea_cons (ev_callL (ok__law_take T) (hr.mono (by decide)) (by rfl) T.g__law_take T.F__law_take.kp T.b__law_take (ev_var 1) (ea_cons (ev_int) (ea_nil))) (ea_nil))) (blkOk_by (own := [("k", 14)]) (N := N_law) (sc := defScope s_law) (by decide +kernel)) (fun p s H C cl fp => eg_name (i := 14) sc_law.nd rfl (by first | exact .inl rfl | exact .inr rfl)) (fun p s H C cl fp => ets_nil) (fun p s H C cl fp => ev_callL (ok__law_take T) (hr.mono (by decide)) (by rfl) T.g__law_take T.F__law_take.kp T.b__law_take (ev_var 1) (ea_cons (ev_var 5) (ea_nil)))))) (ea_nil))) (ea_nil))))
    (es_cons (es_set (i := 14) sc_law.nd rfl (.inl rfl) (ev_callL (ok__law_take T) (hr.mono (by decide)) (by rfl) T.g__law_take T.F__law_take.kp T.b__law_take (ev_var 1) (ea_cons (ev_callB (opN_max2X rfl (hu100 hr)) (by rfl) T.z_max bt_max (ea_cons (ev_int) (ea_cons (ev_callB opN_len (by rfl) T.z_len bt_len (ea_cons (ev_var 15) (ea_nil))) (ea_nil)))) (ea_nil))))
    (es_cons (es_set (i := 15) sc_law.nd rfl (.inl rfl) (ev_ifExp (et_cmp (op2_eq (hu100 hr)) (ev_callL (ok__law_take T) (hr.mono (by decide)) (by rfl) T.g__law_take T.F__law_take.kp T.b__law_take (ev_var 1) (ea_cons (ev_int) (ea_nil))) (ev_int)) (ev_bin op2_add (ev_slice (ev_var 15) eo_none (eo_some (ev_var 14))) (ev_slice (ev_var 15) (eo_some (ev_bin op2_add (ev_var 14) (ev_int))) eo_none)) (ev_var 15)))
    (es_cons (es_set (i := 16) sc_law.nd rfl (.inl rfl) (ev_call (ok__law_is_rota T) (hr.mono (by decide)) (by rfl) T.g__law_is_rota T.F__law_is_rota.kp T.b__law_is_rota (ea_cons (ev_var 2) (ea_cons (ev_var 15) (ea_nil)))))
    (es_cons (es_if (et_of (ew_or (et_not (et_truth (ev_call (ok__law_alike T 12) (hr.mono (by omega)) (by rfl) T.g__law_alike T.F__law_alike.kp T.b__law_alike (ea_cons (ev_call (ok_is_rota T) (hr.mono (by decide)) (by rfl) T.g_is_rota T.F_is_rota.kp T.b_is_rota (ea_cons (ev_var 2) (ea_cons (ev_var 15) (ea_nil)))) (ea_cons (ev_var 16) (ea_nil)))))) (ew_or1 (et_of (ew_and (et_truth (ev_var 16)) (ew_and1 (et_cmp (op2_ltX (hu100 hr)) (ev_callB opN_len (by rfl) T.z_len bt_len (ea_cons (ev_var 15) (ea_nil))) (ev_callB opN_len (by rfl) T.z_len bt_len (ea_cons (ev_var 10) (ea_nil)))))))))) (es_one (es_ret (ev_bl))) (es_nil))
    (es_cons (es_set (i := 12) sc_law.nd rfl (.inl rfl) (ev_callTy opN_tuple (by rfl) T.z_tuple bt_tuple (ea_cons (hid_e (ev_lc (own := [("hour", 8)]) (by decide) rfl sc_law.nd (ei_range1 (by rfl) T.z_range (ea_cons (ev_var 5) (ea_nil))) (blkOk_by (own := [("hour", 8)]) (N := N_law) (sc := defScope s_law) (by decide +kernel)) (fun p s H C cl fp => eg_name (i := 8) sc_law.nd rfl (by first | exact .inl rfl | exact .inr rfl)) (fun p s H C cl fp => ets_one (et_cmp (op2_eq (hu100 hr)) (ev_callL (ok__law_take T) (hr.mono (by decide)) (by rfl) T.g__law_take T.F__law_take.kp T.b__law_take (ev_var 1) (ea_cons (ev_int) (ea_nil))) (ev_int))) (fun p s H C cl fp => ev_var 8))) (ea_nil))))
    (es_one (es_if (et_not (et_truth (ev_call (ok__law_alike T 12) (hr.mono (by omega)) (by rfl) T.g__law_alike T.F__law_alike.kp T.b__law_alike (ea_cons (ev_call (ok_are_apart T) (hr.mono (by decide)) (by rfl) T.g_are_apart T.F_are_apart.kp T.b_are_apart (ea_cons (ev_var 2) (ea_cons (ev_var 12) (ea_nil)))) (ea_cons (ev_cmp (op2_in (hu100 hr)) (ev_var 12) (ev_var 11)) (ea_nil)))))) (es_one (es_ret (ev_bl))) (es_nil))))))))))))
    (es_cons (hid_s (es_set (i := 6) sc_law.nd rfl (.inl rfl) (ev_bin op2_add (ev_bin op2_add (ev_lst (ea_cons (ev_non) (ea_cons (ev_callTy opN_list (by rfl) T.z_list bt_list (ea_cons (ev_var 10) (ea_nil))) (ea_cons (ev_tup (ea_cons (ev_var 5) (ea_nil))) (ea_cons (ev_tup (ea_cons (ev_neg (ev_int)) (ea_nil))) (ea_cons (ev_tup (ea_cons (ev_non) (ea_nil))) (ea_cons (ev_str) (ea_cons (ev_int) (ea_nil))))))))) (hid_e (ev_lc (own := [("one", 17)]) (by decide) rfl sc_law.nd (ei_seq (ev_lst (ea_cons (ev_var 5) (ea_cons (ev_neg (ev_int)) (ea_cons (ev_non) (ea_nil)))))) (blkOk_by (own := [("one", 17)]) (N := N_law) (sc := defScope s_law) (by decide +kernel)) (fun p s H C cl fp => eg_name (i := 17) sc_law.nd rfl (by first | exact .inl rfl | exact .inr rfl)) (fun p s H C cl fp => ets_nil) (fun p s H C cl fp => ev_bin op2_add (ev_slice (ev_var 10) eo_none (eo_some (ev_neg (ev_int)))) (ev_tup (ea_cons (ev_var 17) (ea_nil))))))) (ev_bin op2_mul (ev_lst (ea_cons (ev_bin op2_add (ev_var 10) (ev_tup (ea_cons (ev_int) (ea_nil)))) (ea_nil))) (ev_callTy opN_int (by rfl) T.z_int bt_int (ea_cons (ev_ofB (eb_and (ev_toB (ev_cmp (op2_ne (hu100 hr)) (ev_var 10) (ev_tup (ea_nil)))) (eb_one (ev_toB (ev_cmp (op2_gtX (hu100 hr)) (ev_ix (ev_var 10) (ev_neg (ev_int))) (ev_int)))))) (ea_nil)))))))
    (es_cons (hid_s (es_if (et_cmp (op2_ne (hu100 hr)) (hid_e (ev_lc (own := [("value", 18)]) (by decide) rfl sc_law.nd (ei_seq (ev_var 6)) (blkOk_by (own := [("value", 18)]) (N := N_law) (sc := defScope s_law) (by decide +kernel)) (fun p s H C cl fp => eg_name (i := 18) sc_law.nd rfl (by first | exact .inl rfl | exact .inr rfl)) (fun p s H C cl fp => ets_one (et_cmp op2_isNot (ev_call (ok_is_rota T) (hr.mono (by decide)) (by rfl) T.g_is_rota T.F_is_rota.kp T.b_is_rota (ea_cons (ev_var 2) (ea_cons (ev_var 18) (ea_nil)))) (ev_bl))) (fun p s H C cl fp => ev_var 18))) (ev_lst (ea_nil))) (es_one (es_ret (ev_bl))) (es_nil)))
    (es_cons (hid_s (es_set (i := 6) sc_law.nd rfl (.inl rfl) (ev_bin op2_add (ev_lst (ea_cons (ev_non) (ea_cons (ev_callTy opN_list (by rfl) T.z_list bt_list (ea_cons (ev_ix (ev_var 13) (ev_int)) (ea_nil))) (ea_cons (ev_tup (ea_cons (ev_var 5) (ea_nil))) (ea_cons (ev_tup (ea_cons (ev_neg (ev_int)) (ea_nil))) (ea_cons (ev_tup (ea_cons (ev_non) (ea_nil))) (ea_cons (ev_tup (ea_cons (ev_int) (ea_cons (ev_int) (ea_nil)))) (ea_cons (ev_tup (ea_cons (ev_bl) (ea_nil))) (ea_cons (ev_str) (ea_cons (ev_int) (ea_nil))))))))))) (ev_bin op2_mul (ev_lst (ea_cons (ev_tup (ea_cons (ev_bin op2_sub (ev_var 5) (ev_int)) (ea_cons (ev_int) (ea_nil)))) (ea_nil))) (ev_callTy opN_int (by rfl) T.z_int bt_int (ea_cons (ev_cmp (op2_gtX (hu100 hr)) (ev_var 5) (ev_int)) (ea_nil)))))))
    (es_one (hid_s (es_ret (ev_cmp (op2_eq (hu100 hr)) (hid_e (ev_lc (own := [("value", 18)]) (by decide) rfl sc_law.nd (ei_seq (ev_var 6)) (blkOk_by (own := [("value", 18)]) (N := N_law) (sc := defScope s_law) (by decide +kernel)) (fun p s H C cl fp => eg_name (i := 18) sc_law.nd rfl (by first | exact .inl rfl | exact .inr rfl)) (fun p s H C cl fp => ets_one (et_cmp op2_isNot (ev_call (ok_are_apart T) (hr.mono (by decide)) (by rfl) T.g_are_apart T.F_are_apart.kp T.b_are_apart (ea_cons (ev_var 2) (ea_cons (ev_var 18) (ea_nil)))) (ev_bl))) (fun p s H C cl fp => ev_var 18))) (ev_lst (ea_nil)))))))))))))))))))))))))
end
end Lw
namespace Lw
open PySem Cf Cn L2
theorem f_draws_eq : f__law_draws = runF 7 drawsB := by
  rw [f__law_draws_eq]
  unfold B__law_draws L__law_draws_2 L__law_draws_1 L__law_draws_3
  rw [hide_eq, hide_eq, hide_eq]
  rfl
theorem draws_f (ns : List Int) (h : ns.length ≤ 63) : ∃ ms : List Int, f__law_draws [scrD ns] = .ok (.fr (iL ms)) := by
  obtain ⟨ms, _, hd⟩ := draws_ok ns h
  exact ⟨ms, by rw [f_draws_eq]; exact hd⟩
/-- ALIKE -/
theorem f_alike_eq : ∀ n, f__law_alike n = alikeF n
  | 0 => rfl
  | n + 1 => by
    rw [f__law_alike_eq, f_alike_eq n]
    unfold B__law_alike Q__law_alike_1
    rw [hide_eq]
    rfl
theorem alike_f : AlikeOk (f__law_alike 12) := fun d h => by
  rw [f_alike_eq]
  exact alike_refl 12 d h
end Lw
namespace Lw
open PySem Cn
open L2 (atI)
open Cf (scrD iL isTy isNoneD truthD itemG itemsG toSlot toTup toCons toNil sz1 sz2 sz3 sz4 sz5 sz6 sz7 sz8 sz9 sz10 sz11 sz12 sz13 sz14 sz15 sz16 sz17 sz18 sz19 sz20 sz21 sz22 sz23 sz24 sz25 sz26 sz27 sz28 sz29 sz30 sz31 sz32)
noncomputable def n__law_take (p_draws : (List Int)) (p_bound : Int) : Option (Int × (List Int)) :=
  if (decide ((p_draws.length : Int) = 0)) = true then some (0, p_draws) else (popN p_draws).bind fun p1 => (modN p1.1 p_bound).bind fun t2 => some (t2, p1.2)
theorem sim__law_take {p_draws : (List Int)} {p_bound : Int} {r : (Int × (List Int))} (h : n__law_take p_draws p_bound = some r) : RetL f__law_take (List.map eI p_draws) [eI p_bound] .s (eI r.1) (List.map eI r.2) := by
  rw [f__law_take_eq]
  refine ret_runL (show Ws [.own (some 0) (List.map eI p_draws), .sh (eI p_bound)] B__law_take (RQ .s (eI r.1) (Slot0 (List.map eI r.2))) from ?_)
  exact ws_ifs (eb_bool (ef_bin (d := eB (decide ((p_draws.length : Int) = 0))) (ef_bf (d := eI (p_draws.length : Int)) len_l (ea_cons (k := .v 0) (ef_own (i := 0) (ds := List.map eI p_draws) rfl) ea_nil (.inl rfl))) (ef_const (d := eI 0)) trivial (eq_g (e := eI) (Eqo.n okI)))) (fun hb => have h := if_t h hb; ws_rtS (ws_retM h (fun (r : (Int × (List Int))) => eI r.1) (fun (r : (Int × (List Int))) => Slot0 (List.map eI r.2)) (ef_const (d := eI 0)) slot0)) (fun hb => have h := if_f h hb; ws_skip (bindE h fun p1 kp1 h => bindE h fun t2 kt2 h => (ws_retM h (fun (r : (Int × (List Int))) => eI r.1) (fun (r : (Int × (List Int))) => Slot0 (List.map eI r.2)) (ef_bin (d := eI t2) (ef_bf (d := eI p1.1) rfl (ea_cons (k := .s) (ef_popN (e := eI) kp1 rfl) ea_nil trivial)) (ef_var (i := 1) (d := eI p_bound) rfl) trivial (opI_g kt2)) slot0)))
noncomputable def n__law_night (p_draws : (List Int)) : Option (((List Int) × Int) × (List Int)) :=
  (n__law_take p_draws 3).bind fun t1 => (atI [2, 3, 6] t1.1).bind fun t2 => (n__law_take t1.2 8).bind fun t3 => (rng 0 (1 + t3.1)).bind fun r4 => (cmpS (fun (s6 : (List Int)) (x5 : Int) => (n__law_take s6 t2).bind fun t10 => (n__law_take t10.2 4).bind fun t11 => (mulN t10.1 (if (decide (0 < t11.1)) = true then 1 else 0 : Int)).bind fun t12 => some (some t12, t11.2)) t3.2 r4).bind fun t13 => (n__law_take t13.2 2).bind fun t14 => (atI [2, 6] t14.1).bind fun t15 => (n__law_take t14.2 t15).bind fun t16 => some ((t13.1, (1 + t16.1)), t16.2)
theorem sim__law_night {p_draws : (List Int)} {r : (((List Int) × Int) × (List Int))} (h : n__law_night p_draws = some r) : RetL f__law_night (List.map eI p_draws) [] .s ((eP2 (eT eI) eI) r.1) (List.map eI r.2) := by
  rw [f__law_night_eq]
  refine ret_runL (show Ws [.own (some 0) (List.map eI p_draws), .now, .now] B__law_night (RQ .s ((eP2 (eT eI) eI) r.1) (Slot0 (List.map eI r.2))) from ?_)
  exact bindE h fun t1 kt1 h => bindE h fun t2 kt2 h => (ws_seq (P1 := [.own (some 0) (List.map eI t1.2), .sh (eI t2), .now]) (nx_set (d := eI t2) (ef_bin (d := eI t2) (Ef.cast (d1 := eL eI [2, 3, 6]) (ef_disp (ea_cons (k := .s) (ef_const (d := eI 2)) (ea_cons (k := .s) (ef_const (d := eI 3)) (ea_cons (k := .s) (ef_const (d := eI 6)) ea_nil trivial) trivial) trivial) sz3) rfl) (ef_callL (j := 0) (es := List.map eI p_draws) (sim__law_take kt1) rfl (ea_cons (k := .s) (ef_const (d := eI 3)) ea_nil trivial) rfl) trivial (at_l kt2))) (bindE h fun t3 kt3 h => bindE h fun r4 kr4 h => bindE h fun t13 kt13 h => bindE h fun t14 kt14 h => bindE h fun t15 kt15 h => bindE h fun t16 kt16 h => (ws_retM h (fun (r : (((List Int) × Int) × (List Int))) => (eP2 (eT eI) eI) r.1) (fun (r : (((List Int) × Int) × (List Int))) => Slot0 (List.map eI r.2)) (ef_tup (ea_cons (k := .s) (ef_bf (d := eT eI t13.1) rfl (ea_cons (k := .f) (Ef.weak (Ef.app Q__law_night_1_app (ef_cmpS (P1 := [.own (some 0) (List.map eI t3.2), .sh (eI t2), .now]) (ex := eI) (eb := eI) (fun (s6 : (List Int)) => [.own (some 0) (List.map eI s6), .sh (eI t2), .any]) kt13 (it_rng1 kr4 (ea_cons (k := .s) (ef_bin (d := eI (1 + t3.1)) (ef_const (d := eI 1)) (ef_callL (j := 0) (es := List.map eI t1.2) (sim__law_take kt3) rfl (ea_cons (k := .s) (ef_const (d := eI 8)) ea_nil trivial) rfl) trivial rfl) ea_nil trivial)) (leC wk (leC wk (leC wk_any leN))) rfl (fun s6 x5 p h => ⟨_, tg_slot, bindE h fun t10 kt10 h => bindE h fun t11 kt11 h => bindE h fun t12 kt12 h => (LbS_some h eb_yes (S := fun (s6 : (List Int)) => [.own (some 0) (List.map eI s6), .sh (eI t2), .any]) (ef_bin (d := eI t12) (ef_callL (j := 0) (es := List.map eI s6) (sim__law_take kt10) rfl (ea_cons (k := .s) (ef_var (i := 1) (d := eI t2) rfl) ea_nil trivial) rfl) (ef_bf (d := eI (if (decide (0 < t11.1)) = true then 1 else 0 : Int)) (int_b (decide (0 < t11.1))) (ea_cons (k := .s) (ef_bin (d := eB (decide (0 < t11.1))) (ef_callL (j := 0) (es := List.map eI t10.2) (sim__law_take kt11) rfl (ea_cons (k := .s) (ef_const (d := eI 4)) ea_nil trivial) rfl) (ef_const (d := eI 0)) trivial rfl) ea_nil trivial)) trivial (opI_g kt12)) rfl (leC wk (leC wk (leC wk_any leN))))⟩))) trivial (leR rfl)) ea_nil trivial)) (ea_cons (k := .s) (ef_bin (d := eI (1 + t16.1)) (ef_const (d := eI 1)) (ef_callL (j := 0) (es := List.map eI t14.2) (sim__law_take kt16) rfl (ea_cons (k := .s) (ef_bin (d := eI t15) (Ef.cast (d1 := eL eI [2, 6]) (ef_disp (ea_cons (k := .s) (ef_const (d := eI 2)) (ea_cons (k := .s) (ef_const (d := eI 6)) ea_nil trivial) trivial) sz2) rfl) (ef_callL (j := 0) (es := List.map eI t13.2) (sim__law_take kt14) rfl (ea_cons (k := .s) (ef_const (d := eI 2)) ea_nil trivial) rfl) trivial (at_l kt15)) ea_nil trivial) rfl) trivial rfl) ea_nil trivial) trivial) sz2) slot0)))
noncomputable def n_is_number (p_value : Int) (p_least : Int) (p_most : Int) : Option Bool :=
  some (true && ((!false) && ((decide (p_least ≤ p_value)) && (decide (p_value ≤ p_most)))))
theorem sim_is_number {p_value : Int} {p_least : Int} {p_most : Int} {r : Bool} (h : n_is_number p_value p_least p_most = some r) : Ret f_is_number [eI p_value, eI p_least, eI p_most] .s (eB r) := by
  rw [f_is_number_eq]
  refine ret_run (show Ws [.sh (eI p_value), .sh (eI p_least), .sh (eI p_most)] B_is_number (RQ .s (eB r) NoM) from ?_)
  exact ws_retM h (fun (r : Bool) => eB r) (fun _ => NoM) (ef_ofB ((eb_and (eb_is (b := true) (ef_var (i := 0) (d := eI p_value) rfl) rfl) (fun _ => (eb_and (eb_not (eb_is (b := false) (ef_var (i := 0) (d := eI p_value) rfl) rfl)) (fun _ => (eb_bool (ef_chain (ef_var (i := 1) (d := eI p_least) rfl) (ef_var (i := 0) (d := eI p_value) rfl) (ef_var (i := 2) (d := eI p_most) rfl) trivial rfl rfl)))))))) (fun _ _ => trivial)
noncomputable def n_is_night (p_value : ((List Int) × Int)) : Option Bool :=
  (if (!true) = true then some true else (if (!decide (2 = 2)) = true then some true else (n_is_number p_value.2 1 6).bind fun t1 => some (!t1)).bind fun q2 => some q2).bind fun q4 => if q4 = true then some false else if ((!true) || (!((decide (1 ≤ (p_value.1.length : Int))) && (decide ((p_value.1.length : Int) ≤ 12))))) = true then some false else (allO (fun (x6 : Int) => (n_is_number x6 0 5).bind fun t7 => some t7) p_value.1).bind fun t8 => some t8
theorem sim_is_night {p_value : ((List Int) × Int)} {r : Bool} (h : n_is_night p_value = some r) : Ret f_is_night [(eP2 (eT eI) eI) p_value] .s (eB r) := by
  rw [f_is_night_eq]
  refine ret_run (show Ws [.sh ((eP2 (eT eI) eI) p_value)] B_is_night (RQ .s (eB r) NoM) from ?_)
  exact bindE h fun q4 kq4 h => (ws_ifs (eb_orE (P1 := [.sh ((eP2 (eT eI) eI) p_value)]) (fun (z5 : Bool) => z5) (fun (z5 : Bool) => [.sh ((eP2 (eT eI) eI) p_value)]) kq4 (eb_not (eb_is (b := true) (ef_var (i := 0) (d := (eP2 (eT eI) eI) p_value) rfl) rfl)) rfl Le.refl (fun _ s h => bindE h fun q2 kq2 h => (eb_fin h (fun (z5 : Bool) => z5) (fun (z5 : Bool) => [.sh ((eP2 (eT eI) eI) p_value)]) (eb_orE (P1 := [.sh ((eP2 (eT eI) eI) p_value)]) (fun (z3 : Bool) => z3) (fun (z3 : Bool) => [.sh ((eP2 (eT eI) eI) p_value)]) kq2 (eb_bool (ef_bin (d := eB (!decide (2 = 2))) (ef_bf (d := eI 2) rfl (ea_cons (k := .s) (ef_var (i := 0) (d := (eP2 (eT eI) eI) p_value) rfl) ea_nil trivial)) (ef_const (d := eI 2)) trivial (ne_g (e := eI) (Eqo.n okI)))) rfl Le.refl (fun _ s h => bindE h fun t1 kt1 h => (eb_fin h (fun (z3 : Bool) => z3) (fun (z3 : Bool) => [.sh ((eP2 (eT eI) eI) p_value)]) (eb_not (eb_truth (ef_call (sim_is_number kt1) (ea_cons (k := .s) (ef_bin (d := eI p_value.2) (ef_var (i := 0) (d := (eP2 (eT eI) eI) p_value) rfl) (ef_const (d := eI 1)) trivial rfl) (ea_cons (k := .s) (ef_const (d := eI 1)) (ea_cons (k := .s) (ef_const (d := eI 6)) ea_nil trivial) trivial) trivial)) rfl)) Le.refl))) Le.refl))) (fun hb => have h := if_t h hb; ws_rtS (ws_retM h (fun (r : Bool) => eB r) (fun _ => NoM) (ef_const (d := eB false)) (fun _ _ => trivial))) (fun hb => have h := if_f h hb; ws_skip (ws_ifs (eb_or (eb_not (eb_is (b := true) (ef_bin (d := (eT eI) p_value.1) (ef_var (i := 0) (d := (eP2 (eT eI) eI) p_value) rfl) (ef_const (d := eI 0)) trivial rfl) rfl)) (fun _ => (eb_not (eb_bool (ef_chain (ef_const (d := eI 1)) (ef_bf (d := eI (p_value.1.length : Int)) len_t (ea_cons (k := .s) (ef_bin (d := (eT eI) p_value.1) (ef_var (i := 0) (d := (eP2 (eT eI) eI) p_value) rfl) (ef_const (d := eI 0)) trivial rfl) ea_nil trivial)) (ef_const (d := eI 12)) trivial rfl rfl))))) (fun hb => have h := if_t h hb; ws_rtS (ws_retM h (fun (r : Bool) => eB r) (fun _ => NoM) (ef_const (d := eB false)) (fun _ _ => trivial))) (fun hb => have h := if_f h hb; ws_skip (bindE h fun t8 kt8 h => (ws_retM h (fun (r : Bool) => eB r) (fun _ => NoM) (ef_ofB ((Eb.app Z_is_night_1_app (eb_allO (ex := eI) [.any] kt8 (it_pk (ds := List.map eI p_value.1) (ef_bin (d := (eT eI) p_value.1) (ef_var (i := 0) (d := (eP2 (eT eI) eI) p_value) rfl) (ef_const (d := eI 0)) trivial rfl) rfl) rfl (fun x6 o h => ⟨_, tg_slot, bindE h fun t7 kt7 h => (Qb_val h eb_yes (eb_bool (ef_call (sim_is_number kt7) (ea_cons (k := .s) (ef_var (i := 0) (d := eI x6) rfl) (ea_cons (k := .s) (ef_const (d := eI 0)) (ea_cons (k := .s) (ef_const (d := eI 5)) ea_nil trivial) trivial) trivial))) (leC wk_any leN))⟩))))) (fun _ _ => trivial)))))))
noncomputable def n_is_number_2 (p_value : PyData) (p_least : Int) (p_most : Int) : Option Bool :=
  (if (isTy "int" p_value) = true then (if (!(isTy "bool" p_value)) = true then (intA p_value).bind fun t1 => some ((decide (p_least ≤ t1)) && (decide (t1 ≤ p_most))) else some false).bind fun q2 => some q2 else some false).bind fun q4 => some q4
theorem sim_is_number_2 {p_value : PyData} {p_least : Int} {p_most : Int} {r : Bool} (h : n_is_number_2 p_value p_least p_most = some r) : Ret f_is_number [eA p_value, eI p_least, eI p_most] .s (eB r) := by
  rw [f_is_number_eq]
  refine ret_run (show Ws [.sh (eA p_value), .sh (eI p_least), .sh (eI p_most)] B_is_number (RQ .s (eB r) NoM) from ?_)
  exact bindE h fun q4 kq4 h => (ws_retM h (fun (r : Bool) => eB r) (fun _ => NoM) (ef_ofB ((eb_andE (P1 := [.sh (eA p_value), .sh (eI p_least), .sh (eI p_most)]) (fun (z5 : Bool) => z5) (fun (z5 : Bool) => [.sh (eA p_value), .sh (eI p_least), .sh (eI p_most)]) kq4 (eb_is (ef_var (i := 0) (d := eA p_value) rfl) rfl) rfl Le.refl (fun _ s h => bindE h fun q2 kq2 h => (eb_fin h (fun (z5 : Bool) => z5) (fun (z5 : Bool) => [.sh (eA p_value), .sh (eI p_least), .sh (eI p_most)]) (eb_andE (P1 := [.sh (eA p_value), .sh (eI p_least), .sh (eI p_most)]) (fun (z3 : Bool) => z3) (fun (z3 : Bool) => [.sh (eA p_value), .sh (eI p_least), .sh (eI p_most)]) kq2 (eb_not (eb_is (ef_var (i := 0) (d := eA p_value) rfl) rfl)) rfl Le.refl (fun _ s h => bindE h fun t1 kt1 h => (eb_fin h (fun (z3 : Bool) => z3) (fun (z3 : Bool) => [.sh (eA p_value), .sh (eI p_least), .sh (eI p_most)]) (eb_bool (ef_chain (ef_var (i := 1) (d := eI p_least) rfl) (Ef.cast ((ef_var (i := 0) (d := eA p_value) rfl)) (intA_p kt1)) (ef_var (i := 2) (d := eI p_most) rfl) trivial rfl rfl)) Le.refl))) Le.refl))))) (fun _ _ => trivial))
noncomputable def n_is_night_2 (p_value : PyData) : Option Bool :=
  (if (!(isTy "tuple" p_value)) = true then some true else (lenA p_value).bind fun t1 => (if (!decide (t1 = 2)) = true then some true else (opA itemG p_value (eI 1)).bind fun t2 => (n_is_number_2 t2 1 6).bind fun t3 => some (!t3)).bind fun q4 => some q4).bind fun q6 => if q6 = true then some false else (opA itemG p_value (eI 0)).bind fun t8 => (if (!(isTy "tuple" t8)) = true then some true else (opA itemG p_value (eI 0)).bind fun t9 => (lenA t9).bind fun t10 => some (!((decide (1 ≤ t10)) && (decide (t10 ≤ 12))))).bind fun q11 => if q11 = true then some false else (opA itemG p_value (eI 0)).bind fun t13 => (itemsA t13).bind fun t14 => (allO (fun (x15 : PyData) => (n_is_number_2 x15 0 5).bind fun t16 => some t16) t14).bind fun t17 => some t17
theorem sim_is_night_2 {p_value : PyData} {r : Bool} (h : n_is_night_2 p_value = some r) : Ret f_is_night [eA p_value] .s (eB r) := by
  rw [f_is_night_eq]
  refine ret_run (show Ws [.sh (eA p_value)] B_is_night (RQ .s (eB r) NoM) from ?_)
  exact bindE h fun q6 kq6 h => (ws_ifs (eb_orE (P1 := [.sh (eA p_value)]) (fun (z7 : Bool) => z7) (fun (z7 : Bool) => [.sh (eA p_value)]) kq6 (eb_not (eb_is (ef_var (i := 0) (d := eA p_value) rfl) rfl)) rfl Le.refl (fun _ s h => bindE h fun t1 kt1 h => bindE h fun q4 kq4 h => (eb_fin h (fun (z7 : Bool) => z7) (fun (z7 : Bool) => [.sh (eA p_value)]) (eb_orE (P1 := [.sh (eA p_value)]) (fun (z5 : Bool) => z5) (fun (z5 : Bool) => [.sh (eA p_value)]) kq4 (eb_bool (ef_bin (d := eB (!decide (t1 = 2))) (ef_bf (d := eI t1) (lenA_g kt1) (ea_cons (k := .s) (ef_var (i := 0) (d := eA p_value) rfl) ea_nil trivial)) (ef_const (d := eI 2)) trivial (ne_g (e := eI) (Eqo.n okI)))) rfl Le.refl (fun _ s h => bindE h fun t2 kt2 h => bindE h fun t3 kt3 h => (eb_fin h (fun (z5 : Bool) => z5) (fun (z5 : Bool) => [.sh (eA p_value)]) (eb_not (eb_truth (ef_call (sim_is_number_2 kt3) (ea_cons (k := .s) (ef_bin (d := t2) (ef_var (i := 0) (d := eA p_value) rfl) (ef_const (d := eI 1)) trivial (opA_g kt2)) (ea_cons (k := .s) (ef_const (d := eI 1)) (ea_cons (k := .s) (ef_const (d := eI 6)) ea_nil trivial) trivial) trivial)) rfl)) Le.refl))) Le.refl))) (fun hb => have h := if_t h hb; ws_rtS (ws_retM h (fun (r : Bool) => eB r) (fun _ => NoM) (ef_const (d := eB false)) (fun _ _ => trivial))) (fun hb => have h := if_f h hb; ws_skip (bindE h fun t8 kt8 h => bindE h fun q11 kq11 h => (ws_ifs (eb_orE (P1 := [.sh (eA p_value)]) (fun (z12 : Bool) => z12) (fun (z12 : Bool) => [.sh (eA p_value)]) kq11 (eb_not (eb_is (ef_bin (d := t8) (ef_var (i := 0) (d := eA p_value) rfl) (ef_const (d := eI 0)) trivial (opA_g kt8)) rfl)) rfl Le.refl (fun _ s h => bindE h fun t9 kt9 h => bindE h fun t10 kt10 h => (eb_fin h (fun (z12 : Bool) => z12) (fun (z12 : Bool) => [.sh (eA p_value)]) (eb_not (eb_bool (ef_chain (ef_const (d := eI 1)) (ef_bf (d := eI t10) (lenA_g kt10) (ea_cons (k := .s) (ef_bin (d := t9) (ef_var (i := 0) (d := eA p_value) rfl) (ef_const (d := eI 0)) trivial (opA_g kt9)) ea_nil trivial)) (ef_const (d := eI 12)) trivial rfl rfl))) Le.refl))) (fun hb => have h := if_t h hb; ws_rtS (ws_retM h (fun (r : Bool) => eB r) (fun _ => NoM) (ef_const (d := eB false)) (fun _ _ => trivial))) (fun hb => have h := if_f h hb; ws_skip (bindE h fun t13 kt13 h => bindE h fun t14 kt14 h => bindE h fun t17 kt17 h => (ws_retM h (fun (r : Bool) => eB r) (fun _ => NoM) (ef_ofB ((Eb.app Z_is_night_1_app (eb_allO (ex := eA) [.any] kt17 (it_pk (ds := List.map eA t14) (ef_bin (d := t13) (ef_var (i := 0) (d := eA p_value) rfl) (ef_const (d := eI 0)) trivial (opA_g kt13)) (itemsA_g kt14)) rfl (fun x15 o h => ⟨_, tg_slot, bindE h fun t16 kt16 h => (Qb_val h eb_yes (eb_bool (ef_call (sim_is_number_2 kt16) (ea_cons (k := .s) (ef_var (i := 0) (d := eA x15) rfl) (ea_cons (k := .s) (ef_const (d := eI 0)) (ea_cons (k := .s) (ef_const (d := eI 5)) ea_nil trivial) trivial) trivial))) (leC wk_any leN))⟩))))) (fun _ _ => trivial))))))))
noncomputable def n__law_awake (p_night : ((List Int) × Int)) (p_row : (List Int)) (p_hour : Int) : Option Int :=
  (cmp (fun (x1 : Int) => ((decide ((p_hour - p_night.2) < x1)) && (decide (x1 ≤ p_hour)))) (fun (x1 : Int) => x1) p_row).bind fun t3 => some (t3.length : Int)
theorem sim__law_awake {p_night : ((List Int) × Int)} {p_row : (List Int)} {p_hour : Int} {r : Int} (h : n__law_awake p_night p_row p_hour = some r) : Ret f__law_awake [(eP2 (eT eI) eI) p_night, (eL eI) p_row, eI p_hour] .s (eI r) := by
  rw [f__law_awake_eq]
  refine ret_run (show Ws [.sh ((eP2 (eT eI) eI) p_night), .sh ((eL eI) p_row), .sh (eI p_hour), .now] B__law_awake (RQ .s (eI r) NoM) from ?_)
  exact bindE h fun t3 kt3 h => (ws_retM h (fun (r : Int) => eI r) (fun _ => NoM) (ef_bf (d := eI (t3.length : Int)) len_l (ea_cons (k := .f) (Ef.app Q__law_awake_1_app (ef_cmp (P1 := [.sh ((eP2 (eT eI) eI) p_night), .sh ((eL eI) p_row), .sh (eI p_hour), .now]) (ex := eI) (eb := eI) [.sh ((eP2 (eT eI) eI) p_night), .sh ((eL eI) p_row), .sh (eI p_hour), .any] kt3 (it_seq (ds := List.map eI p_row) (ef_var (i := 1) (d := (eL eI) p_row) rfl) rfl) (leC wk (leC wk (leC wk (leC wk_any leN)))) rfl rfl (fun x1 => ⟨_, tg_slot, (eb_bool (ef_chain (ef_bin (d := eI (p_hour - p_night.2)) (ef_var (i := 2) (d := eI p_hour) rfl) (ef_bin (d := eI p_night.2) (ef_var (i := 0) (d := (eP2 (eT eI) eI) p_night) rfl) (ef_const (d := eI 1)) trivial rfl) trivial rfl) (ef_var (i := 3) (d := eI x1) rfl) (ef_var (i := 2) (d := eI p_hour) rfl) trivial rfl rfl)), (leC wk (leC wk (leC wk (leC wk_any leN)))), fun _ => ⟨.s, _, (ef_var (i := 3) (d := eI x1) rfl), rfl, (leC wk (leC wk (leC wk (leC wk_any leN))))⟩⟩))) ea_nil trivial)) (fun _ _ => trivial))
noncomputable def n_awake_in (p_night : ((List Int) × Int)) (p_begins : (List Int)) (p_hour : Int) : Option Int :=
  (cmp (fun (x1 : Int) => ((decide (x1 ≤ p_hour)) && (decide (p_hour < (x1 + p_night.2))))) (fun (x1 : Int) => x1) p_begins).bind fun t3 => some (t3.length : Int)
theorem sim_awake_in {p_night : ((List Int) × Int)} {p_begins : (List Int)} {p_hour : Int} {r : Int} (h : n_awake_in p_night p_begins p_hour = some r) : Ret f_awake_in [(eP2 (eT eI) eI) p_night, (eL eI) p_begins, eI p_hour] .s (eI r) := by
  rw [f_awake_in_eq]
  refine ret_run (show Ws [.sh ((eP2 (eT eI) eI) p_night), .sh ((eL eI) p_begins), .sh (eI p_hour), .now] B_awake_in (RQ .s (eI r) NoM) from ?_)
  exact bindE h fun t3 kt3 h => (ws_retM h (fun (r : Int) => eI r) (fun _ => NoM) (ef_bf (d := eI (t3.length : Int)) len_l (ea_cons (k := .f) (Ef.app Q_awake_in_1_app (ef_cmp (P1 := [.sh ((eP2 (eT eI) eI) p_night), .sh ((eL eI) p_begins), .sh (eI p_hour), .now]) (ex := eI) (eb := eI) [.sh ((eP2 (eT eI) eI) p_night), .sh ((eL eI) p_begins), .sh (eI p_hour), .any] kt3 (it_seq (ds := List.map eI p_begins) (ef_var (i := 1) (d := (eL eI) p_begins) rfl) rfl) (leC wk (leC wk (leC wk (leC wk_any leN)))) rfl rfl (fun x1 => ⟨_, tg_slot, (eb_bool (ef_chain (ef_var (i := 3) (d := eI x1) rfl) (ef_var (i := 2) (d := eI p_hour) rfl) (ef_bin (d := eI (x1 + p_night.2)) (ef_var (i := 3) (d := eI x1) rfl) (ef_bin (d := eI p_night.2) (ef_var (i := 0) (d := (eP2 (eT eI) eI) p_night) rfl) (ef_const (d := eI 1)) trivial rfl) trivial rfl) trivial rfl rfl)), (leC wk (leC wk (leC wk (leC wk_any leN)))), fun _ => ⟨.s, _, (ef_var (i := 3) (d := eI x1) rfl), rfl, (leC wk (leC wk (leC wk (leC wk_any leN))))⟩⟩))) ea_nil trivial)) (fun _ _ => trivial))
noncomputable def n_fewest_shifts_1 (p_night : ((List Int) × Int)) (s2 : (List Int)) (x1 : (Int × Int)) : Option ((List Int)) :=
  (n_awake_in p_night s2 x1.1).bind fun t11 => letO (x1.2 - t11) fun lacks12 => (repN [x1.1] (max 0 lacks12)).bind fun t13 => (catN s2 t13).bind fun found14 => some found14
@[reducible] def J_fewest_shifts_1 (p_night : ((List Int) × Int)) (s2 : (List Int)) : List Pt := [.sh ((eP2 (eT eI) eI) p_night), .own none (List.map eI s2), .now, .now, .now]
theorem sim_fewest_shifts_1 {p_night : ((List Int) × Int)} {s2 : (List Int)} {x1 : (Int × Int)} {r : ((List Int))} (h : n_fewest_shifts_1 p_night s2 x1 = some r) : ∃ PB, Tg [.sh ((eP2 (eT eI) eI) p_night), .own none (List.map eI s2), .now, .now, .now] (toTup 2 (toCons (toSlot 2) (toCons (toSlot 3) (toNil))) ((eP2 eI eI) x1)) PB ∧ Ws PB L_fewest_shifts_1 (CQ ((J_fewest_shifts_1 p_night) r)) := ⟨[.sh ((eP2 (eT eI) eI) p_night), .own none (List.map eI s2), .sh (eI x1.1), .sh (eI x1.2), .now], (tg_tup (tgs_cons tg_slot (tgs_cons tg_slot tgs_nil))), Ws.app L_fewest_shifts_1_app (bindE h fun t11 kt11 h => letE h fun lacks12 klacks12 h => (ws_seq (P1 := [.sh ((eP2 (eT eI) eI) p_night), .own none (List.map eI s2), .sh (eI x1.1), .sh (eI x1.2), .sh (eI lacks12)]) (nx_set (d := eI lacks12) (Ef.cast ((ef_bin (d := eI (x1.2 - t11)) (ef_var (i := 3) (d := eI x1.2) rfl) (ef_callB (sim_awake_in kt11) ((fun _ => rfl) _) (ea_cons (k := .s) (ef_var (i := 0) (d := (eP2 (eT eI) eI) p_night) rfl) (ea_cons (k := .v 1) (ef_own (i := 1) (ds := List.map eI s2) rfl) (ea_cons (k := .s) (ef_var (i := 2) (d := eI x1.1) rfl) ea_nil trivial) (.inl rfl)) trivial)) trivial rfl)) (congrArg eI klacks12.symm))) (bindE h fun t13 kt13 h => bindE h fun found14 kfound14 h => (nx_end (P1 := [.sh ((eP2 (eT eI) eI) p_night), .own none (List.map eI found14), .sh (eI x1.1), .sh (eI x1.2), .sh (eI lacks12)]) (nx_drop ((ef_ext (e := eI) kfound14 rfl (ef_binL (ds := List.map eI t13) (Ef.cast (d1 := eL eI [x1.1]) (ef_disp (ea_cons (k := .s) (ef_var (i := 2) (d := eI x1.1) rfl) ea_nil trivial) sz1) rfl) (ef_bf (d := eI (max 0 lacks12)) rfl (ea_cons (k := .s) (ef_const (d := eI 0)) (ea_cons (k := .s) (ef_var (i := 4) (d := eI lacks12) rfl) ea_nil trivial) trivial)) trivial (rep_l kt13)) rfl rfl))) (cq_nx (J := (J_fewest_shifts_1 p_night)) h (leC wk (leC wk (leC wk_now (leC wk_now (leC wk_now leN))))))))))⟩
noncomputable def n_fewest_shifts (p_night : ((List Int) × Int)) : Option (List Int) :=
  (forN (n_fewest_shifts_1 p_night) [] (enumN p_night.1)).bind fun l15 => some l15
theorem sim_fewest_shifts {p_night : ((List Int) × Int)} {r : (List Int)} (h : n_fewest_shifts p_night = some r) : Ret f_fewest_shifts [(eP2 (eT eI) eI) p_night] .s ((eT eI) r) := by
  rw [f_fewest_shifts_eq]
  refine ret_run (show Ws [.sh ((eP2 (eT eI) eI) p_night), .now, .now, .now, .now] B_fewest_shifts (RQ .s ((eT eI) r) NoM) from ?_)
  exact ws_seq (P1 := [.sh ((eP2 (eT eI) eI) p_night), .own none (List.map eI []), .now, .now, .now]) (nx_setF (ds := List.map eI []) (ef_disp ea_nil sz0)) (bindE h fun l15 kl15 h => (ws_seq (P1 := [.sh ((eP2 (eT eI) eI) p_night), .own none (List.map eI l15), .now, .now, .now]) (nx_for (P1 := [.sh ((eP2 (eT eI) eI) p_night), .own none (List.map eI []), .now, .now, .now]) (ex := (eP2 eI eI)) (J_fewest_shifts_1 p_night) kl15 (It.cast (it_enum (ds := List.map eI p_night.1) (ef_bin (d := (eT eI) p_night.1) (ef_var (i := 0) (d := (eP2 (eT eI) eI) p_night) rfl) (ef_const (d := eI 0)) trivial rfl) rfl) enum_map) Le.refl (fun _ _ _ h => sim_fewest_shifts_1 h)) (ws_retM h (fun (r : (List Int)) => (eT eI) r) (fun _ => NoM) (ef_bf (d := eT eI l15) rfl (ea_cons (k := .v 1) (ef_own (i := 1) (ds := List.map eI l15) rfl) ea_nil (.inl rfl))) (fun _ _ => trivial))))
theorem sim__law_awake_2 {p_night : ((List Int) × Int)} {p_row : (List Int)} {p_hour : Int} {r : Int} (h : n__law_awake p_night p_row p_hour = some r) : Ret f__law_awake [(eP2 (eT eI) eI) p_night, (eT eI) p_row, eI p_hour] .s (eI r) := by
  rw [f__law_awake_eq]
  refine ret_run (show Ws [.sh ((eP2 (eT eI) eI) p_night), .sh ((eT eI) p_row), .sh (eI p_hour), .now] B__law_awake (RQ .s (eI r) NoM) from ?_)
  exact bindE h fun t3 kt3 h => (ws_retM h (fun (r : Int) => eI r) (fun _ => NoM) (ef_bf (d := eI (t3.length : Int)) len_l (ea_cons (k := .f) (Ef.app Q__law_awake_1_app (ef_cmp (P1 := [.sh ((eP2 (eT eI) eI) p_night), .sh ((eT eI) p_row), .sh (eI p_hour), .now]) (ex := eI) (eb := eI) [.sh ((eP2 (eT eI) eI) p_night), .sh ((eT eI) p_row), .sh (eI p_hour), .any] kt3 (it_seq (ds := List.map eI p_row) (ef_var (i := 1) (d := (eT eI) p_row) rfl) rfl) (leC wk (leC wk (leC wk (leC wk_any leN)))) rfl rfl (fun x1 => ⟨_, tg_slot, (eb_bool (ef_chain (ef_bin (d := eI (p_hour - p_night.2)) (ef_var (i := 2) (d := eI p_hour) rfl) (ef_bin (d := eI p_night.2) (ef_var (i := 0) (d := (eP2 (eT eI) eI) p_night) rfl) (ef_const (d := eI 1)) trivial rfl) trivial rfl) (ef_var (i := 3) (d := eI x1) rfl) (ef_var (i := 2) (d := eI p_hour) rfl) trivial rfl rfl)), (leC wk (leC wk (leC wk (leC wk_any leN)))), fun _ => ⟨.s, _, (ef_var (i := 3) (d := eI x1) rfl), rfl, (leC wk (leC wk (leC wk (leC wk_any leN))))⟩⟩))) ea_nil trivial)) (fun _ _ => trivial))
noncomputable def n__law_is_rota (p_night : ((List Int) × Int)) (p_row : (List Int)) : Option Bool :=
  (rng 0 (p_night.1.length : Int)).bind fun r1 => (cmpO (fun (x2 : Int) => (n__law_awake p_night p_row x2).bind fun t4 => (atI p_night.1 x2).bind fun t5 => if (decide (t4 < t5)) = true then some (some x2) else some none) r1).bind fun t6 => some (decide (t6 = []))
theorem sim__law_is_rota {p_night : ((List Int) × Int)} {p_row : (List Int)} {r : Bool} (h : n__law_is_rota p_night p_row = some r) : Ret f__law_is_rota [(eP2 (eT eI) eI) p_night, (eT eI) p_row] .s (eB r) := by
  rw [f__law_is_rota_eq]
  refine ret_run (show Ws [.sh ((eP2 (eT eI) eI) p_night), .sh ((eT eI) p_row), .now] B__law_is_rota (RQ .s (eB r) NoM) from ?_)
  exact bindE h fun r1 kr1 h => bindE h fun t6 kt6 h => (ws_retM h (fun (r : Bool) => eB r) (fun _ => NoM) (ef_bin (d := eB (decide (t6 = []))) (Ef.app Q__law_is_rota_1_app (ef_cmpO (P1 := [.sh ((eP2 (eT eI) eI) p_night), .sh ((eT eI) p_row), .now]) (ex := eI) (eb := eI) [.sh ((eP2 (eT eI) eI) p_night), .sh ((eT eI) p_row), .any] kt6 (it_rng1 kr1 (ea_cons (k := .s) (ef_bf (d := eI (p_night.1.length : Int)) len_t (ea_cons (k := .s) (ef_bin (d := (eT eI) p_night.1) (ef_var (i := 0) (d := (eP2 (eT eI) eI) p_night) rfl) (ef_const (d := eI 0)) trivial rfl) ea_nil trivial)) ea_nil trivial)) (leC wk (leC wk (leC wk_any leN))) rfl rfl (fun x2 o h => ⟨_, tg_slot, bindE h fun t4 kt4 h => bindE h fun t5 kt5 h => (Lb_if (eb_bool (ef_bin (d := eB (decide (t4 < t5))) (ef_call (sim__law_awake_2 kt4) (ea_cons (k := .s) (ef_var (i := 0) (d := (eP2 (eT eI) eI) p_night) rfl) (ea_cons (k := .s) (ef_var (i := 1) (d := (eT eI) p_row) rfl) (ea_cons (k := .s) (ef_var (i := 2) (d := eI x2) rfl) ea_nil trivial) trivial) trivial)) (ef_bin (d := eI t5) (ef_bin (d := (eT eI) p_night.1) (ef_var (i := 0) (d := (eP2 (eT eI) eI) p_night) rfl) (ef_const (d := eI 0)) trivial rfl) (ef_var (i := 2) (d := eI x2) rfl) trivial (at_t kt5)) trivial rfl)) (fun hb => have h := if_t h hb; ⟨_, (someE h).symm, .s, _, (ef_var (i := 2) (d := eI x2) rfl), rfl, (leC wk (leC wk (leC wk_any leN)))⟩) (fun hb => ⟨(someE (if_f h hb)).symm, (leC wk (leC wk (leC wk_any leN)))⟩))⟩))) (Ef.cast (d1 := (eL eI) []) ((ef_disp ea_nil sz0)) rfl) trivial (eq_g (e := (eL eI)) (Eqo.n (okL okI)))) (fun _ _ => trivial))
theorem sim_awake_in_2 {p_night : ((List Int) × Int)} {p_begins : (List Int)} {p_hour : Int} {r : Int} (h : n_awake_in p_night p_begins p_hour = some r) : Ret f_awake_in [(eP2 (eT eI) eI) p_night, (eT eI) p_begins, eI p_hour] .s (eI r) := by
  rw [f_awake_in_eq]
  refine ret_run (show Ws [.sh ((eP2 (eT eI) eI) p_night), .sh ((eT eI) p_begins), .sh (eI p_hour), .now] B_awake_in (RQ .s (eI r) NoM) from ?_)
  exact bindE h fun t3 kt3 h => (ws_retM h (fun (r : Int) => eI r) (fun _ => NoM) (ef_bf (d := eI (t3.length : Int)) len_l (ea_cons (k := .f) (Ef.app Q_awake_in_1_app (ef_cmp (P1 := [.sh ((eP2 (eT eI) eI) p_night), .sh ((eT eI) p_begins), .sh (eI p_hour), .now]) (ex := eI) (eb := eI) [.sh ((eP2 (eT eI) eI) p_night), .sh ((eT eI) p_begins), .sh (eI p_hour), .any] kt3 (it_seq (ds := List.map eI p_begins) (ef_var (i := 1) (d := (eT eI) p_begins) rfl) rfl) (leC wk (leC wk (leC wk (leC wk_any leN)))) rfl rfl (fun x1 => ⟨_, tg_slot, (eb_bool (ef_chain (ef_var (i := 3) (d := eI x1) rfl) (ef_var (i := 2) (d := eI p_hour) rfl) (ef_bin (d := eI (x1 + p_night.2)) (ef_var (i := 3) (d := eI x1) rfl) (ef_bin (d := eI p_night.2) (ef_var (i := 0) (d := (eP2 (eT eI) eI) p_night) rfl) (ef_const (d := eI 1)) trivial rfl) trivial rfl) trivial rfl rfl)), (leC wk (leC wk (leC wk (leC wk_any leN)))), fun _ => ⟨.s, _, (ef_var (i := 3) (d := eI x1) rfl), rfl, (leC wk (leC wk (leC wk (leC wk_any leN))))⟩⟩))) ea_nil trivial)) (fun _ _ => trivial))
noncomputable def n_is_rota (p_night : ((List Int) × Int)) (p_value : (List Int)) : Option Bool :=
  (if (!true) = true then some true else (allO (fun (x1 : Int) => (n_is_number x1 0 ((p_night.1.length : Int) - 1)).bind fun t2 => some t2) p_value).bind fun t3 => some (!t3)).bind fun q4 => if q4 = true then some false else (rng 1 (p_value.length : Int)).bind fun r6 => (allO (fun (x7 : Int) => (atI p_value (x7 - 1)).bind fun t8 => (atI p_value x7).bind fun t9 => some (decide (t8 ≤ t9))) r6).bind fun t10 => if (!t10) = true then some false else (allO (fun (x11 : (Int × Int)) => (n_awake_in p_night p_value x11.1).bind fun t12 => some (decide (x11.2 ≤ t12))) (enumN p_night.1)).bind fun t13 => some t13
theorem sim_is_rota {p_night : ((List Int) × Int)} {p_value : (List Int)} {r : Bool} (h : n_is_rota p_night p_value = some r) : Ret f_is_rota [(eP2 (eT eI) eI) p_night, (eT eI) p_value] .s (eB r) := by
  rw [f_is_rota_eq]
  refine ret_run (show Ws [.sh ((eP2 (eT eI) eI) p_night), .sh ((eT eI) p_value), .now] B_is_rota (RQ .s (eB r) NoM) from ?_)
  exact ws_seq (P1 := [.sh ((eP2 (eT eI) eI) p_night), .sh ((eT eI) p_value), .sh ((eT eI) p_night.1)]) (nx_set (d := (eT eI) p_night.1) (ef_bin (d := (eT eI) p_night.1) (ef_var (i := 0) (d := (eP2 (eT eI) eI) p_night) rfl) (ef_const (d := eI 0)) trivial rfl)) (bindE h fun q4 kq4 h => (ws_ifs (eb_orE (P1 := [.sh ((eP2 (eT eI) eI) p_night), .sh ((eT eI) p_value), .sh ((eT eI) p_night.1)]) (fun (z5 : Bool) => z5) (fun (z5 : Bool) => [.sh ((eP2 (eT eI) eI) p_night), .sh ((eT eI) p_value), .sh ((eT eI) p_night.1)]) kq4 (eb_not (eb_is (b := true) (ef_var (i := 1) (d := (eT eI) p_value) rfl) rfl)) rfl Le.refl (fun _ s h => bindE h fun t3 kt3 h => (eb_fin h (fun (z5 : Bool) => z5) (fun (z5 : Bool) => [.sh ((eP2 (eT eI) eI) p_night), .sh ((eT eI) p_value), .sh ((eT eI) p_night.1)]) (eb_not (Eb.app Z_is_rota_1_app (eb_allO (ex := eI) [.sh ((eT eI) p_night.1), .any] kt3 (it_pk (ds := List.map eI p_value) (ef_var (i := 1) (d := (eT eI) p_value) rfl) rfl) rfl (fun x1 o h => ⟨_, tg_slot, bindE h fun t2 kt2 h => (Qb_val h eb_yes (eb_bool (ef_call (sim_is_number kt2) (ea_cons (k := .s) (ef_var (i := 1) (d := eI x1) rfl) (ea_cons (k := .s) (ef_const (d := eI 0)) (ea_cons (k := .s) (ef_bin (d := eI ((p_night.1.length : Int) - 1)) (ef_bf (d := eI (p_night.1.length : Int)) len_t (ea_cons (k := .s) (ef_var (i := 0) (d := (eT eI) p_night.1) rfl) ea_nil trivial)) (ef_const (d := eI 1)) trivial rfl) ea_nil trivial) trivial) trivial))) (leC wk (leC wk_any leN)))⟩)))) Le.refl))) (fun hb => have h := if_t h hb; ws_rtS (ws_retM h (fun (r : Bool) => eB r) (fun _ => NoM) (ef_const (d := eB false)) (fun _ _ => trivial))) (fun hb => have h := if_f h hb; ws_skip (bindE h fun r6 kr6 h => bindE h fun t10 kt10 h => (ws_ifs (eb_not (Eb.app Z_is_rota_2_app (eb_allO (ex := eI) [.sh ((eT eI) p_value), .any] kt10 (it_rng2 kr6 (ea_cons (k := .s) (ef_const (d := eI 1)) (ea_cons (k := .s) (ef_bf (d := eI (p_value.length : Int)) len_t (ea_cons (k := .s) (ef_var (i := 1) (d := (eT eI) p_value) rfl) ea_nil trivial)) ea_nil trivial) trivial)) rfl (fun x7 o h => ⟨_, tg_slot, bindE h fun t8 kt8 h => bindE h fun t9 kt9 h => (Qb_val h eb_yes (eb_bool (ef_bin (d := eB (decide (t8 ≤ t9))) (ef_bin (d := eI t8) (ef_var (i := 0) (d := (eT eI) p_value) rfl) (ef_bin (d := eI (x7 - 1)) (ef_var (i := 1) (d := eI x7) rfl) (ef_const (d := eI 1)) trivial rfl) trivial (at_t kt8)) (ef_bin (d := eI t9) (ef_var (i := 0) (d := (eT eI) p_value) rfl) (ef_var (i := 1) (d := eI x7) rfl) trivial (at_t kt9)) trivial rfl)) (leC wk (leC wk_any leN)))⟩)))) (fun hb => have h := if_t h hb; ws_rtS (ws_retM h (fun (r : Bool) => eB r) (fun _ => NoM) (ef_const (d := eB false)) (fun _ _ => trivial))) (fun hb => have h := if_f h hb; ws_skip (bindE h fun t13 kt13 h => (ws_retM h (fun (r : Bool) => eB r) (fun _ => NoM) (ef_ofB ((Eb.app Z_is_rota_3_app (eb_allO (ex := (eP2 eI eI)) [.sh ((eP2 (eT eI) eI) p_night), .sh ((eT eI) p_value), .any, .any] kt13 (It.cast (it_enum (ds := List.map eI p_night.1) (ef_var (i := 2) (d := (eT eI) p_night.1) rfl) rfl) enum_map) rfl (fun x11 o h => ⟨_, (tg_tup (tgs_cons tg_slot (tgs_cons tg_slot tgs_nil))), bindE h fun t12 kt12 h => (Qb_val h eb_yes (eb_bool (ef_bin (d := eB (decide (x11.2 ≤ t12))) (ef_call (sim_awake_in_2 kt12) (ea_cons (k := .s) (ef_var (i := 0) (d := (eP2 (eT eI) eI) p_night) rfl) (ea_cons (k := .s) (ef_var (i := 1) (d := (eT eI) p_value) rfl) (ea_cons (k := .s) (ef_var (i := 2) (d := eI x11.1) rfl) ea_nil trivial) trivial) trivial)) (ef_var (i := 3) (d := eI x11.2) rfl) trivial rfl)) (leC wk (leC wk (leC wk_any (leC wk_any leN)))))⟩))))) (fun _ _ => trivial)))))))))
noncomputable def n_hours_apart_1 (p_night : ((List Int) × Int)) (s4 : (List (Int × (List Int)))) (x3 : Int) : Option ((List (Int × (List Int)))) :=
  (atI s4 (x3 + p_night.2)).bind fun t13 => (atI s4 (x3 + 1)).bind fun t14 => (atI p_night.1 x3).bind fun t15 => (szN ([x3] ++ t13.2)).bind fun t16 => (atI s4 (x3 + 1)).bind fun t17 => (atI p_night.1 x3).bind fun t18 => (szN ([x3] ++ t13.2)).bind fun t19 => (setN s4 x3 (if (ltP ltI (ltL ltI)) ((t13.1 - t18), t19) t17 = true then ((t13.1 - t18), t19) else t17)).bind fun best20 => some best20
@[reducible] def J_hours_apart_1 (p_night : ((List Int) × Int)) (s4 : (List (Int × (List Int)))) : List Pt := [.sh ((eP2 (eT eI) eI) p_night), .sh ((eT eI) p_night.1), .sh (eI p_night.2), .own none (List.map (eP2 eI (eT eI)) s4), .now, .now, .now]
theorem sim_hours_apart_1 {p_night : ((List Int) × Int)} {s4 : (List (Int × (List Int)))} {x3 : Int} {r : ((List (Int × (List Int))))} (h : n_hours_apart_1 p_night s4 x3 = some r) : ∃ PB, Tg [.sh ((eP2 (eT eI) eI) p_night), .sh ((eT eI) p_night.1), .sh (eI p_night.2), .own none (List.map (eP2 eI (eT eI)) s4), .now, .now, .now] (toSlot 4 (eI x3)) PB ∧ Ws PB L_hours_apart_1 (CQ ((J_hours_apart_1 p_night) r)) := ⟨[.sh ((eP2 (eT eI) eI) p_night), .sh ((eT eI) p_night.1), .sh (eI p_night.2), .own none (List.map (eP2 eI (eT eI)) s4), .sh (eI x3), .now, .now], tg_slot, Ws.app L_hours_apart_1_app (bindE h fun t13 kt13 h => (ws_seq (P1 := [.sh ((eP2 (eT eI) eI) p_night), .sh ((eT eI) p_night.1), .sh (eI p_night.2), .own none (List.map (eP2 eI (eT eI)) s4), .sh (eI x3), .sh (eI t13.1), .sh ((eT eI) t13.2)]) (nx_setT (d := (eP2 eI (eT eI)) t13) (ef_bin (d := (eP2 eI (eT eI)) t13) (ef_own (i := 3) (ds := List.map (eP2 eI (eT eI)) s4) rfl) (ef_bin (d := eI (x3 + p_night.2)) (ef_var (i := 4) (d := eI x3) rfl) (ef_var (i := 2) (d := eI p_night.2) rfl) trivial rfl) (.inl rfl) (at_l kt13)) (tg_tup (tgs_cons tg_slot (tgs_cons tg_slot tgs_nil)))) (bindE h fun t14 kt14 h => bindE h fun t15 kt15 h => bindE h fun t16 kt16 h => bindE h fun t17 kt17 h => bindE h fun t18 kt18 h => bindE h fun t19 kt19 h => bindE h fun best20 kbest20 h => (nx_end (P1 := [.sh ((eP2 (eT eI) eI) p_night), .sh ((eT eI) p_night.1), .sh (eI p_night.2), .own none (List.map (eP2 eI (eT eI)) best20), .sh (eI x3), .sh (eI t13.1), .sh ((eT eI) t13.2)]) (nx_setN (e := (eP2 eI (eT eI))) kbest20 (ef_bf (d := (eP2 eI (eT eI)) (if (ltP ltI (ltL ltI)) ((t13.1 - t18), t19) t17 = true then ((t13.1 - t18), t19) else t17)) (min2_g (ltoP2 ltoI (Eqo.n okI) (ltoT ltoI (Eqo.n okI)) (Eqo.n (okT okI))) (Eqo.n (okP2 okI (okT okI)))) (ea_cons (k := .s) (Ef.cast (d1 := (eP2 eI (eT eI)) t17) ((ef_bin (d := (eP2 eI (eT eI)) t17) (ef_own (i := 3) (ds := List.map (eP2 eI (eT eI)) s4) rfl) (ef_bin (d := eI (x3 + 1)) (ef_var (i := 4) (d := eI x3) rfl) (ef_const (d := eI 1)) trivial rfl) (.inl rfl) (at_l kt17))) rfl) (ea_cons (k := .s) (ef_tup (ea_cons (k := .s) (ef_bin (d := eI (t13.1 - t18)) (ef_var (i := 5) (d := eI t13.1) rfl) (ef_bin (d := eI t18) (ef_var (i := 1) (d := (eT eI) p_night.1) rfl) (ef_var (i := 4) (d := eI x3) rfl) trivial (at_t kt18)) trivial rfl) (ea_cons (k := .s) (Ef.cast (d1 := (eT eI) t19) (ef_tupS (ea_cons (k := .s) (ef_var (i := 4) (d := eI x3) rfl) (ea_star (Ef.cast (d1 := (eT eI) t13.2) ((ef_var (i := 6) (d := (eT eI) t13.2) rfl)) rfl) rfl ea_nil) trivial) (noV_cons rfl (noV_star noV_nil)) (by have hz := (szN_p kt19).2; simp at hz ⊢; omega)) (by rw [(szN_p kt19).1]; simp)) ea_nil trivial) trivial) sz2) ea_nil trivial) trivial)) rfl (ef_var (i := 4) (d := eI x3) rfl)) (cq_nx (J := (J_hours_apart_1 p_night)) h (leC wk (leC wk (leC wk (leC wk (leC wk_now (leC wk_now (leC wk_now leN))))))))))))⟩
noncomputable def n_hours_apart (p_night : ((List Int) × Int)) : Option (List Int) :=
  (repN ([(0, [])]) ((p_night.1.length : Int) + p_night.2)).bind fun t1 => (rng3 ((p_night.1.length : Int) - 1) (-1) (-1)).bind fun r2 => (forN (n_hours_apart_1 p_night) t1 r2).bind fun l21 => (atI l21 0).bind fun t22 => some t22.2
theorem sim_hours_apart {p_night : ((List Int) × Int)} {r : (List Int)} (h : n_hours_apart p_night = some r) : Ret f_hours_apart [(eP2 (eT eI) eI) p_night] .s ((eT eI) r) := by
  rw [f_hours_apart_eq]
  refine ret_run (show Ws [.sh ((eP2 (eT eI) eI) p_night), .now, .now, .now, .now, .now, .now] B_hours_apart (RQ .s ((eT eI) r) NoM) from ?_)
  exact ws_seq (P1 := [.sh ((eP2 (eT eI) eI) p_night), .sh ((eT eI) p_night.1), .sh (eI p_night.2), .now, .now, .now, .now]) (nx_setT (d := (eP2 (eT eI) eI) p_night) (ef_var (i := 0) (d := (eP2 (eT eI) eI) p_night) rfl) (tg_tup (tgs_cons tg_slot (tgs_cons tg_slot tgs_nil)))) (bindE h fun t1 kt1 h => (ws_seq (P1 := [.sh ((eP2 (eT eI) eI) p_night), .sh ((eT eI) p_night.1), .sh (eI p_night.2), .own none (List.map (eP2 eI (eT eI)) t1), .now, .now, .now]) (nx_setF (ds := List.map (eP2 eI (eT eI)) t1) (ef_binL (ds := List.map (eP2 eI (eT eI)) t1) (Ef.cast (d1 := eL (eP2 eI (eT eI)) [(0, [])]) (ef_disp (ea_cons (k := .s) (ef_tup (ea_cons (k := .s) (ef_const (d := eI 0)) (ea_cons (k := .s) (ef_tup ea_nil sz0) ea_nil trivial) trivial) sz2) ea_nil trivial) sz1) rfl) (ef_bin (d := eI ((p_night.1.length : Int) + p_night.2)) (ef_bf (d := eI (p_night.1.length : Int)) len_t (ea_cons (k := .s) (ef_var (i := 1) (d := (eT eI) p_night.1) rfl) ea_nil trivial)) (ef_var (i := 2) (d := eI p_night.2) rfl) trivial rfl) trivial (rep_l kt1))) (bindE h fun r2 kr2 h => bindE h fun l21 kl21 h => (ws_seq (P1 := [.sh ((eP2 (eT eI) eI) p_night), .sh ((eT eI) p_night.1), .sh (eI p_night.2), .own none (List.map (eP2 eI (eT eI)) l21), .now, .now, .now]) (nx_for (P1 := [.sh ((eP2 (eT eI) eI) p_night), .sh ((eT eI) p_night.1), .sh (eI p_night.2), .own none (List.map (eP2 eI (eT eI)) t1), .now, .now, .now]) (ex := eI) (J_hours_apart_1 p_night) kl21 (it_rng3 kr2 (ea_cons (k := .s) (ef_bin (d := eI ((p_night.1.length : Int) - 1)) (ef_bf (d := eI (p_night.1.length : Int)) len_t (ea_cons (k := .s) (ef_var (i := 1) (d := (eT eI) p_night.1) rfl) ea_nil trivial)) (ef_const (d := eI 1)) trivial rfl) (ea_cons (k := .s) (ef_un (d := eI (-1)) (ef_const (d := eI 1)) rfl) (ea_cons (k := .s) (ef_un (d := eI (-1)) (ef_const (d := eI 1)) rfl) ea_nil trivial) trivial) trivial)) Le.refl (fun _ _ _ h => sim_hours_apart_1 h)) (bindE h fun t22 kt22 h => (ws_retM h (fun (r : (List Int)) => (eT eI) r) (fun _ => NoM) (ef_bin (d := (eT eI) t22.2) (ef_bin (d := (eP2 eI (eT eI)) t22) (ef_own (i := 3) (ds := List.map (eP2 eI (eT eI)) l21) rfl) (ef_const (d := eI 0)) (.inl rfl) (at_l kt22)) (ef_const (d := eI 1)) trivial rfl) (fun _ _ => trivial)))))))
noncomputable def n_are_apart (p_night : ((List Int) × Int)) (p_value : (List Int)) : Option Bool :=
  (if (!true) = true then some true else (allO (fun (x1 : Int) => (n_is_number x1 0 ((p_night.1.length : Int) - 1)).bind fun t2 => some t2) p_value).bind fun t3 => some (!t3)).bind fun q4 => if q4 = true then some false else (rng 1 (p_value.length : Int)).bind fun r6 => (allO (fun (x7 : Int) => (atI p_value x7).bind fun t8 => (atI p_value (x7 - 1)).bind fun t9 => some (decide (p_night.2 ≤ (t8 - t9)))) r6).bind fun t10 => some t10
theorem sim_are_apart {p_night : ((List Int) × Int)} {p_value : (List Int)} {r : Bool} (h : n_are_apart p_night p_value = some r) : Ret f_are_apart [(eP2 (eT eI) eI) p_night, (eT eI) p_value] .s (eB r) := by
  rw [f_are_apart_eq]
  refine ret_run (show Ws [.sh ((eP2 (eT eI) eI) p_night), .sh ((eT eI) p_value), .now, .now] B_are_apart (RQ .s (eB r) NoM) from ?_)
  exact ws_seq (P1 := [.sh ((eP2 (eT eI) eI) p_night), .sh ((eT eI) p_value), .sh (eI p_night.2), .sh ((eT eI) p_night.1)]) (nx_setT (d := (eP2 (eT eI) eI) p_night) (ef_var (i := 0) (d := (eP2 (eT eI) eI) p_night) rfl) (tg_tup (tgs_cons tg_slot (tgs_cons tg_slot tgs_nil)))) (bindE h fun q4 kq4 h => (ws_ifs (eb_orE (P1 := [.sh ((eP2 (eT eI) eI) p_night), .sh ((eT eI) p_value), .sh (eI p_night.2), .sh ((eT eI) p_night.1)]) (fun (z5 : Bool) => z5) (fun (z5 : Bool) => [.sh ((eP2 (eT eI) eI) p_night), .sh ((eT eI) p_value), .sh (eI p_night.2), .sh ((eT eI) p_night.1)]) kq4 (eb_not (eb_is (b := true) (ef_var (i := 1) (d := (eT eI) p_value) rfl) rfl)) rfl Le.refl (fun _ s h => bindE h fun t3 kt3 h => (eb_fin h (fun (z5 : Bool) => z5) (fun (z5 : Bool) => [.sh ((eP2 (eT eI) eI) p_night), .sh ((eT eI) p_value), .sh (eI p_night.2), .sh ((eT eI) p_night.1)]) (eb_not (Eb.app Z_are_apart_1_app (eb_allO (ex := eI) [.sh ((eT eI) p_night.1), .any] kt3 (it_pk (ds := List.map eI p_value) (ef_var (i := 1) (d := (eT eI) p_value) rfl) rfl) rfl (fun x1 o h => ⟨_, tg_slot, bindE h fun t2 kt2 h => (Qb_val h eb_yes (eb_bool (ef_call (sim_is_number kt2) (ea_cons (k := .s) (ef_var (i := 1) (d := eI x1) rfl) (ea_cons (k := .s) (ef_const (d := eI 0)) (ea_cons (k := .s) (ef_bin (d := eI ((p_night.1.length : Int) - 1)) (ef_bf (d := eI (p_night.1.length : Int)) len_t (ea_cons (k := .s) (ef_var (i := 0) (d := (eT eI) p_night.1) rfl) ea_nil trivial)) (ef_const (d := eI 1)) trivial rfl) ea_nil trivial) trivial) trivial))) (leC wk (leC wk_any leN)))⟩)))) Le.refl))) (fun hb => have h := if_t h hb; ws_rtS (ws_retM h (fun (r : Bool) => eB r) (fun _ => NoM) (ef_const (d := eB false)) (fun _ _ => trivial))) (fun hb => have h := if_f h hb; ws_skip (bindE h fun r6 kr6 h => bindE h fun t10 kt10 h => (ws_retM h (fun (r : Bool) => eB r) (fun _ => NoM) (ef_ofB ((Eb.app Z_are_apart_2_app (eb_allO (ex := eI) [.sh (eI p_night.2), .sh ((eT eI) p_value), .any] kt10 (it_rng2 kr6 (ea_cons (k := .s) (ef_const (d := eI 1)) (ea_cons (k := .s) (ef_bf (d := eI (p_value.length : Int)) len_t (ea_cons (k := .s) (ef_var (i := 1) (d := (eT eI) p_value) rfl) ea_nil trivial)) ea_nil trivial) trivial)) rfl (fun x7 o h => ⟨_, tg_slot, bindE h fun t8 kt8 h => bindE h fun t9 kt9 h => (Qb_val h eb_yes (eb_bool (ef_bin (d := eB (decide (p_night.2 ≤ (t8 - t9)))) (ef_bin (d := eI (t8 - t9)) (ef_bin (d := eI t8) (ef_var (i := 1) (d := (eT eI) p_value) rfl) (ef_var (i := 2) (d := eI x7) rfl) trivial (at_t kt8)) (ef_bin (d := eI t9) (ef_var (i := 1) (d := (eT eI) p_value) rfl) (ef_bin (d := eI (x7 - 1)) (ef_var (i := 2) (d := eI x7) rfl) (ef_const (d := eI 1)) trivial rfl) trivial (at_t kt9)) trivial rfl) (ef_var (i := 0) (d := eI p_night.2) rfl) trivial rfl)) (leC wk (leC wk (leC wk_any leN))))⟩))))) (fun _ _ => trivial))))))
noncomputable def n_awake_in_3 (p_night : ((List Int) × Int)) (p_begins : PyData) (p_hour : Int) : Option Int :=
  (itemsA p_begins).bind fun t1 => (cmpO (fun (x2 : PyData) => (intA x2).bind fun t4 => (intA x2).bind fun t5 => if ((decide (t5 ≤ p_hour)) && (decide (p_hour < (t4 + p_night.2)))) = true then some (some x2) else some none) t1).bind fun t6 => some (t6.length : Int)
theorem sim_awake_in_3 {p_night : ((List Int) × Int)} {p_begins : PyData} {p_hour : Int} {r : Int} (h : n_awake_in_3 p_night p_begins p_hour = some r) : Ret f_awake_in [(eP2 (eT eI) eI) p_night, eA p_begins, eI p_hour] .s (eI r) := by
  rw [f_awake_in_eq]
  refine ret_run (show Ws [.sh ((eP2 (eT eI) eI) p_night), .sh (eA p_begins), .sh (eI p_hour), .now] B_awake_in (RQ .s (eI r) NoM) from ?_)
  exact bindE h fun t1 kt1 h => bindE h fun t6 kt6 h => (ws_retM h (fun (r : Int) => eI r) (fun _ => NoM) (ef_bf (d := eI (t6.length : Int)) len_l (ea_cons (k := .f) (Ef.app Q_awake_in_1_app (ef_cmpO (P1 := [.sh ((eP2 (eT eI) eI) p_night), .sh (eA p_begins), .sh (eI p_hour), .now]) (ex := eA) (eb := eA) [.sh ((eP2 (eT eI) eI) p_night), .sh (eA p_begins), .sh (eI p_hour), .any] kt6 (it_seq (ds := List.map eA t1) (ef_var (i := 1) (d := eA p_begins) rfl) (itemsA_g kt1)) (leC wk (leC wk (leC wk (leC wk_any leN)))) rfl rfl (fun x2 o h => ⟨_, tg_slot, bindE h fun t4 kt4 h => bindE h fun t5 kt5 h => (Lb_if (eb_bool (ef_chain (Ef.cast ((ef_var (i := 3) (d := eA x2) rfl)) (intA_p kt5)) (ef_var (i := 2) (d := eI p_hour) rfl) (ef_bin (d := eI (t4 + p_night.2)) (Ef.cast ((ef_var (i := 3) (d := eA x2) rfl)) (intA_p kt4)) (ef_bin (d := eI p_night.2) (ef_var (i := 0) (d := (eP2 (eT eI) eI) p_night) rfl) (ef_const (d := eI 1)) trivial rfl) trivial rfl) trivial rfl rfl)) (fun hb => have h := if_t h hb; ⟨_, (someE h).symm, .s, _, (ef_var (i := 3) (d := eA x2) rfl), rfl, (leC wk (leC wk (leC wk (leC wk_any leN))))⟩) (fun hb => ⟨(someE (if_f h hb)).symm, (leC wk (leC wk (leC wk (leC wk_any leN))))⟩))⟩))) ea_nil trivial)) (fun _ _ => trivial))
noncomputable def n_is_rota_2 (p_night : ((List Int) × Int)) (p_value : PyData) : Option Bool :=
  (if (!(isTy "tuple" p_value)) = true then some true else (itemsA p_value).bind fun t1 => (allO (fun (x2 : PyData) => (n_is_number_2 x2 0 ((p_night.1.length : Int) - 1)).bind fun t3 => some t3) t1).bind fun t4 => some (!t4)).bind fun q5 => if q5 = true then some false else (lenA p_value).bind fun t7 => (rng 1 t7).bind fun r8 => (allO (fun (x9 : Int) => (opA itemG p_value (eI (x9 - 1))).bind fun t10 => (opA itemG p_value (eI x9)).bind fun t11 => (intA t10).bind fun t12 => (intA t11).bind fun t13 => some (decide (t12 ≤ t13))) r8).bind fun t14 => if (!t14) = true then some false else (allO (fun (x15 : (Int × Int)) => (n_awake_in_3 p_night p_value x15.1).bind fun t16 => some (decide (x15.2 ≤ t16))) (enumN p_night.1)).bind fun t17 => some t17
theorem sim_is_rota_2 {p_night : ((List Int) × Int)} {p_value : PyData} {r : Bool} (h : n_is_rota_2 p_night p_value = some r) : Ret f_is_rota [(eP2 (eT eI) eI) p_night, eA p_value] .s (eB r) := by
  rw [f_is_rota_eq]
  refine ret_run (show Ws [.sh ((eP2 (eT eI) eI) p_night), .sh (eA p_value), .now] B_is_rota (RQ .s (eB r) NoM) from ?_)
  exact ws_seq (P1 := [.sh ((eP2 (eT eI) eI) p_night), .sh (eA p_value), .sh ((eT eI) p_night.1)]) (nx_set (d := (eT eI) p_night.1) (ef_bin (d := (eT eI) p_night.1) (ef_var (i := 0) (d := (eP2 (eT eI) eI) p_night) rfl) (ef_const (d := eI 0)) trivial rfl)) (bindE h fun q5 kq5 h => (ws_ifs (eb_orE (P1 := [.sh ((eP2 (eT eI) eI) p_night), .sh (eA p_value), .sh ((eT eI) p_night.1)]) (fun (z6 : Bool) => z6) (fun (z6 : Bool) => [.sh ((eP2 (eT eI) eI) p_night), .sh (eA p_value), .sh ((eT eI) p_night.1)]) kq5 (eb_not (eb_is (ef_var (i := 1) (d := eA p_value) rfl) rfl)) rfl Le.refl (fun _ s h => bindE h fun t1 kt1 h => bindE h fun t4 kt4 h => (eb_fin h (fun (z6 : Bool) => z6) (fun (z6 : Bool) => [.sh ((eP2 (eT eI) eI) p_night), .sh (eA p_value), .sh ((eT eI) p_night.1)]) (eb_not (Eb.app Z_is_rota_1_app (eb_allO (ex := eA) [.sh ((eT eI) p_night.1), .any] kt4 (it_pk (ds := List.map eA t1) (ef_var (i := 1) (d := eA p_value) rfl) (itemsA_g kt1)) rfl (fun x2 o h => ⟨_, tg_slot, bindE h fun t3 kt3 h => (Qb_val h eb_yes (eb_bool (ef_call (sim_is_number_2 kt3) (ea_cons (k := .s) (ef_var (i := 1) (d := eA x2) rfl) (ea_cons (k := .s) (ef_const (d := eI 0)) (ea_cons (k := .s) (ef_bin (d := eI ((p_night.1.length : Int) - 1)) (ef_bf (d := eI (p_night.1.length : Int)) len_t (ea_cons (k := .s) (ef_var (i := 0) (d := (eT eI) p_night.1) rfl) ea_nil trivial)) (ef_const (d := eI 1)) trivial rfl) ea_nil trivial) trivial) trivial))) (leC wk (leC wk_any leN)))⟩)))) Le.refl))) (fun hb => have h := if_t h hb; ws_rtS (ws_retM h (fun (r : Bool) => eB r) (fun _ => NoM) (ef_const (d := eB false)) (fun _ _ => trivial))) (fun hb => have h := if_f h hb; ws_skip (bindE h fun t7 kt7 h => bindE h fun r8 kr8 h => bindE h fun t14 kt14 h => (ws_ifs (eb_not (Eb.app Z_is_rota_2_app (eb_allO (ex := eI) [.sh (eA p_value), .any] kt14 (it_rng2 kr8 (ea_cons (k := .s) (ef_const (d := eI 1)) (ea_cons (k := .s) (ef_bf (d := eI t7) (lenA_g kt7) (ea_cons (k := .s) (ef_var (i := 1) (d := eA p_value) rfl) ea_nil trivial)) ea_nil trivial) trivial)) rfl (fun x9 o h => ⟨_, tg_slot, bindE h fun t10 kt10 h => bindE h fun t11 kt11 h => bindE h fun t12 kt12 h => bindE h fun t13 kt13 h => (Qb_val h eb_yes (eb_bool (ef_bin (d := eB (decide (t12 ≤ t13))) (Ef.cast ((ef_bin (d := t10) (ef_var (i := 0) (d := eA p_value) rfl) (ef_bin (d := eI (x9 - 1)) (ef_var (i := 1) (d := eI x9) rfl) (ef_const (d := eI 1)) trivial rfl) trivial (opA_g kt10))) (intA_p kt12)) (Ef.cast ((ef_bin (d := t11) (ef_var (i := 0) (d := eA p_value) rfl) (ef_var (i := 1) (d := eI x9) rfl) trivial (opA_g kt11))) (intA_p kt13)) trivial rfl)) (leC wk (leC wk_any leN)))⟩)))) (fun hb => have h := if_t h hb; ws_rtS (ws_retM h (fun (r : Bool) => eB r) (fun _ => NoM) (ef_const (d := eB false)) (fun _ _ => trivial))) (fun hb => have h := if_f h hb; ws_skip (bindE h fun t17 kt17 h => (ws_retM h (fun (r : Bool) => eB r) (fun _ => NoM) (ef_ofB ((Eb.app Z_is_rota_3_app (eb_allO (ex := (eP2 eI eI)) [.sh ((eP2 (eT eI) eI) p_night), .sh (eA p_value), .any, .any] kt17 (It.cast (it_enum (ds := List.map eI p_night.1) (ef_var (i := 2) (d := (eT eI) p_night.1) rfl) rfl) enum_map) rfl (fun x15 o h => ⟨_, (tg_tup (tgs_cons tg_slot (tgs_cons tg_slot tgs_nil))), bindE h fun t16 kt16 h => (Qb_val h eb_yes (eb_bool (ef_bin (d := eB (decide (x15.2 ≤ t16))) (ef_call (sim_awake_in_3 kt16) (ea_cons (k := .s) (ef_var (i := 0) (d := (eP2 (eT eI) eI) p_night) rfl) (ea_cons (k := .s) (ef_var (i := 1) (d := eA p_value) rfl) (ea_cons (k := .s) (ef_var (i := 2) (d := eI x15.1) rfl) ea_nil trivial) trivial) trivial)) (ef_var (i := 3) (d := eI x15.2) rfl) trivial rfl)) (leC wk (leC wk (leC wk_any (leC wk_any leN)))))⟩))))) (fun _ _ => trivial)))))))))
noncomputable def n_are_apart_2 (p_night : ((List Int) × Int)) (p_value : PyData) : Option Bool :=
  (if (!(isTy "tuple" p_value)) = true then some true else (itemsA p_value).bind fun t1 => (allO (fun (x2 : PyData) => (n_is_number_2 x2 0 ((p_night.1.length : Int) - 1)).bind fun t3 => some t3) t1).bind fun t4 => some (!t4)).bind fun q5 => if q5 = true then some false else (lenA p_value).bind fun t7 => (rng 1 t7).bind fun r8 => (allO (fun (x9 : Int) => (opA itemG p_value (eI x9)).bind fun t10 => (opA itemG p_value (eI (x9 - 1))).bind fun t11 => (intA t10).bind fun t12 => (intA t11).bind fun t13 => some (decide (p_night.2 ≤ (t12 - t13)))) r8).bind fun t14 => some t14
theorem sim_are_apart_2 {p_night : ((List Int) × Int)} {p_value : PyData} {r : Bool} (h : n_are_apart_2 p_night p_value = some r) : Ret f_are_apart [(eP2 (eT eI) eI) p_night, eA p_value] .s (eB r) := by
  rw [f_are_apart_eq]
  refine ret_run (show Ws [.sh ((eP2 (eT eI) eI) p_night), .sh (eA p_value), .now, .now] B_are_apart (RQ .s (eB r) NoM) from ?_)
  exact ws_seq (P1 := [.sh ((eP2 (eT eI) eI) p_night), .sh (eA p_value), .sh (eI p_night.2), .sh ((eT eI) p_night.1)]) (nx_setT (d := (eP2 (eT eI) eI) p_night) (ef_var (i := 0) (d := (eP2 (eT eI) eI) p_night) rfl) (tg_tup (tgs_cons tg_slot (tgs_cons tg_slot tgs_nil)))) (bindE h fun q5 kq5 h => (ws_ifs (eb_orE (P1 := [.sh ((eP2 (eT eI) eI) p_night), .sh (eA p_value), .sh (eI p_night.2), .sh ((eT eI) p_night.1)]) (fun (z6 : Bool) => z6) (fun (z6 : Bool) => [.sh ((eP2 (eT eI) eI) p_night), .sh (eA p_value), .sh (eI p_night.2), .sh ((eT eI) p_night.1)]) kq5 (eb_not (eb_is (ef_var (i := 1) (d := eA p_value) rfl) rfl)) rfl Le.refl (fun _ s h => bindE h fun t1 kt1 h => bindE h fun t4 kt4 h => (eb_fin h (fun (z6 : Bool) => z6) (fun (z6 : Bool) => [.sh ((eP2 (eT eI) eI) p_night), .sh (eA p_value), .sh (eI p_night.2), .sh ((eT eI) p_night.1)]) (eb_not (Eb.app Z_are_apart_1_app (eb_allO (ex := eA) [.sh ((eT eI) p_night.1), .any] kt4 (it_pk (ds := List.map eA t1) (ef_var (i := 1) (d := eA p_value) rfl) (itemsA_g kt1)) rfl (fun x2 o h => ⟨_, tg_slot, bindE h fun t3 kt3 h => (Qb_val h eb_yes (eb_bool (ef_call (sim_is_number_2 kt3) (ea_cons (k := .s) (ef_var (i := 1) (d := eA x2) rfl) (ea_cons (k := .s) (ef_const (d := eI 0)) (ea_cons (k := .s) (ef_bin (d := eI ((p_night.1.length : Int) - 1)) (ef_bf (d := eI (p_night.1.length : Int)) len_t (ea_cons (k := .s) (ef_var (i := 0) (d := (eT eI) p_night.1) rfl) ea_nil trivial)) (ef_const (d := eI 1)) trivial rfl) ea_nil trivial) trivial) trivial))) (leC wk (leC wk_any leN)))⟩)))) Le.refl))) (fun hb => have h := if_t h hb; ws_rtS (ws_retM h (fun (r : Bool) => eB r) (fun _ => NoM) (ef_const (d := eB false)) (fun _ _ => trivial))) (fun hb => have h := if_f h hb; ws_skip (bindE h fun t7 kt7 h => bindE h fun r8 kr8 h => bindE h fun t14 kt14 h => (ws_retM h (fun (r : Bool) => eB r) (fun _ => NoM) (ef_ofB ((Eb.app Z_are_apart_2_app (eb_allO (ex := eI) [.sh (eI p_night.2), .sh (eA p_value), .any] kt14 (it_rng2 kr8 (ea_cons (k := .s) (ef_const (d := eI 1)) (ea_cons (k := .s) (ef_bf (d := eI t7) (lenA_g kt7) (ea_cons (k := .s) (ef_var (i := 1) (d := eA p_value) rfl) ea_nil trivial)) ea_nil trivial) trivial)) rfl (fun x9 o h => ⟨_, tg_slot, bindE h fun t10 kt10 h => bindE h fun t11 kt11 h => bindE h fun t12 kt12 h => bindE h fun t13 kt13 h => (Qb_val h eb_yes (eb_bool (ef_bin (d := eB (decide (p_night.2 ≤ (t12 - t13)))) (ef_bin (d := eI (t12 - t13)) (Ef.cast ((ef_bin (d := t10) (ef_var (i := 1) (d := eA p_value) rfl) (ef_var (i := 2) (d := eI x9) rfl) trivial (opA_g kt10))) (intA_p kt12)) (Ef.cast ((ef_bin (d := t11) (ef_var (i := 1) (d := eA p_value) rfl) (ef_bin (d := eI (x9 - 1)) (ef_var (i := 2) (d := eI x9) rfl) (ef_const (d := eI 1)) trivial rfl) trivial (opA_g kt11))) (intA_p kt13)) trivial rfl) (ef_var (i := 0) (d := eI p_night.2) rfl) trivial rfl)) (leC wk (leC wk (leC wk_any leN))))⟩))))) (fun _ _ => trivial))))))
noncomputable def n_law_1 (t1 : (((List Int) × Int) × (List Int))) (x26 : Int) (s68 : (List Int)) (x67 : Int) : Option ((List Int)) :=
  (n__law_awake t1.1 s68 x26).bind fun t75 => (atI t1.1.1 x26).bind fun t76 => (if (decide (t75 < t76)) = true then (pushN s68 x26).bind fun own79 => some own79 else some s68).bind fun j80 => some j80
@[reducible] def J_law_1 (ns : List Int) (t1 : (((List Int) × Int) × (List Int))) (many2 : Int) (q23 : (Bool × (List PyData))) (x26 : Int) (s68 : (List Int)) : List Pt := [.sh (scrD ns), .own none (List.map eI t1.2), .sh ((eP2 (eT eI) eI) t1.1), .sh ((eT eI) t1.1.1), .sh (eI t1.1.2), .sh (eI many2), .lst (List.map eA q23.2), .own none (List.map eI s68), .sh (eI x26), .now, .now, .now, .now, .now, .now, .now, .now, .now, .now]
theorem sim_law_1 {ns : List Int} {t1 : (((List Int) × Int) × (List Int))} {many2 : Int} {q23 : (Bool × (List PyData))} {x26 : Int} {s68 : (List Int)} {x67 : Int} {r : ((List Int))} (h : n_law_1 t1 x26 s68 x67 = some r) : ∃ PB, Tg [.sh (scrD ns), .own none (List.map eI t1.2), .sh ((eP2 (eT eI) eI) t1.1), .sh ((eT eI) t1.1.1), .sh (eI t1.1.2), .sh (eI many2), .lst (List.map eA q23.2), .own none (List.map eI s68), .sh (eI x26), .now, .now, .now, .now, .now, .now, .now, .now, .now, .now] (toSlot 9 (eI x67)) PB ∧ Ws PB L_law_1 (CQ ((J_law_1 ns t1 many2 q23 x26) r)) := ⟨[.sh (scrD ns), .own none (List.map eI t1.2), .sh ((eP2 (eT eI) eI) t1.1), .sh ((eT eI) t1.1.1), .sh (eI t1.1.2), .sh (eI many2), .lst (List.map eA q23.2), .own none (List.map eI s68), .sh (eI x26), .sh (eI x67), .now, .now, .now, .now, .now, .now, .now, .now, .now], tg_slot, Ws.app L_law_1_app (bindE h fun t75 kt75 h => bindE h fun t76 kt76 h => bindE h fun j80 kj80 h => (nx_end (P1 := [.sh (scrD ns), .own none (List.map eI t1.2), .sh ((eP2 (eT eI) eI) t1.1), .sh ((eT eI) t1.1.1), .sh (eI t1.1.2), .sh (eI many2), .lst (List.map eA q23.2), .own none (List.map eI j80), .sh (eI x26), .sh (eI x67), .now, .now, .now, .now, .now, .now, .now, .now, .now]) (nx_ifE (fun (s78 : (List Int)) => [.sh (scrD ns), .own none (List.map eI t1.2), .sh ((eP2 (eT eI) eI) t1.1), .sh ((eT eI) t1.1.1), .sh (eI t1.1.2), .sh (eI many2), .lst (List.map eA q23.2), .own none (List.map eI s78), .sh (eI x26), .sh (eI x67), .now, .now, .now, .now, .now, .now, .now, .now, .now]) kj80 (eb_bool (ef_bin (d := eB (decide (t75 < t76))) (ef_callB (sim__law_awake kt75) ((fun _ => rfl) _) (ea_cons (k := .s) (ef_var (i := 2) (d := (eP2 (eT eI) eI) t1.1) rfl) (ea_cons (k := .v 7) (ef_own (i := 7) (ds := List.map eI s68) rfl) (ea_cons (k := .s) (ef_var (i := 8) (d := eI x26) rfl) ea_nil trivial) (.inl rfl)) trivial)) (ef_bin (d := eI t76) (ef_var (i := 3) (d := (eT eI) t1.1.1) rfl) (ef_var (i := 8) (d := eI x26) rfl) trivial (at_t kt76)) trivial rfl)) (fun hb s h => bindE h fun own79 kown79 h => (nx_end (P1 := [.sh (scrD ns), .own none (List.map eI t1.2), .sh ((eP2 (eT eI) eI) t1.1), .sh ((eT eI) t1.1.1), .sh (eI t1.1.2), .sh (eI many2), .lst (List.map eA q23.2), .own none (List.map eI own79), .sh (eI x26), .sh (eI x67), .now, .now, .now, .now, .now, .now, .now, .now, .now]) (nx_drop ((ef_push (e := eI) kown79 rfl (ef_var (i := 8) (d := eI x26) rfl) rfl))) (nq_fin (fun (s78 : (List Int)) => [.sh (scrD ns), .own none (List.map eI t1.2), .sh ((eP2 (eT eI) eI) t1.1), .sh ((eT eI) t1.1.1), .sh (eI t1.1.2), .sh (eI many2), .lst (List.map eA q23.2), .own none (List.map eI s78), .sh (eI x26), .sh (eI x67), .now, .now, .now, .now, .now, .now, .now, .now, .now]) h Le.refl))) (fun hb s h => nx_fin (fun (s78 : (List Int)) => [.sh (scrD ns), .own none (List.map eI t1.2), .sh ((eP2 (eT eI) eI) t1.1), .sh ((eT eI) t1.1.1), .sh (eI t1.1.2), .sh (eI many2), .lst (List.map eA q23.2), .own none (List.map eI s78), .sh (eI x26), .sh (eI x67), .now, .now, .now, .now, .now, .now, .now, .now, .now]) h nx_skip Le.refl)) (cq_nx (J := (J_law_1 ns t1 many2 q23 x26)) h (leC wk (leC wk (leC wk (leC wk (leC wk (leC wk (leC wk (leC wk (leC wk (leC wk_now (leC wk (leC wk (leC wk (leC wk (leC wk (leC wk (leC wk (leC wk (leC wk leN))))))))))))))))))))))⟩
noncomputable def n_law_2 (t1 : (((List Int) × Int) × (List Int))) (s27 : (List Int)) (x26 : Int) : Option ((List Int)) :=
  (rng 0 5).bind fun r66 => (forN (n_law_1 t1 x26) s27 r66).bind fun l81 => some l81
@[reducible] def J_law_2 (ns : List Int) (t1 : (((List Int) × Int) × (List Int))) (many2 : Int) (q23 : (Bool × (List PyData))) (s27 : (List Int)) : List Pt := [.sh (scrD ns), .own none (List.map eI t1.2), .sh ((eP2 (eT eI) eI) t1.1), .sh ((eT eI) t1.1.1), .sh (eI t1.1.2), .sh (eI many2), .lst (List.map eA q23.2), .own none (List.map eI s27), .now, .now, .now, .now, .now, .now, .now, .now, .now, .now, .now]
theorem sim_law_2 {ns : List Int} {t1 : (((List Int) × Int) × (List Int))} {many2 : Int} {q23 : (Bool × (List PyData))} {s27 : (List Int)} {x26 : Int} {r : ((List Int))} (h : n_law_2 t1 s27 x26 = some r) : ∃ PB, Tg [.sh (scrD ns), .own none (List.map eI t1.2), .sh ((eP2 (eT eI) eI) t1.1), .sh ((eT eI) t1.1.1), .sh (eI t1.1.2), .sh (eI many2), .lst (List.map eA q23.2), .own none (List.map eI s27), .now, .now, .now, .now, .now, .now, .now, .now, .now, .now, .now] (toSlot 8 (eI x26)) PB ∧ Ws PB L_law_2 (CQ ((J_law_2 ns t1 many2 q23) r)) := ⟨[.sh (scrD ns), .own none (List.map eI t1.2), .sh ((eP2 (eT eI) eI) t1.1), .sh ((eT eI) t1.1.1), .sh (eI t1.1.2), .sh (eI many2), .lst (List.map eA q23.2), .own none (List.map eI s27), .sh (eI x26), .now, .now, .now, .now, .now, .now, .now, .now, .now, .now], tg_slot, Ws.app L_law_2_app (bindE h fun r66 kr66 h => bindE h fun l81 kl81 h => (nx_end (P1 := [.sh (scrD ns), .own none (List.map eI t1.2), .sh ((eP2 (eT eI) eI) t1.1), .sh ((eT eI) t1.1.1), .sh (eI t1.1.2), .sh (eI many2), .lst (List.map eA q23.2), .own none (List.map eI l81), .sh (eI x26), .now, .now, .now, .now, .now, .now, .now, .now, .now, .now]) (nx_for (P1 := [.sh (scrD ns), .own none (List.map eI t1.2), .sh ((eP2 (eT eI) eI) t1.1), .sh ((eT eI) t1.1.1), .sh (eI t1.1.2), .sh (eI many2), .lst (List.map eA q23.2), .own none (List.map eI s27), .sh (eI x26), .now, .now, .now, .now, .now, .now, .now, .now, .now, .now]) (ex := eI) (J_law_1 ns t1 many2 q23 x26) kl81 (it_rng1 kr66 (ea_cons (k := .s) (ef_const (d := eI 5)) ea_nil trivial)) Le.refl (fun _ _ _ h => sim_law_1 h)) (cq_nx (J := (J_law_2 ns t1 many2 q23)) h (leC wk (leC wk (leC wk (leC wk (leC wk (leC wk (leC wk (leC wk (leC wk_now (leC wk (leC wk (leC wk (leC wk (leC wk (leC wk (leC wk (leC wk (leC wk (leC wk leN))))))))))))))))))))))⟩
noncomputable def n_law_3 (t1 : (((List Int) × Int) × (List Int))) (s94 : (List (List Int))) (x93 : Int) : Option ((List (List Int))) :=
  (cmpO (fun (x111 : (List Int)) => (if (decide (x111 = [])) = true then some true else (atI x111 (-1)).bind fun t113 => some (decide (t1.1.2 ≤ (x93 - t113)))).bind fun q114 => if q114 = true then (catN x111 [x93]).bind fun t116 => some (some t116) else some none) s94).bind fun t117 => (catN s94 t117).bind fun t118 => some t118
@[reducible] def J_law_3 (ns : List Int) (t1 : (((List Int) × Int) × (List Int))) (many2 : Int) (q23 : (Bool × (List PyData))) (l82 : ((List Int))) (t83 : (List Int)) (s94 : (List (List Int))) : List Pt := [.sh (scrD ns), .own none (List.map eI t1.2), .sh ((eP2 (eT eI) eI) t1.1), .sh ((eT eI) t1.1.1), .sh (eI t1.1.2), .sh (eI many2), .lst (List.map eA q23.2), .own none (List.map eI l82), .now, .now, .sh ((eT eI) t83), .own none (List.map (eT eI) s94), .now, .now, .now, .now, .now, .now, .now]
theorem sim_law_3 {ns : List Int} {t1 : (((List Int) × Int) × (List Int))} {many2 : Int} {q23 : (Bool × (List PyData))} {l82 : ((List Int))} {t83 : (List Int)} {s94 : (List (List Int))} {x93 : Int} {r : ((List (List Int)))} (h : n_law_3 t1 s94 x93 = some r) : ∃ PB, Tg [.sh (scrD ns), .own none (List.map eI t1.2), .sh ((eP2 (eT eI) eI) t1.1), .sh ((eT eI) t1.1.1), .sh (eI t1.1.2), .sh (eI many2), .lst (List.map eA q23.2), .own none (List.map eI l82), .now, .now, .sh ((eT eI) t83), .own none (List.map (eT eI) s94), .now, .now, .now, .now, .now, .now, .now] (toSlot 8 (eI x93)) PB ∧ Ws PB L_law_3 (CQ ((J_law_3 ns t1 many2 q23 l82 t83) r)) := ⟨[.sh (scrD ns), .own none (List.map eI t1.2), .sh ((eP2 (eT eI) eI) t1.1), .sh ((eT eI) t1.1.1), .sh (eI t1.1.2), .sh (eI many2), .lst (List.map eA q23.2), .own none (List.map eI l82), .sh (eI x93), .now, .sh ((eT eI) t83), .own none (List.map (eT eI) s94), .now, .now, .now, .now, .now, .now, .now], tg_slot, Ws.app L_law_3_app (bindE h fun t117 kt117 h => bindE h fun t118 kt118 h => (nx_end (P1 := [.sh (scrD ns), .own none (List.map eI t1.2), .sh ((eP2 (eT eI) eI) t1.1), .sh ((eT eI) t1.1.1), .sh (eI t1.1.2), .sh (eI many2), .lst (List.map eA q23.2), .own none (List.map eI l82), .sh (eI x93), .now, .sh ((eT eI) t83), .own none (List.map (eT eI) t118), .now, .now, .now, .now, .now, .now, .now]) (nx_setF (ds := List.map (eT eI) t118) (ef_binL (ds := List.map (eT eI) t118) (ef_own (i := 11) (ds := List.map (eT eI) s94) rfl) (Ef.app Q_law_4_app (ef_cmpO (P1 := [.sh (scrD ns), .own none (List.map eI t1.2), .sh ((eP2 (eT eI) eI) t1.1), .sh ((eT eI) t1.1.1), .sh (eI t1.1.2), .sh (eI many2), .lst (List.map eA q23.2), .own none (List.map eI l82), .sh (eI x93), .now, .sh ((eT eI) t83), .sh ((eL (eT eI)) s94), .now, .now, .now, .now, .now, .now, .now]) (ex := (eT eI)) (eb := (eT eI)) [.sh (scrD ns), .own none (List.map eI t1.2), .sh ((eP2 (eT eI) eI) t1.1), .sh ((eT eI) t1.1.1), .sh (eI t1.1.2), .sh (eI many2), .lst (List.map eA q23.2), .own none (List.map eI l82), .sh (eI x93), .now, .sh ((eT eI) t83), .sh ((eL (eT eI)) s94), .any, .now, .now, .now, .now, .now, .now] kt117 (it_seq (ds := List.map (eT eI) s94) (ef_own (i := 11) (ds := List.map (eT eI) s94) rfl) rfl) (leC wk (leC wk (leC wk (leC wk (leC wk (leC wk (leC wk (leC wk (leC wk (leC wk (leC wk (leC wk (leC wk_any (leC wk (leC wk (leC wk (leC wk (leC wk (leC wk leN))))))))))))))))))) rfl rfl (fun x111 o h => ⟨_, tg_slot, bindE h fun q114 kq114 h => (Lb_if (eb_orE (P1 := [.sh (scrD ns), .own none (List.map eI t1.2), .sh ((eP2 (eT eI) eI) t1.1), .sh ((eT eI) t1.1.1), .sh (eI t1.1.2), .sh (eI many2), .lst (List.map eA q23.2), .own none (List.map eI l82), .sh (eI x93), .now, .sh ((eT eI) t83), .sh ((eL (eT eI)) s94), .sh ((eT eI) x111), .now, .now, .now, .now, .now, .now]) (fun (z115 : Bool) => z115) (fun (z115 : Bool) => [.sh (scrD ns), .own none (List.map eI t1.2), .sh ((eP2 (eT eI) eI) t1.1), .sh ((eT eI) t1.1.1), .sh (eI t1.1.2), .sh (eI many2), .lst (List.map eA q23.2), .own none (List.map eI l82), .sh (eI x93), .now, .sh ((eT eI) t83), .sh ((eL (eT eI)) s94), .sh ((eT eI) x111), .now, .now, .now, .now, .now, .now]) kq114 (eb_bool (ef_bin (d := eB (decide (x111 = []))) (ef_var (i := 12) (d := (eT eI) x111) rfl) (Ef.cast (d1 := (eT eI) []) ((ef_tup ea_nil sz0)) rfl) trivial (eq_g (e := (eT eI)) (Eqo.n (okT okI))))) rfl Le.refl (fun _ s h => bindE h fun t113 kt113 h => (eb_fin h (fun (z115 : Bool) => z115) (fun (z115 : Bool) => [.sh (scrD ns), .own none (List.map eI t1.2), .sh ((eP2 (eT eI) eI) t1.1), .sh ((eT eI) t1.1.1), .sh (eI t1.1.2), .sh (eI many2), .lst (List.map eA q23.2), .own none (List.map eI l82), .sh (eI x93), .now, .sh ((eT eI) t83), .sh ((eL (eT eI)) s94), .sh ((eT eI) x111), .now, .now, .now, .now, .now, .now]) (eb_bool (ef_bin (d := eB (decide (t1.1.2 ≤ (x93 - t113)))) (ef_bin (d := eI (x93 - t113)) (ef_var (i := 8) (d := eI x93) rfl) (ef_bin (d := eI t113) (ef_var (i := 12) (d := (eT eI) x111) rfl) (ef_un (d := eI (-1)) (ef_const (d := eI 1)) rfl) trivial (at_t kt113)) trivial rfl) (ef_var (i := 4) (d := eI t1.1.2) rfl) trivial rfl)) Le.refl))) (fun hb => have h := if_t h hb; bindE h fun t116 kt116 h => ⟨_, (someE h).symm, .s, _, (ef_bin (d := (eT eI) t116) (ef_var (i := 12) (d := (eT eI) x111) rfl) (Ef.cast (d1 := (eT eI) [x93]) ((ef_tup (ea_cons (k := .s) (ef_var (i := 8) (d := eI x93) rfl) ea_nil trivial) sz1)) rfl) trivial (cat_t kt116)), rfl, (leC wk (leC wk (leC wk (leC wk (leC wk (leC wk (leC wk (leC wk (leC wk (leC wk (leC wk (leC wk (leC wk_any (leC wk (leC wk (leC wk (leC wk (leC wk (leC wk leN)))))))))))))))))))⟩) (fun hb => ⟨(someE (if_f h hb)).symm, (leC wk (leC wk (leC wk (leC wk (leC wk (leC wk (leC wk (leC wk (leC wk (leC wk (leC wk (leC wk (leC wk_any (leC wk (leC wk (leC wk (leC wk (leC wk (leC wk leN)))))))))))))))))))⟩))⟩))) (.inr ⟨_, rfl, rfl⟩) (cat_l kt118))) (cq_nx (J := (J_law_3 ns t1 many2 q23 l82 t83)) h (leC wk (leC wk (leC wk (leC wk (leC wk (leC wk (leC wk (leC wk (leC wk_now (leC wk (leC wk (leC wk (leC wk (leC wk (leC wk (leC wk (leC wk (leC wk (leC wk leN))))))))))))))))))))))⟩
noncomputable def n_law_4 (t1 : (((List Int) × Int) × (List Int))) (many2 : Int) (t83 : (List Int)) (l119 : ((List (List Int)))) (s132 : (List Int)) (x131 : Int) : Option (Fl Bool ((List Int))) :=
  (n__law_take s132 3).bind fun t159 => (rng 0 t159.1).bind fun r160 => (cmpS (fun (s162 : (List Int)) (x161 : Int) => (n__law_take s162 many2).bind fun t164 => some (some t164.1, t164.2)) t159.2 r160).bind fun t165 => (catN t83 t165.1).bind fun t166 => letO (sortN ltI t166) fun some167 => (n__law_take t165.2 (max 1 (some167.length : Int))).bind fun t168 => (n__law_take t168.2 2).bind fun t169 => (if (decide (t169.1 = 0)) = true then (catN (cutN some167 none (some t168.1)) (cutN some167 (some (t168.1 + 1)) none)).bind fun t171 => some t171 else some some167).bind fun q173 => (n__law_is_rota t1.1 q173).bind fun t174 => (n_is_rota t1.1 q173).bind fun t175 => (alk (eB t175) (eB t174)).bind fun t176 => if ((!t176) || (t174 && (decide ((q173.length : Int) < (t83.length : Int))))) = true then some (.rt false) else (rng 0 many2).bind fun r177 => (cmpS (fun (s179 : (List Int)) (x178 : Int) => (n__law_take s179 3).bind fun t181 => if (decide (t181.1 = 0)) = true then some (some x178, t181.2) else some (none, t181.2)) t169.2 r177).bind fun t182 => (n_are_apart t1.1 t182.1).bind fun t183 => (alk (eB t183) (eB (memB t182.1 l119))).bind fun t184 => if (!t184) = true then some (.rt false) else some (.nx t182.2)
@[reducible] def J_law_4 (ns : List Int) (t1 : (((List Int) × Int) × (List Int))) (many2 : Int) (q23 : (Bool × (List PyData))) (l82 : ((List Int))) (t83 : (List Int)) (l119 : ((List (List Int)))) (t127 : (Int × (List Int))) (s132 : (List Int)) : List Pt := [.sh (scrD ns), .own none (List.map eI s132), .sh ((eP2 (eT eI) eI) t1.1), .sh ((eT eI) t1.1.1), .sh (eI t1.1.2), .sh (eI many2), .lst (List.map eA q23.2), .own none (List.map eI l82), .now, .now, .sh ((eT eI) t83), .sh ((eL (eT eI)) l119), .now, .sh ((eP2 eI (eT eI)) t127), .now, .now, .now, .now, .now]
theorem sim_law_4 {ns : List Int} {t1 : (((List Int) × Int) × (List Int))} {many2 : Int} {q23 : (Bool × (List PyData))} {l82 : ((List Int))} {t83 : (List Int)} {l119 : ((List (List Int)))} {t127 : (Int × (List Int))} {s132 : (List Int)} {x131 : Int} {r : (Fl Bool ((List Int)))} (h : n_law_4 t1 many2 t83 l119 s132 x131 = some r) : ∃ PB, Tg [.sh (scrD ns), .own none (List.map eI s132), .sh ((eP2 (eT eI) eI) t1.1), .sh ((eT eI) t1.1.1), .sh (eI t1.1.2), .sh (eI many2), .lst (List.map eA q23.2), .own none (List.map eI l82), .now, .now, .sh ((eT eI) t83), .sh ((eL (eT eI)) l119), .now, .sh ((eP2 eI (eT eI)) t127), .now, .now, .now, .now, .now] (toSlot 9 (eI x131)) PB ∧ Ws PB L_law_4 (FQ (J_law_4 ns t1 many2 q23 l82 t83 l119 t127) (fun (r : Bool) => RQ .s ((fun (r : Bool) => eB r) r) ((fun _ => NoM) r)) r) := ⟨[.sh (scrD ns), .own none (List.map eI s132), .sh ((eP2 (eT eI) eI) t1.1), .sh ((eT eI) t1.1.1), .sh (eI t1.1.2), .sh (eI many2), .lst (List.map eA q23.2), .own none (List.map eI l82), .now, .sh (eI x131), .sh ((eT eI) t83), .sh ((eL (eT eI)) l119), .now, .sh ((eP2 eI (eT eI)) t127), .now, .now, .now, .now, .now], tg_slot, Ws.app L_law_4_app (bindE h fun t159 kt159 h => bindE h fun r160 kr160 h => bindE h fun t165 kt165 h => bindE h fun t166 kt166 h => letE h fun some167 ksome167 h => (ws_seq (P1 := [.sh (scrD ns), .own none (List.map eI t165.2), .sh ((eP2 (eT eI) eI) t1.1), .sh ((eT eI) t1.1.1), .sh (eI t1.1.2), .sh (eI many2), .lst (List.map eA q23.2), .own none (List.map eI l82), .now, .sh (eI x131), .sh ((eT eI) t83), .sh ((eL (eT eI)) l119), .now, .sh ((eP2 eI (eT eI)) t127), .now, .sh ((eT eI) some167), .now, .now, .now]) (nx_set (d := (eT eI) some167) (Ef.cast ((ef_bf (d := eT eI (sortN ltI t166)) rfl (ea_cons (k := .f) (ef_bfL (es := List.map eI (sortN ltI t166)) (sort_l ltoI (Eqo.n okI) (.inr fun _ => rfl)) (ea_cons (k := .f) (ef_binL (ds := List.map eI t166) (ef_bfL (es := List.map eI t83) rfl (ea_cons (k := .s) (ef_var (i := 10) (d := (eT eI) t83) rfl) ea_nil trivial)) (Ef.weak (Ef.app Q_law_7_app (ef_cmpS (P1 := [.sh (scrD ns), .own none (List.map eI t159.2), .sh ((eP2 (eT eI) eI) t1.1), .sh ((eT eI) t1.1.1), .sh (eI t1.1.2), .sh (eI many2), .lst (List.map eA q23.2), .own none (List.map eI l82), .now, .sh (eI x131), .sh ((eT eI) t83), .sh ((eL (eT eI)) l119), .now, .sh ((eP2 eI (eT eI)) t127), .now, .now, .now, .now, .now]) (ex := eI) (eb := eI) (fun (s162 : (List Int)) => [.sh (scrD ns), .own none (List.map eI s162), .sh ((eP2 (eT eI) eI) t1.1), .sh ((eT eI) t1.1.1), .sh (eI t1.1.2), .sh (eI many2), .lst (List.map eA q23.2), .own none (List.map eI l82), .now, .sh (eI x131), .sh ((eT eI) t83), .sh ((eL (eT eI)) l119), .now, .sh ((eP2 eI (eT eI)) t127), .any, .now, .now, .now, .now]) kt165 (it_rng1 kr160 (ea_cons (k := .s) (ef_callL (j := 1) (es := List.map eI s132) (sim__law_take kt159) rfl (ea_cons (k := .s) (ef_const (d := eI 3)) ea_nil trivial) rfl) ea_nil trivial)) (leC wk (leC wk (leC wk (leC wk (leC wk (leC wk (leC wk (leC wk (leC wk (leC wk (leC wk (leC wk (leC wk (leC wk (leC wk_any (leC wk (leC wk (leC wk (leC wk leN))))))))))))))))))) rfl (fun s162 x161 p h => ⟨_, tg_slot, bindE h fun t164 kt164 h => (LbS_some h eb_yes (S := fun (s162 : (List Int)) => [.sh (scrD ns), .own none (List.map eI s162), .sh ((eP2 (eT eI) eI) t1.1), .sh ((eT eI) t1.1.1), .sh (eI t1.1.2), .sh (eI many2), .lst (List.map eA q23.2), .own none (List.map eI l82), .now, .sh (eI x131), .sh ((eT eI) t83), .sh ((eL (eT eI)) l119), .now, .sh ((eP2 eI (eT eI)) t127), .any, .now, .now, .now, .now]) (ef_callL (j := 1) (es := List.map eI s162) (sim__law_take kt164) rfl (ea_cons (k := .s) (ef_var (i := 5) (d := eI many2) rfl) ea_nil trivial) rfl) rfl (leC wk (leC wk (leC wk (leC wk (leC wk (leC wk (leC wk (leC wk (leC wk (leC wk (leC wk (leC wk (leC wk (leC wk (leC wk_any (leC wk (leC wk (leC wk (leC wk leN))))))))))))))))))))⟩))) trivial (leR rfl)) trivial (cat_l kt166)) ea_nil trivial)) ea_nil trivial))) (congrArg (eT eI) ksome167.symm))) (bindE h fun t168 kt168 h => (ws_seq (P1 := [.sh (scrD ns), .own none (List.map eI t168.2), .sh ((eP2 (eT eI) eI) t1.1), .sh ((eT eI) t1.1.1), .sh (eI t1.1.2), .sh (eI many2), .lst (List.map eA q23.2), .own none (List.map eI l82), .now, .sh (eI x131), .sh ((eT eI) t83), .sh ((eL (eT eI)) l119), .now, .sh ((eP2 eI (eT eI)) t127), .sh (eI t168.1), .sh ((eT eI) some167), .now, .now, .now]) (nx_set (d := eI t168.1) (ef_callL (j := 1) (es := List.map eI t165.2) (sim__law_take kt168) rfl (ea_cons (k := .s) (ef_bf (d := eI (max 1 (some167.length : Int))) rfl (ea_cons (k := .s) (ef_const (d := eI 1)) (ea_cons (k := .s) (ef_bf (d := eI (some167.length : Int)) len_t (ea_cons (k := .s) (ef_var (i := 15) (d := (eT eI) some167) rfl) ea_nil trivial)) ea_nil trivial) trivial)) ea_nil trivial) rfl)) (bindE h fun t169 kt169 h => bindE h fun q173 kq173 h => (ws_seq (P1 := [.sh (scrD ns), .own none (List.map eI t169.2), .sh ((eP2 (eT eI) eI) t1.1), .sh ((eT eI) t1.1.1), .sh (eI t1.1.2), .sh (eI many2), .lst (List.map eA q23.2), .own none (List.map eI l82), .now, .sh (eI x131), .sh ((eT eI) t83), .sh ((eL (eT eI)) l119), .now, .sh ((eP2 eI (eT eI)) t127), .sh (eI t168.1), .sh ((eT eI) q173), .now, .now, .now]) (nx_set (d := (eT eI) q173) (ef_ifE (fun (z172 : (List Int)) => (eT eI) z172) (fun (z172 : (List Int)) => [.sh (scrD ns), .own none (List.map eI t169.2), .sh ((eP2 (eT eI) eI) t1.1), .sh ((eT eI) t1.1.1), .sh (eI t1.1.2), .sh (eI many2), .lst (List.map eA q23.2), .own none (List.map eI l82), .now, .sh (eI x131), .sh ((eT eI) t83), .sh ((eL (eT eI)) l119), .now, .sh ((eP2 eI (eT eI)) t127), .sh (eI t168.1), .sh ((eT eI) some167), .now, .now, .now]) kq173 (eb_bool (ef_bin (d := eB (decide (t169.1 = 0))) (ef_callL (j := 1) (es := List.map eI t168.2) (sim__law_take kt169) rfl (ea_cons (k := .s) (ef_const (d := eI 2)) ea_nil trivial) rfl) (ef_const (d := eI 0)) trivial (eq_g (e := eI) (Eqo.n okI)))) (fun _ s h => bindE h fun t171 kt171 h => (ef_fin h (fun (z172 : (List Int)) => (eT eI) z172) (fun (z172 : (List Int)) => [.sh (scrD ns), .own none (List.map eI t169.2), .sh ((eP2 (eT eI) eI) t1.1), .sh ((eT eI) t1.1.1), .sh (eI t1.1.2), .sh (eI many2), .lst (List.map eA q23.2), .own none (List.map eI l82), .now, .sh (eI x131), .sh ((eT eI) t83), .sh ((eL (eT eI)) l119), .now, .sh ((eP2 eI (eT eI)) t127), .sh (eI t168.1), .sh ((eT eI) some167), .now, .now, .now]) (ef_bin (d := (eT eI) t171) (ef_slice (d := (eT eI) (cutN some167 none (some t168.1))) (ef_var (i := 15) (d := (eT eI) some167) rfl) eo_n (eo_s (ef_var (i := 14) (d := eI t168.1) rfl)) cut_t) (ef_slice (d := (eT eI) (cutN some167 (some (t168.1 + 1)) none)) (ef_var (i := 15) (d := (eT eI) some167) rfl) (eo_s (ef_bin (d := eI (t168.1 + 1)) (ef_var (i := 14) (d := eI t168.1) rfl) (ef_const (d := eI 1)) trivial rfl)) eo_n cut_t) trivial (cat_t kt171)) trivial Le.refl)) (fun _ s h => (ef_fin h (fun (z172 : (List Int)) => (eT eI) z172) (fun (z172 : (List Int)) => [.sh (scrD ns), .own none (List.map eI t169.2), .sh ((eP2 (eT eI) eI) t1.1), .sh ((eT eI) t1.1.1), .sh (eI t1.1.2), .sh (eI many2), .lst (List.map eA q23.2), .own none (List.map eI l82), .now, .sh (eI x131), .sh ((eT eI) t83), .sh ((eL (eT eI)) l119), .now, .sh ((eP2 eI (eT eI)) t127), .sh (eI t168.1), .sh ((eT eI) some167), .now, .now, .now]) (ef_var (i := 15) (d := (eT eI) some167) rfl) trivial Le.refl)))) (bindE h fun t174 kt174 h => (ws_seq (P1 := [.sh (scrD ns), .own none (List.map eI t169.2), .sh ((eP2 (eT eI) eI) t1.1), .sh ((eT eI) t1.1.1), .sh (eI t1.1.2), .sh (eI many2), .lst (List.map eA q23.2), .own none (List.map eI l82), .now, .sh (eI x131), .sh ((eT eI) t83), .sh ((eL (eT eI)) l119), .now, .sh ((eP2 eI (eT eI)) t127), .sh (eI t168.1), .sh ((eT eI) q173), .sh (eB t174), .now, .now]) (nx_set (d := eB t174) (ef_call (sim__law_is_rota kt174) (ea_cons (k := .s) (ef_var (i := 2) (d := (eP2 (eT eI) eI) t1.1) rfl) (ea_cons (k := .s) (ef_var (i := 15) (d := (eT eI) q173) rfl) ea_nil trivial) trivial))) (bindE h fun t175 kt175 h => bindE h fun t176 kt176 h => (ws_ifs (eb_or (eb_not (eb_truth (ef_call (ret_alk alike_f kt176) (ea_cons (k := .s) (ef_call (sim_is_rota kt175) (ea_cons (k := .s) (ef_var (i := 2) (d := (eP2 (eT eI) eI) t1.1) rfl) (ea_cons (k := .s) (ef_var (i := 15) (d := (eT eI) q173) rfl) ea_nil trivial) trivial)) (ea_cons (k := .s) (ef_var (i := 16) (d := eB t174) rfl) ea_nil trivial) trivial)) rfl)) (fun _ => (eb_and (eb_truth (ef_var (i := 16) (d := eB t174) rfl) rfl) (fun _ => (eb_bool (ef_bin (d := eB (decide ((q173.length : Int) < (t83.length : Int)))) (ef_bf (d := eI (q173.length : Int)) len_t (ea_cons (k := .s) (ef_var (i := 15) (d := (eT eI) q173) rfl) ea_nil trivial)) (ef_bf (d := eI (t83.length : Int)) len_t (ea_cons (k := .s) (ef_var (i := 10) (d := (eT eI) t83) rfl) ea_nil trivial)) trivial rfl)))))) (fun hb => have h := if_t h hb; ws_rtS (ws_flr (J := (J_law_4 ns t1 many2 q23 l82 t83 l119 t127)) h (fun (r : Bool) => eB r) (fun _ => NoM) (fun r h => ws_retM h (fun (r : Bool) => eB r) (fun _ => NoM) (ef_const (d := eB false)) (fun _ _ => trivial)))) (fun hb => have h := if_f h hb; ws_skip (bindE h fun r177 kr177 h => bindE h fun t182 kt182 h => (ws_seq (P1 := [.sh (scrD ns), .own none (List.map eI t182.2), .sh ((eP2 (eT eI) eI) t1.1), .sh ((eT eI) t1.1.1), .sh (eI t1.1.2), .sh (eI many2), .lst (List.map eA q23.2), .own none (List.map eI l82), .now, .sh (eI x131), .sh ((eT eI) t83), .sh ((eL (eT eI)) l119), .sh ((eT eI) t182.1), .sh ((eP2 eI (eT eI)) t127), .sh (eI t168.1), .sh ((eT eI) q173), .sh (eB t174), .now, .now]) (nx_set (d := (eT eI) t182.1) (ef_bf (d := eT eI t182.1) rfl (ea_cons (k := .f) (Ef.weak (Ef.app Q_law_8_app (ef_cmpS (P1 := [.sh (scrD ns), .own none (List.map eI t169.2), .sh ((eP2 (eT eI) eI) t1.1), .sh ((eT eI) t1.1.1), .sh (eI t1.1.2), .sh (eI many2), .lst (List.map eA q23.2), .own none (List.map eI l82), .now, .sh (eI x131), .sh ((eT eI) t83), .sh ((eL (eT eI)) l119), .now, .sh ((eP2 eI (eT eI)) t127), .sh (eI t168.1), .sh ((eT eI) q173), .sh (eB t174), .now, .now]) (ex := eI) (eb := eI) (fun (s179 : (List Int)) => [.sh (scrD ns), .own none (List.map eI s179), .sh ((eP2 (eT eI) eI) t1.1), .sh ((eT eI) t1.1.1), .sh (eI t1.1.2), .sh (eI many2), .lst (List.map eA q23.2), .own none (List.map eI l82), .any, .sh (eI x131), .sh ((eT eI) t83), .sh ((eL (eT eI)) l119), .now, .sh ((eP2 eI (eT eI)) t127), .sh (eI t168.1), .sh ((eT eI) q173), .sh (eB t174), .now, .now]) kt182 (it_rng1 kr177 (ea_cons (k := .s) (ef_var (i := 5) (d := eI many2) rfl) ea_nil trivial)) (leC wk (leC wk (leC wk (leC wk (leC wk (leC wk (leC wk (leC wk (leC wk_any (leC wk (leC wk (leC wk (leC wk (leC wk (leC wk (leC wk (leC wk (leC wk (leC wk leN))))))))))))))))))) rfl (fun s179 x178 p h => ⟨_, tg_slot, bindE h fun t181 kt181 h => (LbS_if (S := fun (s179 : (List Int)) => [.sh (scrD ns), .own none (List.map eI s179), .sh ((eP2 (eT eI) eI) t1.1), .sh ((eT eI) t1.1.1), .sh (eI t1.1.2), .sh (eI many2), .lst (List.map eA q23.2), .own none (List.map eI l82), .any, .sh (eI x131), .sh ((eT eI) t83), .sh ((eL (eT eI)) l119), .now, .sh ((eP2 eI (eT eI)) t127), .sh (eI t168.1), .sh ((eT eI) q173), .sh (eB t174), .now, .now]) (eb_bool (ef_bin (d := eB (decide (t181.1 = 0))) (ef_callL (j := 1) (es := List.map eI s179) (sim__law_take kt181) rfl (ea_cons (k := .s) (ef_const (d := eI 3)) ea_nil trivial) rfl) (ef_const (d := eI 0)) trivial (eq_g (e := eI) (Eqo.n okI)))) (fun hb => have h := if_t h hb; ⟨_, _, (someE h).symm, .s, _, (ef_var (i := 8) (d := eI x178) rfl), rfl, (leC wk (leC wk (leC wk (leC wk (leC wk (leC wk (leC wk (leC wk (leC wk_any (leC wk (leC wk (leC wk (leC wk (leC wk (leC wk (leC wk (leC wk (leC wk (leC wk leN)))))))))))))))))))⟩) (fun hb => ⟨_, (someE (if_f h hb)).symm, (leC wk (leC wk (leC wk (leC wk (leC wk (leC wk (leC wk (leC wk (leC wk_any (leC wk (leC wk (leC wk (leC wk (leC wk (leC wk (leC wk (leC wk (leC wk (leC wk leN)))))))))))))))))))⟩))⟩))) trivial (leR rfl)) ea_nil trivial))) (bindE h fun t183 kt183 h => bindE h fun t184 kt184 h => (ws_if (eb_not (eb_truth (ef_call (ret_alk alike_f kt184) (ea_cons (k := .s) (ef_call (sim_are_apart kt183) (ea_cons (k := .s) (ef_var (i := 2) (d := (eP2 (eT eI) eI) t1.1) rfl) (ea_cons (k := .s) (ef_var (i := 12) (d := (eT eI) t182.1) rfl) ea_nil trivial) trivial)) (ea_cons (k := .s) (ef_bin (d := eB (memB t182.1 l119)) (ef_var (i := 12) (d := (eT eI) t182.1) rfl) (ef_var (i := 11) (d := (eL (eT eI)) l119) rfl) trivial (in_l (e := (eT eI)) (Eqo.n (okT okI)))) ea_nil trivial) trivial)) rfl)) (fun hb => have h := if_t h hb; ws_flr (J := (J_law_4 ns t1 many2 q23 l82 t83 l119 t127)) h (fun (r : Bool) => eB r) (fun _ => NoM) (fun r h => ws_retM h (fun (r : Bool) => eB r) (fun _ => NoM) (ef_const (d := eB false)) (fun _ _ => trivial))) (fun hb => have h := if_f h hb; nx_end (P1 := [.sh (scrD ns), .own none (List.map eI t182.2), .sh ((eP2 (eT eI) eI) t1.1), .sh ((eT eI) t1.1.1), .sh (eI t1.1.2), .sh (eI many2), .lst (List.map eA q23.2), .own none (List.map eI l82), .now, .sh (eI x131), .sh ((eT eI) t83), .sh ((eL (eT eI)) l119), .sh ((eT eI) t182.1), .sh ((eP2 eI (eT eI)) t127), .sh (eI t168.1), .sh ((eT eI) q173), .sh (eB t174), .now, .now]) nx_skip (fq_nx (J := (J_law_4 ns t1 many2 q23 l82 t83 l119 t127)) h (leC wk (leC wk (leC wk (leC wk (leC wk (leC wk (leC wk (leC wk (leC wk (leC wk_now (leC wk (leC wk (leC wk_now (leC wk (leC wk_now (leC wk_now (leC wk_now (leC wk (leC wk leN))))))))))))))))))))))))))))))))))))⟩
noncomputable def n_law (ms : List Int) : Option Bool :=
  (n__law_night ms).bind fun t1 => letO (t1.1.1.length : Int) fun many2 => (repT [0] 13).bind fun t3 => (mapN (fun (x4 : PyData) => (t1.1.1, x4)) [(eI 0), (eI 7), (eN ()), (eB true)]).bind fun t6 => (catN ([(eN ()), ((eL eA) [((eT eI) t1.1.1), (eI t1.1.2)]), ((eP1 (eT eI)) t1.1.1), ((eP3 (eT eI) eI eI) (t1.1.1, t1.1.2, 0)), ((eP2 (eT eI) eI) ([], t1.1.2)), ((eP2 (eT eI) eI) (t3, t1.1.2)), ((eP2 (eL eI) eI) (t1.1.1, t1.1.2)), (eS (⟨"night", by decide +kernel⟩ : SS)), (eI 0)]) (t6.map fun z => ((eP2 (eT eI) eA) z))).bind fun t7 => (cmpO (fun (x8 : PyData) => (catN ((cutN t1.1.1 (some 1) none).map fun z => (eI z)) [x8]).bind fun t10 => some (some (t10, t1.1.2))) [(eI (-1)), (eI 6), (eN ()), (eB true)]).bind fun t11 => (catN t7 (t11.map fun z => ((eP2 (eT eA) eI) z))).bind fun t12 => (n_is_night t1.1).bind fun t13 => (if (!decide (t13 = true)) = true then some (true, t12) else (repT [5] 12).bind fun t14 => (n_is_night (t14, 6)).bind fun t15 => (if (!decide (t15 = true)) = true then some (true, t12) else (cmpO (fun (x16 : PyData) => (n_is_night_2 x16).bind fun t18 => if (!decide (t18 = false)) = true then some (some x16) else some none) t12).bind fun t19 => (eqA ((eL eA) t19) ((eL eI) [])).bind fun t20 => some ((!t20), t12)).bind fun q21 => some (q21.1, q21.2)).bind fun q23 => if q23.1 = true then some false else (rng 0 many2).bind fun r25 => (forN (n_law_2 t1) [] r25).bind fun l82 => (n_fewest_shifts t1.1).bind fun t83 => (alk ((eT eI) t83) ((eT eI) l82)).bind fun t84 => (if (!t84) = true then some true else (n__law_is_rota t1.1 t83).bind fun t85 => (if (!t85) = true then some true else (n_is_rota t1.1 t83).bind fun t86 => some (!decide (t86 = true))).bind fun q87 => some q87).bind fun q89 => if q89 = true then some false else letO ([[]]) fun rows91 => (rng 0 many2).bind fun r92 => (forN (n_law_3 t1) rows91 r92).bind fun l119 => (cmpO (fun (x120 : (List Int)) => (cmpO (fun (x122 : Int) => (atI t1.1.1 x122).bind fun t124 => some (some t124)) x120).bind fun t125 => some (some ((0 - (t125.sum)), x120))) l119).bind fun t126 => (minN (ltP ltI (ltL ltI)) t126).bind fun t127 => (n_hours_apart t1.1).bind fun t128 => (alk ((eT eI) t128) ((eT eI) t127.2)).bind fun t129 => if ((!t129) || (!decide ((t83.length : Int) = (0 - t127.1)))) = true then some false else (rng 0 5).bind fun r130 => (forR (n_law_4 t1 many2 t83 l119) t1.2 r130).bind fun l185 => rsO l185 (fun v => some v) (fun (s186 : (List Int)) => (cmpO (fun (x187 : (Option Int)) => (catN ((cutN t83 none (some (-1))).map fun z => (some z)) [x187]).bind fun t189 => some (some t189)) [(some many2), (some (-1)), none]).bind fun t190 => (catN [(eN ()), ((eL eI) t83), ((eP1 eI) many2), ((eP1 eI) (-1)), ((eP1 eN) ()), (eS (⟨"rota", by decide +kernel⟩ : SS)), (eI 0)] (t190.map fun z => ((eT (eO eI)) z))).bind fun t191 => (catN t83 [0]).bind fun t192 => (if (!decide (t83 = [])) = true then (atI t83 (-1)).bind fun t193 => some (decide (0 < t193)) else some false).bind fun q194 => (repN [t192] (if q194 = true then 1 else 0 : Int)).bind fun t196 => (catN t191 (t196.map fun z => ((eT eI) z))).bind fun t197 => (cmpO (fun (x198 : PyData) => (n_is_rota_2 t1.1 x198).bind fun t200 => if (!decide (t200 = false)) = true then some (some x198) else some none) t197).bind fun t201 => (eqA ((eL eA) t201) ((eL eI) [])).bind fun t202 => if (!t202) = true then some false else (repN [((many2 - 1), 0)] (if (decide (1 < many2)) = true then 1 else 0 : Int)).bind fun t203 => (catN [(eN ()), ((eL eI) t127.2), ((eP1 eI) many2), ((eP1 eI) (-1)), ((eP1 eN) ()), ((eP2 eI eI) (0, 0)), ((eP1 eB) true), (eS (⟨"hours", by decide +kernel⟩ : SS)), (eI 0)] (t203.map fun z => ((eP2 eI eI) z))).bind fun t204 => (cmpO (fun (x205 : PyData) => (n_are_apart_2 t1.1 x205).bind fun t207 => if (!decide (t207 = false)) = true then some (some x205) else some none) t204).bind fun t208 => (eqA ((eL eA) t208) ((eL eI) [])).bind fun t209 => some t209)
theorem sim_law {ns ms : List Int} (hd : f__law_draws [scrD ns] = .ok (.fr (iL ms))) {r : Bool} (h : n_law ms = some r) : Ret f_law [scrD ns] .s (eB r) := by
  rw [f_law_eq]
  refine ret_run (show Ws [.sh (scrD ns), .now, .now, .now, .now, .now, .now, .now, .now, .now, .now, .now, .now, .now, .now, .now, .now, .now, .now] B_law (RQ .s (eB r) NoM) from ?_)
  exact ws_seq (P1 := [.sh (scrD ns), .own none (List.map eI ms), .now, .now, .now, .now, .now, .now, .now, .now, .now, .now, .now, .now, .now, .now, .now, .now, .now]) (Ws.app S_law_1_app (nx_setF (ds := List.map eI ms) (ef_call (d := eL eI ms) ⟨_, hd, _, rfl, rfl⟩ (ea_cons (k := .s) (ef_var (i := 0) (d := scrD ns) rfl) ea_nil trivial)))) (bindE h fun t1 kt1 h => (ws_seq (P1 := [.sh (scrD ns), .own none (List.map eI t1.2), .sh ((eP2 (eT eI) eI) t1.1), .now, .now, .now, .now, .now, .now, .now, .now, .now, .now, .now, .now, .now, .now, .now, .now]) (Ws.app S_law_2_app (nx_set (d := (eP2 (eT eI) eI) t1.1) (ef_callL (j := 1) (es := List.map eI ms) (sim__law_night kt1) rfl ea_nil rfl))) (ws_seq (P1 := [.sh (scrD ns), .own none (List.map eI t1.2), .sh ((eP2 (eT eI) eI) t1.1), .sh ((eT eI) t1.1.1), .sh (eI t1.1.2), .now, .now, .now, .now, .now, .now, .now, .now, .now, .now, .now, .now, .now, .now]) (Ws.app S_law_3_app (nx_setT (d := (eP2 (eT eI) eI) t1.1) (ef_var (i := 2) (d := (eP2 (eT eI) eI) t1.1) rfl) (tg_tup (tgs_cons tg_slot (tgs_cons tg_slot tgs_nil))))) (letE h fun many2 kmany2 h => (ws_seq (P1 := [.sh (scrD ns), .own none (List.map eI t1.2), .sh ((eP2 (eT eI) eI) t1.1), .sh ((eT eI) t1.1.1), .sh (eI t1.1.2), .sh (eI many2), .now, .now, .now, .now, .now, .now, .now, .now, .now, .now, .now, .now, .now]) (Ws.app S_law_4_app (nx_set (d := eI many2) (Ef.cast ((ef_bf (d := eI (t1.1.1.length : Int)) len_t (ea_cons (k := .s) (ef_var (i := 3) (d := (eT eI) t1.1.1) rfl) ea_nil trivial))) (congrArg eI kmany2.symm)))) (bindE h fun t3 kt3 h => bindE h fun t6 kt6 h => bindE h fun t7 kt7 h => (ws_seq (P1 := [.sh (scrD ns), .own none (List.map eI t1.2), .sh ((eP2 (eT eI) eI) t1.1), .sh ((eT eI) t1.1.1), .sh (eI t1.1.2), .sh (eI many2), .own none (List.map eA t7), .now, .now, .now, .now, .now, .now, .now, .now, .now, .now, .now, .now]) (Ws.app S_law_5_app (nx_setF (ds := List.map eA t7) (ef_binL (ds := List.map eA t7) (Ef.cast (d1 := eL eA [(eN ()), ((eL eA) [((eT eI) t1.1.1), (eI t1.1.2)]), ((eP1 (eT eI)) t1.1.1), ((eP3 (eT eI) eI eI) (t1.1.1, t1.1.2, 0)), ((eP2 (eT eI) eI) ([], t1.1.2)), ((eP2 (eT eI) eI) (t3, t1.1.2)), ((eP2 (eL eI) eI) (t1.1.1, t1.1.2)), (eS (⟨"night", by decide +kernel⟩ : SS)), (eI 0)]) (ef_disp (ea_cons (k := .s) (ef_const (d := eN ())) (ea_cons (k := .f) (ef_bfL (es := List.map eA [((eT eI) t1.1.1), (eI t1.1.2)]) rfl (ea_cons (k := .s) (ef_var (i := 2) (d := (eP2 (eT eI) eI) t1.1) rfl) ea_nil trivial)) (ea_cons (k := .s) (ef_tup (ea_cons (k := .s) (ef_var (i := 3) (d := (eT eI) t1.1.1) rfl) ea_nil trivial) sz1) (ea_cons (k := .s) (ef_bin (ef_var (i := 2) (d := (eP2 (eT eI) eI) t1.1) rfl) (ef_tup (ea_cons (k := .s) (ef_const (d := eI 0)) ea_nil trivial) sz1) trivial (cat_p sz3)) (ea_cons (k := .s) (ef_tup (ea_cons (k := .s) (ef_tup ea_nil sz0) (ea_cons (k := .s) (ef_var (i := 4) (d := eI t1.1.2) rfl) ea_nil trivial) trivial) sz2) (ea_cons (k := .s) (ef_tup (ea_cons (k := .s) (ef_bin (d := (eT eI) t3) (Ef.cast (d1 := (eT eI) [0]) ((ef_tup (ea_cons (k := .s) (ef_const (d := eI 0)) ea_nil trivial) sz1)) rfl) (ef_const (d := eI 13)) trivial (rep_t kt3)) (ea_cons (k := .s) (ef_var (i := 4) (d := eI t1.1.2) rfl) ea_nil trivial) trivial) sz2) (ea_cons (k := .s) (ef_tup (ea_cons (k := .f) (ef_bfL (es := List.map eI t1.1.1) rfl (ea_cons (k := .s) (ef_var (i := 3) (d := (eT eI) t1.1.1) rfl) ea_nil trivial)) (ea_cons (k := .s) (ef_var (i := 4) (d := eI t1.1.2) rfl) ea_nil trivial) trivial) sz2) (ea_cons (k := .s) (ef_const (d := eS (⟨"night", by decide +kernel⟩ : SS))) (ea_cons (k := .s) (ef_const (d := eI 0)) ea_nil trivial) trivial) trivial) trivial) trivial) trivial) trivial) trivial) trivial) sz9) rfl) (Ef.cast (d1 := (eL eA) (t6.map fun z => ((eP2 (eT eI) eA) z))) ((Ef.app Q_law_1_app (ef_map (P1 := [.sh (scrD ns), .own none (List.map eI t1.2), .sh ((eP2 (eT eI) eI) t1.1), .sh ((eT eI) t1.1.1), .sh (eI t1.1.2), .sh (eI many2), .now, .now, .now, .now, .now, .now, .now, .now, .now, .now, .now, .now, .now]) (ex := eA) (eb := (eP2 (eT eI) eA)) [.sh (scrD ns), .own none (List.map eI t1.2), .sh ((eP2 (eT eI) eI) t1.1), .sh ((eT eI) t1.1.1), .sh (eI t1.1.2), .sh (eI many2), .now, .now, .now, .now, .now, .now, .now, .now, .now, .now, .now, .any, .now] kt6 (it_seq (ds := List.map eA [(eI 0), (eI 7), (eN ()), (eB true)]) (Ef.cast (d1 := eL eA [(eI 0), (eI 7), (eN ()), (eB true)]) (ef_disp (ea_cons (k := .s) (ef_const (d := eI 0)) (ea_cons (k := .s) (ef_const (d := eI 7)) (ea_cons (k := .s) (ef_const (d := eN ())) (ea_cons (k := .s) (ef_const (d := eB true)) ea_nil trivial) trivial) trivial) trivial) sz4) rfl) rfl) (leC wk (leC wk (leC wk (leC wk (leC wk (leC wk (leC wk (leC wk (leC wk (leC wk (leC wk (leC wk (leC wk (leC wk (leC wk (leC wk (leC wk (leC wk_any (leC wk leN))))))))))))))))))) rfl rfl (fun x4 => ⟨_, tg_slot, .s, _, (ef_tup (ea_cons (k := .s) (ef_var (i := 3) (d := (eT eI) t1.1.1) rfl) (ea_cons (k := .s) (ef_var (i := 17) (d := eA x4) rfl) ea_nil trivial) trivial) sz2), rfl, (leC wk (leC wk (leC wk (leC wk (leC wk (leC wk (leC wk (leC wk (leC wk (leC wk (leC wk (leC wk (leC wk (leC wk (leC wk (leC wk (leC wk (leC wk_any (leC wk leN)))))))))))))))))))⟩)))) ((fun z => cast_l (e := (eP2 (eT eI) eA)) (f := eA) (g := fun z => ((eP2 (eT eI) eA) z)) (fun _ => rfl) z) t6)) trivial (cat_l kt7)))) (bindE h fun t11 kt11 h => bindE h fun t12 kt12 h => (ws_seq (P1 := [.sh (scrD ns), .own none (List.map eI t1.2), .sh ((eP2 (eT eI) eI) t1.1), .sh ((eT eI) t1.1.1), .sh (eI t1.1.2), .sh (eI many2), .own none (List.map eA t12), .now, .now, .now, .now, .now, .now, .now, .now, .now, .now, .now, .now]) (Ws.app S_law_6_app (nx_setF (ds := List.map eA t12) (ef_binL (ds := List.map eA t12) (ef_own (i := 6) (ds := List.map eA t7) rfl) (Ef.cast (d1 := (eL eA) (t11.map fun z => ((eP2 (eT eA) eI) z))) ((Ef.app Q_law_2_app (ef_cmpO (P1 := [.sh (scrD ns), .own none (List.map eI t1.2), .sh ((eP2 (eT eI) eI) t1.1), .sh ((eT eI) t1.1.1), .sh (eI t1.1.2), .sh (eI many2), .own none (List.map eA t7), .now, .now, .now, .now, .now, .now, .now, .now, .now, .now, .now, .now]) (ex := eA) (eb := (eP2 (eT eA) eI)) [.sh (scrD ns), .own none (List.map eI t1.2), .sh ((eP2 (eT eI) eI) t1.1), .sh ((eT eI) t1.1.1), .sh (eI t1.1.2), .sh (eI many2), .own none (List.map eA t7), .now, .now, .now, .now, .now, .now, .now, .now, .now, .now, .any, .now] kt11 (it_seq (ds := List.map eA [(eI (-1)), (eI 6), (eN ()), (eB true)]) (Ef.cast (d1 := eL eA [(eI (-1)), (eI 6), (eN ()), (eB true)]) (ef_disp (ea_cons (k := .s) (ef_un (d := eI (-1)) (ef_const (d := eI 1)) rfl) (ea_cons (k := .s) (ef_const (d := eI 6)) (ea_cons (k := .s) (ef_const (d := eN ())) (ea_cons (k := .s) (ef_const (d := eB true)) ea_nil trivial) trivial) trivial) trivial) sz4) rfl) rfl) (leC wk (leC wk (leC wk (leC wk (leC wk (leC wk (leC wk (leC wk (leC wk (leC wk (leC wk (leC wk (leC wk (leC wk (leC wk (leC wk (leC wk (leC wk_any (leC wk leN))))))))))))))))))) rfl rfl (fun x8 o h => ⟨_, tg_slot, bindE h fun t10 kt10 h => (Or.inr ⟨_, (someE h).symm, _, eb_yes, .s, _, (ef_tup (ea_cons (k := .s) (ef_bin (d := (eT eA) t10) (Ef.cast (d1 := (eT eA) ((cutN t1.1.1 (some 1) none).map fun z => (eI z))) ((ef_slice (d := (eT eI) (cutN t1.1.1 (some 1) none)) (ef_var (i := 3) (d := (eT eI) t1.1.1) rfl) (eo_s (ef_const (d := eI 1))) eo_n cut_t)) ((fun z => cast_t (e := eI) (f := eA) (g := fun z => (eI z)) (fun _ => rfl) z) (cutN t1.1.1 (some 1) none))) (Ef.cast (d1 := (eT eA) [x8]) ((ef_tup (ea_cons (k := .s) (ef_var (i := 17) (d := eA x8) rfl) ea_nil trivial) sz1)) rfl) trivial (cat_t kt10)) (ea_cons (k := .s) (ef_var (i := 4) (d := eI t1.1.2) rfl) ea_nil trivial) trivial) sz2), rfl, (leC wk (leC wk (leC wk (leC wk (leC wk (leC wk (leC wk (leC wk (leC wk (leC wk (leC wk (leC wk (leC wk (leC wk (leC wk (leC wk (leC wk (leC wk_any (leC wk leN)))))))))))))))))))⟩)⟩)))) ((fun z => cast_l (e := (eP2 (eT eA) eI)) (f := eA) (g := fun z => ((eP2 (eT eA) eI) z)) (fun _ => rfl) z) t11)) (.inl rfl) (cat_l kt12)))) (bindE h fun t13 kt13 h => bindE h fun q23 kq23 h => (ws_sapp S_law_7_app (ws_ifs (eb_orE (P1 := [.sh (scrD ns), .own none (List.map eI t1.2), .sh ((eP2 (eT eI) eI) t1.1), .sh ((eT eI) t1.1.1), .sh (eI t1.1.2), .sh (eI many2), .own none (List.map eA t12), .now, .now, .now, .now, .now, .now, .now, .now, .now, .now, .now, .now]) (fun (z24 : Bool × (List PyData)) => z24.1) (fun (z24 : Bool × (List PyData)) => [.sh (scrD ns), .own none (List.map eI t1.2), .sh ((eP2 (eT eI) eI) t1.1), .sh ((eT eI) t1.1.1), .sh (eI t1.1.2), .sh (eI many2), .lst (List.map eA z24.2), .now, .now, .now, .now, .now, .now, .now, .now, .now, .now, .now, .now]) kq23 (eb_bool (ef_bin (d := eB (!decide (t13 = true))) (ef_call (sim_is_night kt13) (ea_cons (k := .s) (ef_var (i := 2) (d := (eP2 (eT eI) eI) t1.1) rfl) ea_nil trivial)) (ef_const (d := eB true)) trivial rfl)) rfl (leC wk (leC wk (leC wk (leC wk (leC wk (leC wk (leC wk_own (leC wk (leC wk (leC wk (leC wk (leC wk (leC wk (leC wk (leC wk (leC wk (leC wk (leC wk (leC wk leN))))))))))))))))))) (fun _ s h => bindE h fun t14 kt14 h => bindE h fun t15 kt15 h => bindE h fun q21 kq21 h => (eb_fin h (fun (z24 : Bool × (List PyData)) => z24.1) (fun (z24 : Bool × (List PyData)) => [.sh (scrD ns), .own none (List.map eI t1.2), .sh ((eP2 (eT eI) eI) t1.1), .sh ((eT eI) t1.1.1), .sh (eI t1.1.2), .sh (eI many2), .lst (List.map eA z24.2), .now, .now, .now, .now, .now, .now, .now, .now, .now, .now, .now, .now]) (eb_orE (P1 := [.sh (scrD ns), .own none (List.map eI t1.2), .sh ((eP2 (eT eI) eI) t1.1), .sh ((eT eI) t1.1.1), .sh (eI t1.1.2), .sh (eI many2), .own none (List.map eA t12), .now, .now, .now, .now, .now, .now, .now, .now, .now, .now, .now, .now]) (fun (z22 : Bool × (List PyData)) => z22.1) (fun (z22 : Bool × (List PyData)) => [.sh (scrD ns), .own none (List.map eI t1.2), .sh ((eP2 (eT eI) eI) t1.1), .sh ((eT eI) t1.1.1), .sh (eI t1.1.2), .sh (eI many2), .lst (List.map eA z22.2), .now, .now, .now, .now, .now, .now, .now, .now, .now, .now, .now, .now]) kq21 (eb_bool (ef_bin (d := eB (!decide (t15 = true))) (ef_call (sim_is_night kt15) (ea_cons (k := .s) (ef_tup (ea_cons (k := .s) (ef_bin (d := (eT eI) t14) (Ef.cast (d1 := (eT eI) [5]) ((ef_tup (ea_cons (k := .s) (ef_const (d := eI 5)) ea_nil trivial) sz1)) rfl) (ef_const (d := eI 12)) trivial (rep_t kt14)) (ea_cons (k := .s) (ef_const (d := eI 6)) ea_nil trivial) trivial) sz2) ea_nil trivial)) (ef_const (d := eB true)) trivial rfl)) rfl (leC wk (leC wk (leC wk (leC wk (leC wk (leC wk (leC wk_own (leC wk (leC wk (leC wk (leC wk (leC wk (leC wk (leC wk (leC wk (leC wk (leC wk (leC wk (leC wk leN))))))))))))))))))) (fun _ s h => bindE h fun t19 kt19 h => bindE h fun t20 kt20 h => (eb_fin h (fun (z22 : Bool × (List PyData)) => z22.1) (fun (z22 : Bool × (List PyData)) => [.sh (scrD ns), .own none (List.map eI t1.2), .sh ((eP2 (eT eI) eI) t1.1), .sh ((eT eI) t1.1.1), .sh (eI t1.1.2), .sh (eI many2), .lst (List.map eA z22.2), .now, .now, .now, .now, .now, .now, .now, .now, .now, .now, .now, .now]) (eb_bool (ef_bin (d := eB (!t20)) (Ef.cast (d1 := eA ((eL eA) t19)) ((Ef.app Q_law_3_app (ef_cmpO (P1 := [.sh (scrD ns), .own none (List.map eI t1.2), .sh ((eP2 (eT eI) eI) t1.1), .sh ((eT eI) t1.1.1), .sh (eI t1.1.2), .sh (eI many2), .sh ((eL eA) t12), .now, .now, .now, .now, .now, .now, .now, .now, .now, .now, .now, .now]) (ex := eA) (eb := eA) [.sh (scrD ns), .own none (List.map eI t1.2), .sh ((eP2 (eT eI) eI) t1.1), .sh ((eT eI) t1.1.1), .sh (eI t1.1.2), .sh (eI many2), .sh ((eL eA) t12), .now, .now, .now, .now, .now, .now, .now, .now, .now, .now, .now, .any] kt19 (it_seq (ds := List.map eA t12) (ef_own (i := 6) (ds := List.map eA t12) rfl) rfl) (leC wk (leC wk (leC wk (leC wk (leC wk (leC wk (leC wk (leC wk (leC wk (leC wk (leC wk (leC wk (leC wk (leC wk (leC wk (leC wk (leC wk (leC wk (leC wk_any leN))))))))))))))))))) rfl rfl (fun x16 o h => ⟨_, tg_slot, bindE h fun t18 kt18 h => (Lb_if (eb_bool (ef_bin (d := eB (!decide (t18 = false))) (ef_call (sim_is_night_2 kt18) (ea_cons (k := .s) (ef_var (i := 18) (d := eA x16) rfl) ea_nil trivial)) (ef_const (d := eB false)) trivial rfl)) (fun hb => have h := if_t h hb; ⟨_, (someE h).symm, .s, _, (ef_var (i := 18) (d := eA x16) rfl), rfl, (leC wk (leC wk (leC wk (leC wk (leC wk (leC wk (leC wk (leC wk (leC wk (leC wk (leC wk (leC wk (leC wk (leC wk (leC wk (leC wk (leC wk (leC wk (leC wk_any leN)))))))))))))))))))⟩) (fun hb => ⟨(someE (if_f h hb)).symm, (leC wk (leC wk (leC wk (leC wk (leC wk (leC wk (leC wk (leC wk (leC wk (leC wk (leC wk (leC wk (leC wk (leC wk (leC wk (leC wk (leC wk (leC wk (leC wk_any leN)))))))))))))))))))⟩))⟩)))) rfl) (Ef.cast (d1 := eA ((eL eI) [])) ((ef_disp ea_nil sz0)) rfl) trivial (eqA_ne kt20))) (leC wk (leC wk (leC wk (leC wk (leC wk (leC wk (leC wk_sh (leC wk (leC wk (leC wk (leC wk (leC wk (leC wk (leC wk (leC wk (leC wk (leC wk (leC wk (leC wk leN)))))))))))))))))))))) Le.refl))) (fun hb => have h := if_t h hb; ws_rtS (ws_retM h (fun (r : Bool) => eB r) (fun _ => NoM) (ef_const (d := eB false)) (fun _ _ => trivial))) (fun hb => have h := if_f h hb; ws_skip (ws_seq (P1 := [.sh (scrD ns), .own none (List.map eI t1.2), .sh ((eP2 (eT eI) eI) t1.1), .sh ((eT eI) t1.1.1), .sh (eI t1.1.2), .sh (eI many2), .lst (List.map eA q23.2), .own none (List.map eI []), .now, .now, .now, .now, .now, .now, .now, .now, .now, .now, .now]) (Ws.app S_law_8_app (nx_setF (ds := List.map eI []) (ef_disp ea_nil sz0))) (bindE h fun r25 kr25 h => bindE h fun l82 kl82 h => (ws_seq (P1 := [.sh (scrD ns), .own none (List.map eI t1.2), .sh ((eP2 (eT eI) eI) t1.1), .sh ((eT eI) t1.1.1), .sh (eI t1.1.2), .sh (eI many2), .lst (List.map eA q23.2), .own none (List.map eI l82), .now, .now, .now, .now, .now, .now, .now, .now, .now, .now, .now]) (Ws.app S_law_9_app (nx_for (P1 := [.sh (scrD ns), .own none (List.map eI t1.2), .sh ((eP2 (eT eI) eI) t1.1), .sh ((eT eI) t1.1.1), .sh (eI t1.1.2), .sh (eI many2), .lst (List.map eA q23.2), .own none (List.map eI []), .now, .now, .now, .now, .now, .now, .now, .now, .now, .now, .now]) (ex := eI) (J_law_2 ns t1 many2 q23) kl82 (it_rng1 kr25 (ea_cons (k := .s) (ef_var (i := 5) (d := eI many2) rfl) ea_nil trivial)) Le.refl (fun _ _ _ h => sim_law_2 h))) (bindE h fun t83 kt83 h => (ws_seq (P1 := [.sh (scrD ns), .own none (List.map eI t1.2), .sh ((eP2 (eT eI) eI) t1.1), .sh ((eT eI) t1.1.1), .sh (eI t1.1.2), .sh (eI many2), .lst (List.map eA q23.2), .own none (List.map eI l82), .now, .now, .sh ((eT eI) t83), .now, .now, .now, .now, .now, .now, .now, .now]) (Ws.app S_law_10_app (nx_set (d := (eT eI) t83) (ef_call (sim_fewest_shifts kt83) (ea_cons (k := .s) (ef_var (i := 2) (d := (eP2 (eT eI) eI) t1.1) rfl) ea_nil trivial)))) (bindE h fun t84 kt84 h => bindE h fun q89 kq89 h => (ws_sapp S_law_11_app (ws_ifs (eb_orE (P1 := [.sh (scrD ns), .own none (List.map eI t1.2), .sh ((eP2 (eT eI) eI) t1.1), .sh ((eT eI) t1.1.1), .sh (eI t1.1.2), .sh (eI many2), .lst (List.map eA q23.2), .own none (List.map eI l82), .now, .now, .sh ((eT eI) t83), .now, .now, .now, .now, .now, .now, .now, .now]) (fun (z90 : Bool) => z90) (fun (z90 : Bool) => [.sh (scrD ns), .own none (List.map eI t1.2), .sh ((eP2 (eT eI) eI) t1.1), .sh ((eT eI) t1.1.1), .sh (eI t1.1.2), .sh (eI many2), .lst (List.map eA q23.2), .own none (List.map eI l82), .now, .now, .sh ((eT eI) t83), .now, .now, .now, .now, .now, .now, .now, .now]) kq89 (eb_not (eb_truth (ef_call (ret_alk alike_f kt84) (ea_cons (k := .s) (ef_var (i := 10) (d := (eT eI) t83) rfl) (ea_cons (k := .s) (ef_bf (d := eT eI l82) rfl (ea_cons (k := .v 7) (ef_own (i := 7) (ds := List.map eI l82) rfl) ea_nil (.inl rfl))) ea_nil trivial) trivial)) rfl)) rfl Le.refl (fun _ s h => bindE h fun t85 kt85 h => bindE h fun q87 kq87 h => (eb_fin h (fun (z90 : Bool) => z90) (fun (z90 : Bool) => [.sh (scrD ns), .own none (List.map eI t1.2), .sh ((eP2 (eT eI) eI) t1.1), .sh ((eT eI) t1.1.1), .sh (eI t1.1.2), .sh (eI many2), .lst (List.map eA q23.2), .own none (List.map eI l82), .now, .now, .sh ((eT eI) t83), .now, .now, .now, .now, .now, .now, .now, .now]) (eb_orE (P1 := [.sh (scrD ns), .own none (List.map eI t1.2), .sh ((eP2 (eT eI) eI) t1.1), .sh ((eT eI) t1.1.1), .sh (eI t1.1.2), .sh (eI many2), .lst (List.map eA q23.2), .own none (List.map eI l82), .now, .now, .sh ((eT eI) t83), .now, .now, .now, .now, .now, .now, .now, .now]) (fun (z88 : Bool) => z88) (fun (z88 : Bool) => [.sh (scrD ns), .own none (List.map eI t1.2), .sh ((eP2 (eT eI) eI) t1.1), .sh ((eT eI) t1.1.1), .sh (eI t1.1.2), .sh (eI many2), .lst (List.map eA q23.2), .own none (List.map eI l82), .now, .now, .sh ((eT eI) t83), .now, .now, .now, .now, .now, .now, .now, .now]) kq87 (eb_not (eb_truth (ef_call (sim__law_is_rota kt85) (ea_cons (k := .s) (ef_var (i := 2) (d := (eP2 (eT eI) eI) t1.1) rfl) (ea_cons (k := .s) (ef_var (i := 10) (d := (eT eI) t83) rfl) ea_nil trivial) trivial)) rfl)) rfl Le.refl (fun _ s h => bindE h fun t86 kt86 h => (eb_fin h (fun (z88 : Bool) => z88) (fun (z88 : Bool) => [.sh (scrD ns), .own none (List.map eI t1.2), .sh ((eP2 (eT eI) eI) t1.1), .sh ((eT eI) t1.1.1), .sh (eI t1.1.2), .sh (eI many2), .lst (List.map eA q23.2), .own none (List.map eI l82), .now, .now, .sh ((eT eI) t83), .now, .now, .now, .now, .now, .now, .now, .now]) (eb_bool (ef_bin (d := eB (!decide (t86 = true))) (ef_call (sim_is_rota kt86) (ea_cons (k := .s) (ef_var (i := 2) (d := (eP2 (eT eI) eI) t1.1) rfl) (ea_cons (k := .s) (ef_var (i := 10) (d := (eT eI) t83) rfl) ea_nil trivial) trivial)) (ef_const (d := eB true)) trivial rfl)) Le.refl))) Le.refl))) (fun hb => have h := if_t h hb; ws_rtS (ws_retM h (fun (r : Bool) => eB r) (fun _ => NoM) (ef_const (d := eB false)) (fun _ _ => trivial))) (fun hb => have h := if_f h hb; ws_skip (letE h fun rows91 krows91 h => (ws_seq (P1 := [.sh (scrD ns), .own none (List.map eI t1.2), .sh ((eP2 (eT eI) eI) t1.1), .sh ((eT eI) t1.1.1), .sh (eI t1.1.2), .sh (eI many2), .lst (List.map eA q23.2), .own none (List.map eI l82), .now, .now, .sh ((eT eI) t83), .own none (List.map (eT eI) rows91), .now, .now, .now, .now, .now, .now, .now]) (Ws.app S_law_12_app (nx_setF (ds := List.map (eT eI) rows91) (Ef.cast ((Ef.cast (d1 := eL (eT eI) [[]]) (ef_disp (ea_cons (k := .s) (ef_tup ea_nil sz0) ea_nil trivial) sz1) rfl)) (congrArg (eL (eT eI)) krows91.symm)))) (bindE h fun r92 kr92 h => bindE h fun l119 kl119 h => (ws_seq (P1 := [.sh (scrD ns), .own none (List.map eI t1.2), .sh ((eP2 (eT eI) eI) t1.1), .sh ((eT eI) t1.1.1), .sh (eI t1.1.2), .sh (eI many2), .lst (List.map eA q23.2), .own none (List.map eI l82), .now, .now, .sh ((eT eI) t83), .own none (List.map (eT eI) l119), .now, .now, .now, .now, .now, .now, .now]) (Ws.app S_law_13_app (nx_for (P1 := [.sh (scrD ns), .own none (List.map eI t1.2), .sh ((eP2 (eT eI) eI) t1.1), .sh ((eT eI) t1.1.1), .sh (eI t1.1.2), .sh (eI many2), .lst (List.map eA q23.2), .own none (List.map eI l82), .now, .now, .sh ((eT eI) t83), .own none (List.map (eT eI) rows91), .now, .now, .now, .now, .now, .now, .now]) (ex := eI) (J_law_3 ns t1 many2 q23 l82 t83) kl119 (it_rng1 kr92 (ea_cons (k := .s) (ef_var (i := 5) (d := eI many2) rfl) ea_nil trivial)) Le.refl (fun _ _ _ h => sim_law_3 h))) (bindE h fun t126 kt126 h => bindE h fun t127 kt127 h => (ws_seq (P1 := [.sh (scrD ns), .own none (List.map eI t1.2), .sh ((eP2 (eT eI) eI) t1.1), .sh ((eT eI) t1.1.1), .sh (eI t1.1.2), .sh (eI many2), .lst (List.map eA q23.2), .own none (List.map eI l82), .now, .now, .sh ((eT eI) t83), .sh ((eL (eT eI)) l119), .now, .sh ((eP2 eI (eT eI)) t127), .now, .now, .now, .now, .now]) (Ws.app S_law_14_app (nx_set (d := (eP2 eI (eT eI)) t127) (ef_bf (d := (eP2 eI (eT eI)) t127) (min_l (ltoP2 ltoI (Eqo.n okI) (ltoT ltoI (Eqo.n okI)) (Eqo.n (okT okI))) (Eqo.n (okP2 okI (okT okI))) kt127) (ea_cons (k := .f) (Ef.app Q_law_6_app (ef_cmpO (P1 := [.sh (scrD ns), .own none (List.map eI t1.2), .sh ((eP2 (eT eI) eI) t1.1), .sh ((eT eI) t1.1.1), .sh (eI t1.1.2), .sh (eI many2), .lst (List.map eA q23.2), .own none (List.map eI l82), .now, .now, .sh ((eT eI) t83), .sh ((eL (eT eI)) l119), .now, .now, .now, .now, .now, .now, .now]) (ex := (eT eI)) (eb := (eP2 eI (eT eI))) [.sh (scrD ns), .own none (List.map eI t1.2), .sh ((eP2 (eT eI) eI) t1.1), .sh ((eT eI) t1.1.1), .sh (eI t1.1.2), .sh (eI many2), .lst (List.map eA q23.2), .own none (List.map eI l82), .now, .now, .sh ((eT eI) t83), .sh ((eL (eT eI)) l119), .any, .now, .now, .now, .now, .now, .now] kt126 (it_seq (ds := List.map (eT eI) l119) (ef_own (i := 11) (ds := List.map (eT eI) l119) rfl) rfl) (leC wk (leC wk (leC wk (leC wk (leC wk (leC wk (leC wk (leC wk (leC wk (leC wk (leC wk (leC wk (leC wk_any (leC wk (leC wk (leC wk (leC wk (leC wk (leC wk leN))))))))))))))))))) rfl rfl (fun x120 o h => ⟨_, tg_slot, bindE h fun t125 kt125 h => (Or.inr ⟨_, (someE h).symm, _, eb_yes, .s, _, (ef_tup (ea_cons (k := .s) (ef_bin (d := eI (0 - (t125.sum))) (ef_const (d := eI 0)) (ef_bf (d := eI (t125.sum)) sum_l (ea_cons (k := .f) (Ef.app Q_law_5_app (ef_cmpO (P1 := [.sh (scrD ns), .own none (List.map eI t1.2), .sh ((eP2 (eT eI) eI) t1.1), .sh ((eT eI) t1.1.1), .sh (eI t1.1.2), .sh (eI many2), .lst (List.map eA q23.2), .own none (List.map eI l82), .now, .now, .sh ((eT eI) t83), .sh ((eL (eT eI)) l119), .sh ((eT eI) x120), .now, .now, .now, .now, .now, .now]) (ex := eI) (eb := eI) [.sh (scrD ns), .own none (List.map eI t1.2), .sh ((eP2 (eT eI) eI) t1.1), .sh ((eT eI) t1.1.1), .sh (eI t1.1.2), .sh (eI many2), .lst (List.map eA q23.2), .own none (List.map eI l82), .any, .now, .sh ((eT eI) t83), .sh ((eL (eT eI)) l119), .sh ((eT eI) x120), .now, .now, .now, .now, .now, .now] kt125 (it_seq (ds := List.map eI x120) (ef_var (i := 12) (d := (eT eI) x120) rfl) rfl) (leC wk (leC wk (leC wk (leC wk (leC wk (leC wk (leC wk (leC wk (leC wk_any (leC wk (leC wk (leC wk (leC wk (leC wk (leC wk (leC wk (leC wk (leC wk (leC wk leN))))))))))))))))))) rfl rfl (fun x122 o h => ⟨_, tg_slot, bindE h fun t124 kt124 h => (Or.inr ⟨_, (someE h).symm, _, eb_yes, .s, _, (ef_bin (d := eI t124) (ef_var (i := 3) (d := (eT eI) t1.1.1) rfl) (ef_var (i := 8) (d := eI x122) rfl) trivial (at_t kt124)), rfl, (leC wk (leC wk (leC wk (leC wk (leC wk (leC wk (leC wk (leC wk (leC wk_any (leC wk (leC wk (leC wk (leC wk (leC wk (leC wk (leC wk (leC wk (leC wk (leC wk leN)))))))))))))))))))⟩)⟩))) ea_nil trivial)) trivial rfl) (ea_cons (k := .s) (ef_var (i := 12) (d := (eT eI) x120) rfl) ea_nil trivial) trivial) sz2), rfl, (leC wk (leC wk (leC wk (leC wk (leC wk (leC wk (leC wk (leC wk (leC wk (leC wk (leC wk (leC wk (leC wk_any (leC wk (leC wk (leC wk (leC wk (leC wk (leC wk leN)))))))))))))))))))⟩)⟩))) ea_nil trivial)))) (bindE h fun t128 kt128 h => bindE h fun t129 kt129 h => (ws_sapp S_law_15_app (ws_ifs (eb_or (eb_not (eb_truth (ef_call (ret_alk alike_f kt129) (ea_cons (k := .s) (ef_call (sim_hours_apart kt128) (ea_cons (k := .s) (ef_var (i := 2) (d := (eP2 (eT eI) eI) t1.1) rfl) ea_nil trivial)) (ea_cons (k := .s) (ef_bin (d := (eT eI) t127.2) (ef_var (i := 13) (d := (eP2 eI (eT eI)) t127) rfl) (ef_const (d := eI 1)) trivial rfl) ea_nil trivial) trivial)) rfl)) (fun _ => (eb_bool (ef_bin (d := eB (!decide ((t83.length : Int) = (0 - t127.1)))) (ef_bf (d := eI (t83.length : Int)) len_t (ea_cons (k := .s) (ef_var (i := 10) (d := (eT eI) t83) rfl) ea_nil trivial)) (ef_bin (d := eI (0 - t127.1)) (ef_const (d := eI 0)) (ef_bin (d := eI t127.1) (ef_var (i := 13) (d := (eP2 eI (eT eI)) t127) rfl) (ef_const (d := eI 0)) trivial rfl) trivial rfl) trivial (ne_g (e := eI) (Eqo.n okI)))))) (fun hb => have h := if_t h hb; ws_rtS (ws_retM h (fun (r : Bool) => eB r) (fun _ => NoM) (ef_const (d := eB false)) (fun _ _ => trivial))) (fun hb => have h := if_f h hb; ws_skip (bindE h fun r130 kr130 h => bindE h fun l185 kl185 h => (ws_seqE (Ws.app S_law_16_app (ws_forR (P1 := [.sh (scrD ns), .own none (List.map eI t1.2), .sh ((eP2 (eT eI) eI) t1.1), .sh ((eT eI) t1.1.1), .sh (eI t1.1.2), .sh (eI many2), .lst (List.map eA q23.2), .own none (List.map eI l82), .now, .now, .sh ((eT eI) t83), .sh ((eL (eT eI)) l119), .now, .sh ((eP2 eI (eT eI)) t127), .now, .now, .now, .now, .now]) (ex := eI) (J_law_4 ns t1 many2 q23 l82 t83 l119 t127) kl185 (it_rng1 kr130 (ea_cons (k := .s) (ef_const (d := eI 5)) ea_nil trivial)) Le.refl (fun _ _ _ h => sim_law_4 h))) (fun s186 hs => have h := rs_nx h hs; bindE h fun t190 kt190 h => bindE h fun t191 kt191 h => bindE h fun t192 kt192 h => bindE h fun q194 kq194 h => bindE h fun t196 kt196 h => bindE h fun t197 kt197 h => (ws_seq (P1 := [.sh (scrD ns), .own none (List.map eI s186), .sh ((eP2 (eT eI) eI) t1.1), .sh ((eT eI) t1.1.1), .sh (eI t1.1.2), .sh (eI many2), .own none (List.map eA t197), .own none (List.map eI l82), .now, .now, .sh ((eT eI) t83), .sh ((eL (eT eI)) l119), .now, .sh ((eP2 eI (eT eI)) t127), .now, .now, .now, .now, .now]) (Ws.app S_law_17_app (nx_setF (ds := List.map eA t197) (ef_binL (ds := List.map eA t197) (ef_binL (ds := List.map eA t191) (Ef.cast (d1 := eL eA [(eN ()), ((eL eI) t83), ((eP1 eI) many2), ((eP1 eI) (-1)), ((eP1 eN) ()), (eS (⟨"rota", by decide +kernel⟩ : SS)), (eI 0)]) (ef_disp (ea_cons (k := .s) (ef_const (d := eN ())) (ea_cons (k := .f) (ef_bfL (es := List.map eI t83) rfl (ea_cons (k := .s) (ef_var (i := 10) (d := (eT eI) t83) rfl) ea_nil trivial)) (ea_cons (k := .s) (ef_tup (ea_cons (k := .s) (ef_var (i := 5) (d := eI many2) rfl) ea_nil trivial) sz1) (ea_cons (k := .s) (ef_tup (ea_cons (k := .s) (ef_un (d := eI (-1)) (ef_const (d := eI 1)) rfl) ea_nil trivial) sz1) (ea_cons (k := .s) (ef_tup (ea_cons (k := .s) (ef_const (d := eN ())) ea_nil trivial) sz1) (ea_cons (k := .s) (ef_const (d := eS (⟨"rota", by decide +kernel⟩ : SS))) (ea_cons (k := .s) (ef_const (d := eI 0)) ea_nil trivial) trivial) trivial) trivial) trivial) trivial) trivial) sz7) rfl) (Ef.cast (d1 := (eL eA) (t190.map fun z => ((eT (eO eI)) z))) ((Ef.app Q_law_9_app (ef_cmpO (P1 := [.sh (scrD ns), .own none (List.map eI s186), .sh ((eP2 (eT eI) eI) t1.1), .sh ((eT eI) t1.1.1), .sh (eI t1.1.2), .sh (eI many2), .lst (List.map eA q23.2), .own none (List.map eI l82), .now, .now, .sh ((eT eI) t83), .sh ((eL (eT eI)) l119), .now, .sh ((eP2 eI (eT eI)) t127), .now, .now, .now, .now, .now]) (ex := (eO eI)) (eb := (eT (eO eI))) [.sh (scrD ns), .own none (List.map eI s186), .sh ((eP2 (eT eI) eI) t1.1), .sh ((eT eI) t1.1.1), .sh (eI t1.1.2), .sh (eI many2), .lst (List.map eA q23.2), .own none (List.map eI l82), .now, .now, .sh ((eT eI) t83), .sh ((eL (eT eI)) l119), .now, .sh ((eP2 eI (eT eI)) t127), .now, .now, .now, .any, .now] kt190 (it_seq (ds := List.map (eO eI) [(some many2), (some (-1)), none]) (Ef.cast (d1 := eL (eO eI) [(some many2), (some (-1)), none]) (ef_disp (ea_cons (k := .s) (ef_var (i := 5) (d := eI many2) rfl) (ea_cons (k := .s) (ef_un (d := eI (-1)) (ef_const (d := eI 1)) rfl) (ea_cons (k := .s) (ef_const (d := eN ())) ea_nil trivial) trivial) trivial) sz3) rfl) rfl) (leC wk (leC wk (leC wk (leC wk (leC wk (leC wk (leC wk (leC wk (leC wk (leC wk (leC wk (leC wk (leC wk (leC wk (leC wk (leC wk (leC wk (leC wk_any (leC wk leN))))))))))))))))))) rfl rfl (fun x187 o h => ⟨_, tg_slot, bindE h fun t189 kt189 h => (Or.inr ⟨_, (someE h).symm, _, eb_yes, .s, _, (ef_bin (d := (eT (eO eI)) t189) (Ef.cast (d1 := (eT (eO eI)) ((cutN t83 none (some (-1))).map fun z => (some z))) ((ef_slice (d := (eT eI) (cutN t83 none (some (-1)))) (ef_var (i := 10) (d := (eT eI) t83) rfl) eo_n (eo_s (ef_un (d := eI (-1)) (ef_const (d := eI 1)) rfl)) cut_t)) ((fun z => cast_t (e := eI) (f := (eO eI)) (g := fun z => (some z)) (fun _ => rfl) z) (cutN t83 none (some (-1))))) (Ef.cast (d1 := (eT (eO eI)) [x187]) ((ef_tup (ea_cons (k := .s) (ef_var (i := 17) (d := (eO eI) x187) rfl) ea_nil trivial) sz1)) rfl) trivial (cat_t kt189)), rfl, (leC wk (leC wk (leC wk (leC wk (leC wk (leC wk (leC wk (leC wk (leC wk (leC wk (leC wk (leC wk (leC wk (leC wk (leC wk (leC wk (leC wk (leC wk_any (leC wk leN)))))))))))))))))))⟩)⟩)))) ((fun z => cast_l (e := (eT (eO eI))) (f := eA) (g := fun z => ((eT (eO eI)) z)) (fun _ => rfl) z) t190)) trivial (cat_l kt191)) (Ef.cast (d1 := (eL eA) (t196.map fun z => ((eT eI) z))) ((ef_binL (ds := List.map (eT eI) t196) (Ef.cast (d1 := eL (eT eI) [t192]) (ef_disp (ea_cons (k := .s) (ef_bin (d := (eT eI) t192) (ef_var (i := 10) (d := (eT eI) t83) rfl) (Ef.cast (d1 := (eT eI) [0]) ((ef_tup (ea_cons (k := .s) (ef_const (d := eI 0)) ea_nil trivial) sz1)) rfl) trivial (cat_t kt192)) ea_nil trivial) sz1) rfl) (ef_bf (d := eI (if q194 = true then 1 else 0 : Int)) (int_b q194) (ea_cons (k := .s) (ef_ofB ((eb_andE (P1 := [.sh (scrD ns), .own none (List.map eI s186), .sh ((eP2 (eT eI) eI) t1.1), .sh ((eT eI) t1.1.1), .sh (eI t1.1.2), .sh (eI many2), .lst (List.map eA q23.2), .own none (List.map eI l82), .now, .now, .sh ((eT eI) t83), .sh ((eL (eT eI)) l119), .now, .sh ((eP2 eI (eT eI)) t127), .now, .now, .now, .now, .now]) (fun (z195 : Bool) => z195) (fun (z195 : Bool) => [.sh (scrD ns), .own none (List.map eI s186), .sh ((eP2 (eT eI) eI) t1.1), .sh ((eT eI) t1.1.1), .sh (eI t1.1.2), .sh (eI many2), .lst (List.map eA q23.2), .own none (List.map eI l82), .now, .now, .sh ((eT eI) t83), .sh ((eL (eT eI)) l119), .now, .sh ((eP2 eI (eT eI)) t127), .now, .now, .now, .now, .now]) kq194 (eb_bool (ef_bin (d := eB (!decide (t83 = []))) (ef_var (i := 10) (d := (eT eI) t83) rfl) (Ef.cast (d1 := (eT eI) []) ((ef_tup ea_nil sz0)) rfl) trivial (ne_g (e := (eT eI)) (Eqo.n (okT okI))))) rfl Le.refl (fun _ s h => bindE h fun t193 kt193 h => (eb_fin h (fun (z195 : Bool) => z195) (fun (z195 : Bool) => [.sh (scrD ns), .own none (List.map eI s186), .sh ((eP2 (eT eI) eI) t1.1), .sh ((eT eI) t1.1.1), .sh (eI t1.1.2), .sh (eI many2), .lst (List.map eA q23.2), .own none (List.map eI l82), .now, .now, .sh ((eT eI) t83), .sh ((eL (eT eI)) l119), .now, .sh ((eP2 eI (eT eI)) t127), .now, .now, .now, .now, .now]) (eb_bool (ef_bin (d := eB (decide (0 < t193))) (ef_bin (d := eI t193) (ef_var (i := 10) (d := (eT eI) t83) rfl) (ef_un (d := eI (-1)) (ef_const (d := eI 1)) rfl) trivial (at_t kt193)) (ef_const (d := eI 0)) trivial rfl)) Le.refl))))) ea_nil trivial)) trivial (rep_l kt196))) ((fun z => cast_l (e := (eT eI)) (f := eA) (g := fun z => ((eT eI) z)) (fun _ => rfl) z) t196)) trivial (cat_l kt197)))) (bindE h fun t201 kt201 h => bindE h fun t202 kt202 h => (ws_sapp S_law_18_app (ws_ifs (eb_bool (ef_bin (d := eB (!t202)) (Ef.cast (d1 := eA ((eL eA) t201)) ((Ef.app Q_law_10_app (ef_cmpO (P1 := [.sh (scrD ns), .own none (List.map eI s186), .sh ((eP2 (eT eI) eI) t1.1), .sh ((eT eI) t1.1.1), .sh (eI t1.1.2), .sh (eI many2), .sh ((eL eA) t197), .own none (List.map eI l82), .now, .now, .sh ((eT eI) t83), .sh ((eL (eT eI)) l119), .now, .sh ((eP2 eI (eT eI)) t127), .now, .now, .now, .now, .now]) (ex := eA) (eb := eA) [.sh (scrD ns), .own none (List.map eI s186), .sh ((eP2 (eT eI) eI) t1.1), .sh ((eT eI) t1.1.1), .sh (eI t1.1.2), .sh (eI many2), .sh ((eL eA) t197), .own none (List.map eI l82), .now, .now, .sh ((eT eI) t83), .sh ((eL (eT eI)) l119), .now, .sh ((eP2 eI (eT eI)) t127), .now, .now, .now, .now, .any] kt201 (it_seq (ds := List.map eA t197) (ef_own (i := 6) (ds := List.map eA t197) rfl) rfl) (leC wk (leC wk (leC wk (leC wk (leC wk (leC wk (leC wk (leC wk (leC wk (leC wk (leC wk (leC wk (leC wk (leC wk (leC wk (leC wk (leC wk (leC wk (leC wk_any leN))))))))))))))))))) rfl rfl (fun x198 o h => ⟨_, tg_slot, bindE h fun t200 kt200 h => (Lb_if (eb_bool (ef_bin (d := eB (!decide (t200 = false))) (ef_call (sim_is_rota_2 kt200) (ea_cons (k := .s) (ef_var (i := 2) (d := (eP2 (eT eI) eI) t1.1) rfl) (ea_cons (k := .s) (ef_var (i := 18) (d := eA x198) rfl) ea_nil trivial) trivial)) (ef_const (d := eB false)) trivial rfl)) (fun hb => have h := if_t h hb; ⟨_, (someE h).symm, .s, _, (ef_var (i := 18) (d := eA x198) rfl), rfl, (leC wk (leC wk (leC wk (leC wk (leC wk (leC wk (leC wk (leC wk (leC wk (leC wk (leC wk (leC wk (leC wk (leC wk (leC wk (leC wk (leC wk (leC wk (leC wk_any leN)))))))))))))))))))⟩) (fun hb => ⟨(someE (if_f h hb)).symm, (leC wk (leC wk (leC wk (leC wk (leC wk (leC wk (leC wk (leC wk (leC wk (leC wk (leC wk (leC wk (leC wk (leC wk (leC wk (leC wk (leC wk (leC wk (leC wk_any leN)))))))))))))))))))⟩))⟩)))) rfl) (Ef.cast (d1 := eA ((eL eI) [])) ((ef_disp ea_nil sz0)) rfl) trivial (eqA_ne kt202))) (fun hb => have h := if_t h hb; ws_rtS (ws_retM h (fun (r : Bool) => eB r) (fun _ => NoM) (ef_const (d := eB false)) (fun _ _ => trivial))) (fun hb => have h := if_f h hb; ws_skip (bindE h fun t203 kt203 h => bindE h fun t204 kt204 h => (ws_seq (P1 := [.sh (scrD ns), .own none (List.map eI s186), .sh ((eP2 (eT eI) eI) t1.1), .sh ((eT eI) t1.1.1), .sh (eI t1.1.2), .sh (eI many2), .own none (List.map eA t204), .own none (List.map eI l82), .now, .now, .sh ((eT eI) t83), .sh ((eL (eT eI)) l119), .now, .sh ((eP2 eI (eT eI)) t127), .now, .now, .now, .now, .now]) (Ws.app S_law_19_app (nx_setF (ds := List.map eA t204) (ef_binL (ds := List.map eA t204) (Ef.cast (d1 := eL eA [(eN ()), ((eL eI) t127.2), ((eP1 eI) many2), ((eP1 eI) (-1)), ((eP1 eN) ()), ((eP2 eI eI) (0, 0)), ((eP1 eB) true), (eS (⟨"hours", by decide +kernel⟩ : SS)), (eI 0)]) (ef_disp (ea_cons (k := .s) (ef_const (d := eN ())) (ea_cons (k := .f) (ef_bfL (es := List.map eI t127.2) rfl (ea_cons (k := .s) (ef_bin (d := (eT eI) t127.2) (ef_var (i := 13) (d := (eP2 eI (eT eI)) t127) rfl) (ef_const (d := eI 1)) trivial rfl) ea_nil trivial)) (ea_cons (k := .s) (ef_tup (ea_cons (k := .s) (ef_var (i := 5) (d := eI many2) rfl) ea_nil trivial) sz1) (ea_cons (k := .s) (ef_tup (ea_cons (k := .s) (ef_un (d := eI (-1)) (ef_const (d := eI 1)) rfl) ea_nil trivial) sz1) (ea_cons (k := .s) (ef_tup (ea_cons (k := .s) (ef_const (d := eN ())) ea_nil trivial) sz1) (ea_cons (k := .s) (ef_tup (ea_cons (k := .s) (ef_const (d := eI 0)) (ea_cons (k := .s) (ef_const (d := eI 0)) ea_nil trivial) trivial) sz2) (ea_cons (k := .s) (ef_tup (ea_cons (k := .s) (ef_const (d := eB true)) ea_nil trivial) sz1) (ea_cons (k := .s) (ef_const (d := eS (⟨"hours", by decide +kernel⟩ : SS))) (ea_cons (k := .s) (ef_const (d := eI 0)) ea_nil trivial) trivial) trivial) trivial) trivial) trivial) trivial) trivial) trivial) sz9) rfl) (Ef.cast (d1 := (eL eA) (t203.map fun z => ((eP2 eI eI) z))) ((ef_binL (ds := List.map (eP2 eI eI) t203) (Ef.cast (d1 := eL (eP2 eI eI) [((many2 - 1), 0)]) (ef_disp (ea_cons (k := .s) (ef_tup (ea_cons (k := .s) (ef_bin (d := eI (many2 - 1)) (ef_var (i := 5) (d := eI many2) rfl) (ef_const (d := eI 1)) trivial rfl) (ea_cons (k := .s) (ef_const (d := eI 0)) ea_nil trivial) trivial) sz2) ea_nil trivial) sz1) rfl) (ef_bf (d := eI (if (decide (1 < many2)) = true then 1 else 0 : Int)) (int_b (decide (1 < many2))) (ea_cons (k := .s) (ef_bin (d := eB (decide (1 < many2))) (ef_var (i := 5) (d := eI many2) rfl) (ef_const (d := eI 1)) trivial rfl) ea_nil trivial)) trivial (rep_l kt203))) ((fun z => cast_l (e := (eP2 eI eI)) (f := eA) (g := fun z => ((eP2 eI eI) z)) (fun _ => rfl) z) t203)) trivial (cat_l kt204)))) (bindE h fun t208 kt208 h => bindE h fun t209 kt209 h => (Ws.app S_law_20_app (ws_retM h (fun (r : Bool) => eB r) (fun _ => NoM) (ef_bin (d := eB t209) (Ef.cast (d1 := eA ((eL eA) t208)) ((Ef.app Q_law_11_app (ef_cmpO (P1 := [.sh (scrD ns), .own none (List.map eI s186), .sh ((eP2 (eT eI) eI) t1.1), .sh ((eT eI) t1.1.1), .sh (eI t1.1.2), .sh (eI many2), .sh ((eL eA) t204), .own none (List.map eI l82), .now, .now, .sh ((eT eI) t83), .sh ((eL (eT eI)) l119), .now, .sh ((eP2 eI (eT eI)) t127), .now, .now, .now, .now, .now]) (ex := eA) (eb := eA) [.sh (scrD ns), .own none (List.map eI s186), .sh ((eP2 (eT eI) eI) t1.1), .sh ((eT eI) t1.1.1), .sh (eI t1.1.2), .sh (eI many2), .sh ((eL eA) t204), .own none (List.map eI l82), .now, .now, .sh ((eT eI) t83), .sh ((eL (eT eI)) l119), .now, .sh ((eP2 eI (eT eI)) t127), .now, .now, .now, .now, .any] kt208 (it_seq (ds := List.map eA t204) (ef_own (i := 6) (ds := List.map eA t204) rfl) rfl) (leC wk (leC wk (leC wk (leC wk (leC wk (leC wk (leC wk (leC wk (leC wk (leC wk (leC wk (leC wk (leC wk (leC wk (leC wk (leC wk (leC wk (leC wk (leC wk_any leN))))))))))))))))))) rfl rfl (fun x205 o h => ⟨_, tg_slot, bindE h fun t207 kt207 h => (Lb_if (eb_bool (ef_bin (d := eB (!decide (t207 = false))) (ef_call (sim_are_apart_2 kt207) (ea_cons (k := .s) (ef_var (i := 2) (d := (eP2 (eT eI) eI) t1.1) rfl) (ea_cons (k := .s) (ef_var (i := 18) (d := eA x205) rfl) ea_nil trivial) trivial)) (ef_const (d := eB false)) trivial rfl)) (fun hb => have h := if_t h hb; ⟨_, (someE h).symm, .s, _, (ef_var (i := 18) (d := eA x205) rfl), rfl, (leC wk (leC wk (leC wk (leC wk (leC wk (leC wk (leC wk (leC wk (leC wk (leC wk (leC wk (leC wk (leC wk (leC wk (leC wk (leC wk (leC wk (leC wk (leC wk_any leN)))))))))))))))))))⟩) (fun hb => ⟨(someE (if_f h hb)).symm, (leC wk (leC wk (leC wk (leC wk (leC wk (leC wk (leC wk (leC wk (leC wk (leC wk (leC wk (leC wk (leC wk (leC wk (leC wk (leC wk (leC wk (leC wk (leC wk_any leN)))))))))))))))))))⟩))⟩)))) rfl) (Ef.cast (d1 := eA ((eL eI) [])) ((ef_disp ea_nil sz0)) rfl) trivial (eqA_g kt209)) (fun _ _ => trivial)))))))))))) (fun v hv o e q => q_rt (q := (fun (r : Bool) => RQ .s ((fun (r : Bool) => eB r) r) ((fun _ => NoM) r))) (rs_rt h hv) q)))))))))))))))))))))))))))))))))))
end Lw
/-! k61: the mathematics -/
namespace Lw
open PySem Cf Cn
theorem tk (ms : List Int) {b : Int} (hb : 0 < b) : ∃ (r : Int) (ms' : List Int), n__law_take ms b = some (r, ms') ∧ 0 ≤ r ∧ r < b := takeN_ex ms hb
/-- how many of the row are awake in hour h -/
def cnt (d h : Int) (row : List Int) : Nat := (row.filter fun b => decide (h - d < b) && decide (b ≤ h)).length
theorem cnt_app (d h : Int) (a b : List Int) : cnt d h (a ++ b) = cnt d h a + cnt d h b := by simp [cnt]
theorem cnt_rep (d h x : Int) (n : Nat) : cnt d h (List.replicate n x) = if h - d < x ∧ x ≤ h then n else 0 := by
  unfold cnt
  rw [List.filter_replicate]
  by_cases hx : h - d < x ∧ x ≤ h <;> simp [hx]
theorem awake_law {ns row : List Int} {d h : Int} (hl : row.length ≤ 1000) : n__law_awake (ns, d) row h = some (cnt d h row : Int) := by
  unfold n__law_awake
  rw [cmp_ok (by omega)]
  simp [cnt]
theorem awake_in {ns row : List Int} {d h : Int} (hl : row.length ≤ 1000) : n_awake_in (ns, d) row h = some (cnt d h row : Int) := by
  unfold n_awake_in
  rw [cmp_ok (by omega)]
  simp only [Option.bind_some, cnt, List.length_map]
  congr 3
  refine List.filter_congr fun x _ => ?_
  rw [Bool.eq_iff_iff]
  simp
  omega
section
variable {ns : List Int} {d : Int} (h1 : ns.length ≤ 8) (hn : ∀ x ∈ ns, 0 ≤ x ∧ x ≤ 5) (d1 : 1 ≤ d) (d2 : d ≤ 6)
def nd (ns : List Int) (k : Nat) : Int := ns.getD k 0
/-- the rota, hour by hour -/
def gr (ns : List Int) (d : Int) : Nat → List Int
  | 0 => []
  | k + 1 => gr ns d k ++ List.replicate (nd ns k - cnt d k (gr ns d k)).toNat (k : Int)
include hn in
theorem nd_b (k : Nat) : 0 ≤ nd ns k ∧ nd ns k ≤ 5 := by
  unfold nd
  rw [List.getD_eq_getElem?_getD]
  cases h : ns[k]? with
  | none => simp
  | some x => exact hn x (List.mem_of_getElem? h)
include hn in
theorem gr_len (k : Nat) : (gr ns d k).length ≤ 5 * k := by
  induction k with
  | zero => simp [gr]
  | succ k ih =>
    have := nd_b hn k
    simp only [gr, List.length_append, List.length_replicate]
    omega
theorem gr_mem (k : Nat) : ∀ x ∈ gr ns d k, 0 ≤ x ∧ x < k := by
  induction k with
  | zero => simp [gr]
  | succ k ih =>
    intro x hx
    simp only [gr, List.mem_append, List.mem_replicate] at hx
    rcases hx with hx | ⟨_, rfl⟩
    · have := ih x hx; omega
    · omega
theorem gr_sorted (k : Nat) : (gr ns d k).Pairwise (· ≤ ·) := by
  induction k with
  | zero => simp [gr]
  | succ k ih =>
    rw [gr, List.pairwise_append]
    refine ⟨ih, ?_, fun a ha b hb => ?_⟩
    · rw [List.pairwise_replicate]
      omega
    · have := gr_mem k a ha
      have := (List.mem_replicate.mp hb).2
      omega
theorem gr_pre (k j : Nat) : ∃ r, gr ns d (k + j) = gr ns d k ++ r ∧ ∀ x ∈ r, (k : Int) ≤ x := by
  induction j with
  | zero => exact ⟨[], by simp, by simp⟩
  | succ j ih =>
    obtain ⟨r, e, h⟩ := ih
    refine ⟨r ++ List.replicate (nd ns (k + j) - cnt d ((k + j : Nat) : Int) (gr ns d (k + j))).toNat ((k + j : Nat) : Int), ?_, fun x hx => ?_⟩
    · rw [← Nat.add_assoc, gr, e, List.append_assoc]
    · rcases List.mem_append.mp hx with hx | hx
      · exact h x hx
      · have := (List.mem_replicate.mp hx).2
        omega
theorem cnt_after {h : Int} {r : List Int} (hr : ∀ x ∈ r, h < x) : cnt d h r = 0 := by
  unfold cnt
  rw [List.length_eq_zero_iff, List.filter_eq_nil_iff]
  intro x hx
  have := hr x hx
  simp
  omega
include d1 in
theorem gr_ok {n k : Nat} (hk : k < n) : nd ns k ≤ cnt d k (gr ns d n) := by
  obtain ⟨r, e, hr⟩ := gr_pre (ns := ns) (d := d) (k + 1) (n - (k + 1))
  rw [show k + 1 + (n - (k + 1)) = n by omega] at e
  rw [e, cnt_app, cnt_after (r := r) fun x hx => by have := hr x hx; omega, gr, cnt_app, cnt_rep, if_pos ⟨by omega, by omega⟩]
  omega
/-- the greedy numbers -/
def gn (ns : List Int) (d : Int) (k : Nat) : Int := (gr ns d k).length
include d1 in
theorem gn_succ (k : Nat) : gn ns d (k + 1) = max (gn ns d k) (nd ns k + gn ns d (k + 1 - d.toNat)) := by
  have hc : (cnt d k (gr ns d k) : Int) = gn ns d k - gn ns d (k + 1 - d.toNat) := by
    obtain ⟨r, e, hr⟩ := gr_pre (ns := ns) (d := d) (k + 1 - d.toNat) (k - (k + 1 - d.toNat))
    rw [show k + 1 - d.toNat + (k - (k + 1 - d.toNat)) = k by omega] at e
    have hm := gr_mem (ns := ns) (d := d) k
    unfold gn
    rw [e] at hm ⊢
    rw [cnt_app]
    have a1 : cnt d k (gr ns d (k + 1 - d.toNat)) = 0 := by
      unfold cnt
      rw [List.length_eq_zero_iff, List.filter_eq_nil_iff]
      intro x hx
      have := gr_mem (ns := ns) (d := d) _ x hx
      simp
      omega
    have a2 : cnt d k r = r.length := by
      unfold cnt
      rw [List.filter_eq_self.mpr]
      intro x hx
      have := hr x hx
      have := hm x (by simp [hx])
      simp
      omega
    rw [a1, a2, List.length_append]
    omega
  have : gn ns d (k + 1) = gn ns d k + ((nd ns k - cnt d k (gr ns d k)).toNat : Int) := by
    unfold gn
    rw [gr, List.length_append, List.length_replicate]
    omega
  rw [this]
  omega
/-! hours apart -/
def Ap (d : Int) (row : List Int) : Prop := row.Pairwise fun a b => a + d ≤ b
def wt (ns : List Int) (row : List Int) : Int := (row.map fun h => ns.getD h.toNat 0).sum
theorem wt_app (a b : List Int) : wt ns (a ++ b) = wt ns a + wt ns b := by simp [wt]
theorem wt_cons (a : Int) (b : List Int) : wt ns (a :: b) = ns.getD a.toNat 0 + wt ns b := by simp [wt]
theorem wt_one (k : Nat) : wt ns [(k : Int)] = nd ns k := by simp [wt, nd]
/-- rows apart within [a, b) -/
structure Rw (d a b : Int) (row : List Int) : Prop where
  ap : Ap d row
  in_ : ∀ x ∈ row, a ≤ x ∧ x < b
theorem Rw.nil {a b : Int} : Rw d a b [] := ⟨.nil, by simp⟩
include d1 in
theorem row_ex (k : Nat) : ∃ row, Rw d 0 k row ∧ wt ns row = gn ns d k := by
  induction k using Nat.strongRecOn with
  | _ k ih =>
    cases k with
    | zero => exact ⟨[], .nil, by simp [wt, gn, gr]⟩
    | succ k =>
      rw [gn_succ d1]
      rcases Int.le_total (nd ns k + gn ns d (k + 1 - d.toNat)) (gn ns d k) with h | h
      · obtain ⟨row, r, e⟩ := ih k (by omega)
        exact ⟨row, ⟨r.ap, fun x hx => by have := r.in_ x hx; omega⟩, by omega⟩
      · obtain ⟨row, r, e⟩ := ih (k + 1 - d.toNat) (by omega)
        refine ⟨row ++ [(k : Int)], ⟨?_, fun x hx => ?_⟩, ?_⟩
        · refine List.pairwise_append.mpr ⟨r.ap, by simp, fun a ha b hb => ?_⟩
          have := r.in_ a ha
          simp at hb
          subst hb
          omega
        · rcases List.mem_append.mp hx with hx | hx
          · have := r.in_ x hx; omega
          · simp at hx; omega
        · rw [wt_app, wt_one]
          omega
/-- a keeper is awake in one of hours apart at most -/
theorem one_le {row : List Int} (h : Ap d row) (b : Int) : (row.filter fun h => decide (h - d < b) && decide (b ≤ h)).length ≤ 1 := by
  induction row with
  | nil => simp
  | cons x row ih =>
    obtain ⟨p1, p2⟩ := List.pairwise_cons.mp h
    by_cases hx : x - d < b ∧ b ≤ x
    · rw [List.filter_cons_of_pos (by simpa using hx), List.filter_eq_nil_iff.mpr]
      · simp
      · intro y hy
        have := p1 y hy
        simp
        omega
    · rw [List.filter_cons_of_neg (by simpa using hx)]
      exact ih p2
theorem cover {row : List Int} (h : Ap d row) (some : List Int) : (row.map fun h => (cnt d h some : Int)).sum ≤ some.length := by
  induction some with
  | nil =>
    have : (row.map fun h => (cnt d h [] : Int)).sum = 0 := by
      clear h
      induction row with
      | nil => rfl
      | cons x row ih => rw [List.map_cons, List.sum_cons, ih]; simp [cnt]
    rw [this]
    simp
  | cons b some ih =>
    have e : ∀ row : List Int, (row.map fun h => (cnt d h (b :: some) : Int)).sum = ((row.filter fun h => decide (h - d < b) && decide (b ≤ h)).length : Int) + (row.map fun h => (cnt d h some : Int)).sum := by
      intro row
      induction row with
      | nil => rfl
      | cons x row ih =>
        rw [List.map_cons, List.sum_cons, List.map_cons, List.sum_cons, ih]
        by_cases hx : x - d < b ∧ b ≤ x
        · rw [List.filter_cons_of_pos (by simpa using hx)]
          have : cnt d x (b :: some) = cnt d x some + 1 := by
            unfold cnt
            rw [List.filter_cons_of_pos (by simpa using hx)]
            rfl
          rw [this, List.length_cons]
          omega
        · rw [List.filter_cons_of_neg (by simpa using hx)]
          have : cnt d x (b :: some) = cnt d x some := by
            unfold cnt
            rw [List.filter_cons_of_neg (by simpa using hx)]
          rw [this]
          omega
    rw [e row, List.length_cons]
    have := one_le h b
    omega
theorem sum_le {f g : Int → Int} {row : List Int} (h : ∀ x ∈ row, f x ≤ g x) : (row.map f).sum ≤ (row.map g).sum := by
  induction row with
  | nil => simp
  | cons x row ih =>
    rw [List.map_cons, List.sum_cons, List.map_cons, List.sum_cons]
    have := h x (by simp)
    have := ih fun y hy => h y (by simp [hy])
    omega
/-- a rota is no shorter than what hours apart need -/
theorem weak {n : Nat} {row some : List Int} (r : Rw d 0 n row) (h : ∀ k : Nat, k < n → nd ns k ≤ cnt d k some) : wt ns row ≤ some.length := by
  refine Int.le_trans (sum_le fun x hx => ?_) (cover r.ap some)
  have hb := r.in_ x hx
  have := h x.toNat (by omega)
  rw [show ((x.toNat : Nat) : Int) = x by omega] at this
  exact this
end
end Lw
namespace Lw
open PySem Cf Cn L2
section
variable {ns : List Int} {d : Int} (h1 : ns.length ≤ 8) (hn : ∀ x ∈ ns, 0 ≤ x ∧ x ≤ 5) (d1 : 1 ≤ d) (d2 : d ≤ 6)
theorem nd_get {k : Nat} (h : k < ns.length) : ns[k] = nd ns k := by
  unfold nd
  rw [List.getD_eq_getElem?_getD, List.getElem?_eq_getElem h]
  rfl
theorem rep1 {n : Int} {x : Int} (h : n ≤ 1000) : repN [x] (max 0 n) = some (List.replicate n.toNat x) := by
  rw [repN1 (by omega) (by omega)]
  congr 2
  omega
include h1 hn in
theorem fewest_ok : n_fewest_shifts (ns, d) = some (gr ns d ns.length) := by
  unfold n_fewest_shifts
  obtain ⟨s, e, hs⟩ := forN_inv0 (step := n_fewest_shifts_1 (ns, d)) (J := fun k s => s = gr ns d k) (xs := enumN ns) (s := []) (fun i s hi hs => by
    subst hs
    have hi' : i < ns.length := by simpa [enumN] using hi
    have g := gr_len (ns := ns) (d := d) hn i
    have b := nd_b hn i
    refine ⟨_, ?_, rfl⟩
    have e1 : (enumN ns)[i] = ((i : Int), nd ns i) := by simp [enumN, nd_get hi']
    rw [e1]
    unfold n_fewest_shifts_1
    simp only [awake_in (ns := ns) (d := d) (h := (i : Int)) (show (gr ns d i).length ≤ 1000 by omega), Option.bind_some, letO_eq]
    rw [rep1 (by omega)]
    simp only [Option.bind_some]
    rw [catN_ok (by simp; omega)]
    rfl) rfl
  rw [e, hs]
  simp [enumN]
include d1 in
theorem five {s : List Int} {k : Nat} (hk : k < ns.length) (hl : s.length ≤ 500) (hb : nd ns k ≤ 5) (ms : List Int) :
    forN (n_law_1 ((ns, d), ms) (k : Int)) s (nats 5) = some (s ++ List.replicate (nd ns k - cnt d k s).toNat (k : Int)) := by
  obtain ⟨s', e, hs⟩ := forN_inv0 (step := n_law_1 ((ns, d), ms) (k : Int)) (J := fun j s' => s' = s ++ List.replicate (min j (nd ns k - cnt d k s).toNat) (k : Int)) (xs := nats 5) (s := s) (fun j s' hj hs => by
    subst hs
    simp only [nats_length] at hj
    unfold n_law_1
    simp only
    rw [awake_law (by simp; omega), atI_nth hk, nd_get hk]
    simp only [Option.bind_some, cnt_app, cnt_rep]
    rw [if_pos (show (k : Int) - d < k ∧ (k : Int) ≤ k by omega)]
    by_cases hc : (((cnt d k s + min j (nd ns k - cnt d k s).toNat : Nat)) : Int) < nd ns k
    · rw [if_pos (by simpa using hc), pushN_ok (by simp; omega)]
      refine ⟨_, rfl, ?_⟩
      rw [List.append_assoc, show min (j + 1) (nd ns k - cnt d k s).toNat = min j (nd ns k - cnt d k s).toNat + 1 by omega, List.replicate_succ']
    · rw [if_neg (by simpa using hc)]
      refine ⟨_, rfl, ?_⟩
      rw [show min (j + 1) (nd ns k - cnt d k s).toNat = min j (nd ns k - cnt d k s).toNat by omega]) (by simp)
  rw [e, hs, nats_length, show min 5 (nd ns k - cnt d k s).toNat = (nd ns k - cnt d k s).toNat by omega]
include h1 hn d1 in
theorem own_ok (ms : List Int) : forN (n_law_2 ((ns, d), ms)) [] (nats ns.length) = some (gr ns d ns.length) := by
  obtain ⟨s, e, hs⟩ := forN_inv0 (step := n_law_2 ((ns, d), ms)) (J := fun k s => s = gr ns d k) (xs := nats ns.length) (s := []) (fun i s hi hs => by
    subst hs
    have hi' : i < ns.length := by simpa using hi
    have g := gr_len (ns := ns) (d := d) hn i
    have b := nd_b hn i
    refine ⟨_, ?_, rfl⟩
    rw [nats_get hi]
    unfold n_law_2
    rw [show (5 : Int) = ((5 : Nat) : Int) by rfl, rng_nat (by omega)]
    simp only [Option.bind_some]
    rw [five d1 hi' (by omega) b.2]
    rfl) rfl
  rw [e, hs]
  simp
/-! rotas -/
def isR (ns : List Int) (d : Int) (row : List Int) : Bool := (List.range ns.length).all fun k => decide (nd ns k ≤ cnt d k row)
theorem isR_iff {row : List Int} : isR ns d row = true ↔ ∀ k : Nat, k < ns.length → nd ns k ≤ cnt d k row := by
  simp [isR]
include h1 in
theorem law_rota {row : List Int} (hl : row.length ≤ 1000) : n__law_is_rota (ns, d) row = some (isR ns d row) := by
  unfold n__law_is_rota
  simp only
  rw [rng_nat (by omega)]
  simp only [Option.bind_some]
  rw [cmpO_filter (fun x => decide ((cnt d x row : Int) < nd ns x.toNat)) (fun x hx => by
    obtain ⟨k, hk, rfl⟩ := mem_nats.mp hx
    rw [awake_law hl, atI_nth hk, nd_get hk]
    simp only [Option.bind_some, Int.toNat_natCast]
    split <;> rfl) (by simp; omega)]
  simp only [Option.bind_some, Option.some.injEq]
  rw [Bool.eq_iff_iff, isR_iff, decide_eq_true_eq, List.filter_eq_nil_iff]
  constructor
  · intro h k hk
    have := h k (mem_nats.mpr ⟨k, hk, rfl⟩)
    simpa using this
  · intro h x hx
    obtain ⟨k, hk, rfl⟩ := mem_nats.mp hx
    have := h k hk
    simpa using this
theorem num_ok {x a b : Int} : n_is_number x a b = some (decide (a ≤ x) && decide (x ≤ b)) := by simp [n_is_number]
include h1 in
theorem is_rota_ok {row : List Int} (hl : row.length ≤ 1000) (hs : row.Pairwise (· ≤ ·)) (hb : ∀ x ∈ row, 0 ≤ x ∧ x < ns.length) : n_is_rota (ns, d) row = some (isR ns d row) := by
  unfold n_is_rota
  simp only [Bool.not_true, Bool.false_eq_true, if_false, num_ok, Option.bind_some]
  rw [allO_true fun x hx => by
    have := hb x hx
    simp
    omega]
  simp only [Option.bind_some, Bool.not_true, Bool.false_eq_true, if_false]
  rw [rng_1 (by omega)]
  simp only [Option.bind_some]
  rw [allO_adj (R := fun a b => decide (a ≤ b)) (by simp; omega) (fun k hk => by
    rw [show (1 + (k : Int) - 1) = (k : Int) by omega, atI_nth (by omega), show (1 + (k : Int)) = ((k + 1 : Nat) : Int) by omega, atI_nth hk]
    rfl)]
  simp only [Option.bind_some]
  rw [decide_eq_true (by simpa using hs)]
  simp only [Bool.not_true, Bool.false_eq_true, if_false]
  rw [allO_eq (fun x : Int × Int => decide (x.2 ≤ cnt d x.1 row)) (fun x hx => by
    rw [awake_in hl]
    rfl)]
  simp only [Option.bind_some, Option.some.injEq]
  rw [Bool.eq_iff_iff, isR_iff, List.all_eq_true]
  constructor
  · intro h k hk
    have := h ((k : Int), ns[k]) (by
      rw [enumN, List.mem_mapIdx]
      exact ⟨k, hk, rfl⟩)
    rw [nd_get hk] at this
    simpa using this
  · intro h x hx
    rw [enumN, List.mem_mapIdx] at hx
    obtain ⟨k, hk, rfl⟩ := hx
    have := h k hk
    rw [nd_get hk]
    simpa using this
/-! rows of hours apart -/
def rws (d : Int) : Nat → List (List Int)
  | 0 => [[]]
  | k + 1 => rws d k ++ ((rws d k).filter fun row => decide (row = []) || (match row.getLast? with | some x => decide (d ≤ k - x) | none => false)).map (· ++ [(k : Int)])
theorem rws_len (k : Nat) : (rws d k).length ≤ 2 ^ k := by
  induction k with
  | zero => simp [rws]
  | succ k ih =>
    rw [rws, List.length_append, List.length_map]
    have := List.length_filter_le (fun row => decide (row = []) || (match row.getLast? with | some x => decide (d ≤ k - x) | none => false)) (rws d k)
    omega
/-- goes on with k -/
def goes (d : Int) (k : Nat) (row : List Int) : Bool := decide (row = []) || (match row.getLast? with | some x => decide (d ≤ k - x) | none => false)
theorem rws_succ (k : Nat) : rws d (k + 1) = rws d k ++ ((rws d k).filter (goes d k)).map (· ++ [(k : Int)]) := rfl
theorem rws_row (k : Nat) : ∀ row ∈ rws d k, row.length ≤ k := by
  induction k with
  | zero => simp [rws]
  | succ k ih =>
    intro row h
    rw [rws_succ, List.mem_append, List.mem_map] at h
    rcases h with h | ⟨r, h, rfl⟩
    · have := ih row h; omega
    · have := ih r (List.mem_filter.mp h).1
      simp
      omega
theorem rws_mem (d1 : 1 ≤ d) (k : Nat) (row : List Int) : row ∈ rws d k ↔ Rw d 0 k row := by
  induction k generalizing row with
  | zero =>
    simp only [rws, List.mem_singleton]
    constructor
    · rintro rfl; exact .nil
    · intro h
      cases row with
      | nil => rfl
      | cons x row => have := h.in_ x (by simp); omega
  | succ k ih =>
    rw [rws, List.mem_append, List.mem_map]
    constructor
    · rintro (h | ⟨r, h, rfl⟩)
      · have := (ih row).mp h
        exact ⟨this.ap, fun x hx => by have := this.in_ x hx; omega⟩
      · obtain ⟨m, c⟩ := List.mem_filter.mp h
        have r' := (ih r).mp m
        refine ⟨List.pairwise_append.mpr ⟨r'.ap, by simp, fun a ha b hb => ?_⟩, fun x hx => ?_⟩
        · simp at hb
          subst hb
          cases hr : r.getLast? with
          | none => rw [List.getLast?_eq_none_iff.mp hr] at ha; cases ha
          | some y =>
            have hne : r ≠ [] := fun z => by rw [z] at hr; cases hr
            simp only [hr, hne, decide_false, Bool.false_or, decide_eq_true_eq] at c
            obtain ⟨r0, e⟩ := List.getLast?_eq_some_iff.mp hr
            subst e
            rcases List.mem_append.mp ha with ha | ha
            · have := (List.pairwise_append.mp r'.ap).2.2 a ha y (by simp)
              omega
            · simp at ha; omega
        · rcases List.mem_append.mp hx with hx | hx
          · have := r'.in_ x hx; omega
          · simp at hx; omega
    · intro r
      cases hr : row.getLast? with
      | none =>
        rw [List.getLast?_eq_none_iff.mp hr]
        exact .inl ((ih []).mpr .nil)
      | some y =>
        obtain ⟨r0, e⟩ := List.getLast?_eq_some_iff.mp hr
        subst e
        have hy := r.in_ y (by simp)
        obtain ⟨q1, q2, q3⟩ := List.pairwise_append.mp r.ap
        by_cases hk : y = k
        · subst hk
          refine .inr ⟨r0, List.mem_filter.mpr ⟨(ih r0).mpr ⟨q1, fun x hx => ?_⟩, ?_⟩, rfl⟩
          · have := q3 x hx k (by simp)
            have := r.in_ x (by simp [hx])
            omega
          · cases hz : r0.getLast? with
            | none => simp [List.getLast?_eq_none_iff.mp hz]
            | some z =>
              have := q3 z (List.mem_of_getLast? hz) k (by simp)
              simp
              right
              omega
        · refine .inl ((ih _).mpr ⟨r.ap, fun x hx => ?_⟩)
          have h0 := r.in_ x hx
          rcases List.mem_append.mp hx with hx | hx
          · have := q3 x hx y (by simp)
            omega
          · simp at hx; omega
include h1 in
theorem rows_ok (ms : List Int) : forN (n_law_3 ((ns, d), ms)) [[]] (nats ns.length) = some (rws d ns.length) := by
  obtain ⟨s, e, hs⟩ := forN_inv0 (step := n_law_3 ((ns, d), ms)) (J := fun k s => s = rws d k) (xs := nats ns.length) (s := [[]]) (fun k s hk hs => by
    subst hs
    have hk' : k < ns.length := by simpa using hk
    have hl := rws_len (d := d) k
    have hp : 2 ^ k ≤ 2 ^ 8 := Nat.pow_le_pow_right (by decide) (by omega)
    refine ⟨_, ?_, rfl⟩
    rw [nats_get hk]
    unfold n_law_3
    simp only
    rw [cmpO_if (goes d k) (fun row => row ++ [(k : Int)]) (fun row hr => by
      have hrow := rws_row k row hr
      by_cases h0 : row = []
      · subst h0
        simp [catN_ok, goes]
      · rw [if_neg (by simpa using h0), Cn.atI_last]
        cases hz : row.getLast? with
        | none => exact absurd (List.getLast?_eq_none_iff.mp hz) h0
        | some z =>
          by_cases hc : d ≤ k - z
          · simp [goes, h0, hz, hc, catN_ok (xs := row) (ys := [(k : Int)]) (by simp; omega)]
          · simp [goes, h0, hz, hc]) (by omega)]
    simp only [Option.bind_some]
    rw [catN_ok (by
      rw [List.length_map]
      have := List.length_filter_le (goes d k) (rws d k)
      omega)]
    rfl) rfl
  rw [e, hs]
  simp
end
end Lw
namespace Lw
open PySem Cf Cn L2
section
variable {ns : List Int} {d : Int} (h1 : ns.length ≤ 8) (hn : ∀ x ∈ ns, 0 ≤ x ∧ x ≤ 5) (d1 : 1 ≤ d) (d2 : d ≤ 6)
abbrev LT : Int × List Int → Int × List Int → Bool := ltP ltI (ltL ltI)
theorem LT_ok : LtOk LT := ltP_ok ltI_ok (ltL_ok ltI_ok)
/-- the least pair of the hours from i on -/
def Bst (ns : List Int) (d : Int) (i : Nat) (p : Int × List Int) : Prop := ∃ r, p = (-wt ns r, r) ∧ Rw d i ns.length r ∧ ∀ r', Rw d i ns.length r' → LT (-wt ns r', r') p = false
theorem bst_end {i : Nat} (hi : ns.length ≤ i) : Bst ns d i (0, []) := by
  refine ⟨[], by simp [wt], .nil, fun r' h => ?_⟩
  cases r' with
  | nil => exact LT_ok.irr _
  | cons x r => have := h.in_ x (by simp); omega
theorem LT_cons {a b c : Int} {r s : List Int} {h : Int} (e : LT (a, r) (b, s) = false) : LT (a - c, h :: r) (b - c, h :: s) = false := by
  unfold LT Cn.ltP at *
  by_cases q : a = b
  · simp only [q, if_true] at e ⊢
    simpa [ltL] using e
  · rw [if_neg q] at e
    rw [if_neg (by simp; omega)]
    simp only [ltI, decide_eq_false_iff_not] at e ⊢
    omega
include d1 in
theorem bst_step {h : Nat} {a b : Int × List Int} (hh : h < ns.length) (ha : Bst ns d (h + 1) a) (hb : Bst ns d (h + d.toNat) b) :
    Bst ns d h (if LT (b.1 - nd ns h, (h : Int) :: b.2) a = true then (b.1 - nd ns h, (h : Int) :: b.2) else a) := by
  obtain ⟨ra, ea, wa, ma⟩ := ha
  obtain ⟨rb, eb, wb, mb⟩ := hb
  have hB : ∀ r', Rw d h ns.length r' → LT (-wt ns r', r') a = false ∨ LT (-wt ns r', r') (b.1 - nd ns h, (h : Int) :: b.2) = false := by
    intro r' h'
    cases r' with
    | nil => exact .inl (ma [] .nil)
    | cons x r =>
      obtain ⟨p1, p2⟩ := List.pairwise_cons.mp h'.ap
      have hx := h'.in_ x (by simp)
      by_cases q : x = h
      · subst q
        refine .inr ?_
        have := mb r ⟨p2, fun y hy => by have := p1 y hy; have := h'.in_ y (by simp [hy]); omega⟩
        have e2 := LT_cons (c := nd ns h) (h := (h : Int)) this
        rw [wt_cons]
        show LT (-(nd ns h + wt ns r), _) _ = false
        rw [show -(nd ns h + wt ns r) = -wt ns r - nd ns h by omega]
        exact e2
      · refine .inl (ma (x :: r) ⟨h'.ap, fun y hy => ?_⟩)
        have := h'.in_ y hy
        rcases List.mem_cons.mp hy with rfl | hy
        · omega
        · have := p1 y hy; omega
  by_cases c : LT (b.1 - nd ns h, (h : Int) :: b.2) a = true
  · rw [if_pos c]
    refine ⟨(h : Int) :: rb, ?_, ⟨List.pairwise_cons.mpr ⟨fun y hy => ?_, wb.ap⟩, fun y hy => ?_⟩, fun r' h' => ?_⟩
    · rw [eb, wt_cons]
      show (-wt ns rb - nd ns h, _) = (-(nd ns h + wt ns rb), _)
      rw [show -wt ns rb - nd ns h = -(nd ns h + wt ns rb) by omega]
    · have := wb.in_ y hy; omega
    · rcases List.mem_cons.mp hy with rfl | hy
      · omega
      · have := wb.in_ y hy; omega
    · rcases hB r' h' with z | z
      · exact LT_ok.trN (LT_ok.asym c) z
      · exact z
  · rw [if_neg c]
    refine ⟨ra, ea, ⟨wa.ap, fun y hy => by have := wa.in_ y hy; omega⟩, fun r' h' => ?_⟩
    rcases hB r' h' with z | z
    · exact z
    · exact LT_ok.trN (by simpa using c) z
theorem Rw.len {a b : Int} {r : List Int} (d1 : 1 ≤ d) (h : Rw d a b r) : r.length ≤ (b - a).toNat := by
  induction r generalizing a with
  | nil => simp
  | cons x r ih =>
    obtain ⟨p1, p2⟩ := List.pairwise_cons.mp h.ap
    have hx := h.in_ x (by simp)
    have := ih (a := x + 1) ⟨p2, fun y hy => by have := p1 y hy; have := h.in_ y (by simp [hy]); omega⟩
    simp
    omega
include h1 d1 d2 in
theorem apart_ok : ∃ r, n_hours_apart (ns, d) = some r ∧ Bst ns d 0 (-wt ns r, r) := by
  obtain ⟨D, rfl⟩ := Int.eq_ofNat_of_zero_le (show 0 ≤ d by omega)
  unfold n_hours_apart
  simp only
  rw [repN1 (by omega) (by omega)]
  simp only [Option.bind_some]
  rw [rng3_down (by omega)]
  simp only [Option.bind_some]
  obtain ⟨s, e, hs⟩ := forN_inv0 (step := n_hours_apart_1 (ns, (D : Int))) (J := fun m s => s.length = ns.length + D ∧ ∀ i, ns.length - m ≤ i → ∀ hi : i < s.length, Bst ns D i s[i])
    (xs := (List.range ns.length).map fun k : Nat => (ns.length : Int) - 1 + (k : Int) * (-1)) (s := List.replicate ((ns.length : Int) + (D : Int)).toNat (0, [])) (fun m s hm ⟨hl, hB⟩ => by
      have hm' : m < ns.length := by simpa using hm
      have ex : ((List.range ns.length).map fun k : Nat => (ns.length : Int) - 1 + (k : Int) * (-1))[m] = ((ns.length - 1 - m : Nat) : Int) := by
        simp
        omega
      rw [ex]
      generalize hh : ns.length - 1 - m = h
      have b1 := hB (h + 1) (by omega) (by omega)
      have b2 := hB (h + D) (by omega) (by omega)
      have st := bst_step d1 (h := h) (by omega) b1 (by simpa using b2)
      have l2 : s[h + D].2.length ≤ 1000 := by
        obtain ⟨r, e, w, _⟩ := b2
        rw [e]
        have := w.len d1
        show r.length ≤ 1000
        omega
      have a1 : atI s ((h : Int) + (D : Int)) = some s[h + D] := by
        rw [show ((h : Int) + (D : Int)) = ((h + D : Nat) : Int) by omega]
        exact atI_nth (by omega)
      have a2 : atI s ((h : Int) + 1) = some s[h + 1] := by
        rw [show ((h : Int) + 1) = ((h + 1 : Nat) : Int) by omega]
        exact atI_nth (by omega)
      have a3 : atI ns (h : Int) = some (nd ns h) := by
        rw [atI_nth (by omega), nd_get (by omega)]
      have a4 : szN ([(h : Int)] ++ s[h + D].2) = some ((h : Int) :: s[h + D].2) := szN_ok (by simp; omega)
      unfold n_hours_apart_1
      simp only [a1, a2, a3, a4, Option.bind_some]
      rw [setN_nat (by omega)]
      refine ⟨_, rfl, by simpa using hl, fun i hi hi' => ?_⟩
      rw [List.getElem_set]
      by_cases q : h = i
      · subst q
        rw [if_pos rfl]
        exact st
      · rw [if_neg q]
        exact hB i (by omega) (by simpa using hi')) ⟨by simp; omega, fun i hi hi' => by
      rw [List.getElem_replicate]
      exact bst_end (by omega)⟩
  rw [e]
  obtain ⟨hl, hB⟩ := hs
  have hp : 0 < s.length := by omega
  have b0 := hB 0 (by simp) hp
  obtain ⟨r, er, w, mn⟩ := b0
  refine ⟨r, ?_, r, rfl, w, by rw [← er]; exact mn⟩
  simp only [Option.bind_some]
  rw [show (0 : Int) = ((0 : Nat) : Int) by rfl, atI_nth hp, er]
  rfl
include h1 hn d1 in
theorem best_wt {r : List Int} (b : Bst ns d 0 (-wt ns r, r)) : wt ns r = (gr ns d ns.length).length := by
  obtain ⟨r0, e, w, mn⟩ := b
  obtain rfl : r = r0 := congrArg Prod.snd e
  have h2 : wt ns r ≤ (gr ns d ns.length).length := weak w fun k hk => gr_ok d1 hk
  obtain ⟨row, w2, e2⟩ := row_ex (ns := ns) d1 ns.length
  have h3 := mn row w2
  unfold LT Cn.ltP at h3
  unfold gn at e2
  by_cases q : -wt ns row = -wt ns r
  · omega
  · rw [if_neg q] at h3
    simp only [ltI, decide_eq_false_iff_not] at h3
    omega
include h1 d1 in
theorem min_ok {r : List Int} (b : Bst ns d 0 (-wt ns r, r)) : minN LT ((rws d ns.length).map fun row => (-wt ns row, row)) = some (-wt ns r, r) := by
  obtain ⟨r0, e, w, mn⟩ := b
  obtain rfl : r = r0 := congrArg Prod.snd e
  refine minN_eq LT_ok (List.mem_map.mpr ⟨r, (rws_mem d1 _ _).mpr w, rfl⟩) fun y hy => ?_
  obtain ⟨row, hr, rfl⟩ := List.mem_map.mp hy
  exact mn row ((rws_mem d1 _ _).mp hr)
include h1 in
theorem sums_ok : cmpO (fun (x120 : List Int) => (cmpO (fun (x122 : Int) => (atI ns x122).bind fun t124 => some (some t124)) x120).bind fun t125 => some (some ((0 - (t125.sum)), x120))) (rws d ns.length) = some ((rws d ns.length).map fun row => (-wt ns row, row)) := by
  have hl := rws_len (d := d) ns.length
  have hp : 2 ^ ns.length ≤ 2 ^ 8 := Nat.pow_le_pow_right (by decide) (by omega)
  refine cmpO_map _ (fun row hr => ?_) (by omega)
  have hrow := rws_row (d := d) ns.length row hr
  have hin : ∀ x ∈ row, 0 ≤ x ∧ x < ns.length := by
    have : ∀ k, ∀ row ∈ rws d k, ∀ x ∈ row, 0 ≤ x ∧ x < (k : Int) := by
      intro k
      induction k with
      | zero => simp [rws]
      | succ k ih =>
        intro row h x hx
        rw [rws_succ, List.mem_append, List.mem_map] at h
        rcases h with h | ⟨r, h, rfl⟩
        · have := ih row h x hx; omega
        · rcases List.mem_append.mp hx with hx | hx
          · have := ih r (List.mem_filter.mp h).1 x hx; omega
          · simp at hx; omega
    exact this _ row hr
  rw [cmpO_map (fun h => ns.getD h.toNat 0) (fun h hh => by
    have := hin h hh
    rw [atI_int this.1 this.2]
    simp only [Option.bind_some, List.getD_eq_getElem?_getD]
    rw [List.getElem?_eq_getElem (by omega)]
    rfl) (by omega)]
  simp only [Option.bind_some, wt]
  congr 3
  omega
include d1 in
theorem are_apart_ok {row : List Int} (hl : row.length ≤ 1000) (hb : ∀ x ∈ row, 0 ≤ x ∧ x < ns.length) : n_are_apart (ns, d) row = some (memB row (rws d ns.length)) := by
  unfold n_are_apart
  simp only [Bool.not_true, Bool.false_eq_true, if_false, num_ok, Option.bind_some]
  rw [allO_true fun x hx => by
    have := hb x hx
    simp
    omega]
  simp only [Option.bind_some, Bool.not_true, Bool.false_eq_true, if_false]
  rw [rng_1 (by omega)]
  simp only [Option.bind_some]
  rw [allO_adj (R := fun a b => decide (d ≤ b - a)) (by simp; omega) (fun k hk => by
    rw [show (1 + (k : Int) - 1) = (k : Int) by omega, atI_nth (k := k) (by omega), show (1 + (k : Int)) = ((k + 1 : Nat) : Int) by omega, atI_nth hk]
    rfl)]
  simp only [Option.bind_some, Option.some.injEq]
  rw [Bool.eq_iff_iff, memB_iff, rws_mem d1, decide_eq_true_eq]
  constructor
  · intro h
    exact ⟨h.imp fun h => by simp at h; omega, hb⟩
  · intro h
    exact h.ap.imp fun h => by simp; omega
end
end Lw
namespace Lw
open PySem Cf Cn L2
def isNum (d : PyData) (a b : Int) : Bool := match d with
  | .int v => decide (a ≤ v) && decide (v ≤ b)
  | _ => false
theorem num2 (d : PyData) (a b : Int) : n_is_number_2 d a b = some (isNum d a b) := by
  cases d <;> simp [n_is_number_2, isNum, intA]
theorem all_num (xs : List PyData) (a b : Int) : allO (fun (x : PyData) => (n_is_number_2 x a b).bind fun t => some t) xs = some (xs.all fun x => isNum x a b) :=
  allO_eq _ fun x _ => by rw [num2]; rfl
theorem lenT (ds : List PyData) : lenA (.tuple ds) = some (ds.length : Int) := by simp [lenA]
theorem it1 (x y : PyData) : opA Cf.itemG (.tuple [x, y]) (eI 1) = some y := rfl
theorem it0 (x : PyData) (ys : List PyData) : opA Cf.itemG (.tuple (x :: ys)) (eI 0) = some x := by
  simp [opA, atI_cons]
theorem night_no (v : PyData) (h : tyName v ≠ "tuple") : n_is_night_2 v = some false := by
  cases v <;> first | exact absurd rfl h | simp [n_is_night_2]
theorem night_len (ds : List PyData) (h : ds.length ≠ 2) : n_is_night_2 (.tuple ds) = some false := by
  unfold n_is_night_2
  rw [lenT]
  have : ¬ (ds.length : Int) = 2 := by omega
  simp [this]
theorem night_2 (x y : PyData) : n_is_night_2 (.tuple [x, y]) = some (isNum y 1 6 && match x with
    | .tuple ds => decide (1 ≤ ds.length ∧ ds.length ≤ 12) && ds.all fun z => isNum z 0 5
    | _ => false) := by
  unfold n_is_night_2
  rw [lenT, it1, it0]
  simp only [num2]
  cases h : isNum y 1 6
  · simp [h]
  · cases x <;> try simp [h]
    rename_i ds
    simp only [lenT, itemsA, itemsG]
    simp only [num2, Option.bind_some]
    by_cases q : 1 ≤ ds.length ∧ ds.length ≤ 12
    · have q1 : (1 : Int) ≤ ds.length := by omega
      have q2 : (ds.length : Int) ≤ 12 := by omega
      rw [allO_eq (fun x => isNum x 0 5) fun _ _ => rfl]
      simp [h, q1, q2, q]
    · have : ¬ ((1 : Int) ≤ ds.length ∧ (ds.length : Int) ≤ 12) := by omega
      by_cases q1 : (1 : Int) ≤ ds.length
      · have q2 : ¬ (ds.length : Int) ≤ 12 := fun z => this ⟨q1, z⟩
        simp [h, q1, q2, q]
      · simp [h, q1, q]
section
variable {ns : List Int} {d : Int} (l1 : 1 ≤ ns.length) (h1 : ns.length ≤ 8) (hn : ∀ x ∈ ns, 0 ≤ x ∧ x ≤ 5) (d1 : 1 ≤ d) (d2 : d ≤ 6)
theorem night_t (ns : List Int) (d : Int) : n_is_night (ns, d) = some (decide (1 ≤ d) && decide (d ≤ 6) && decide (1 ≤ ns.length ∧ ns.length ≤ 12) && ns.all fun x => decide (0 ≤ x) && decide (x ≤ 5)) := by
  unfold n_is_night
  simp only [num_ok, Option.bind_some]
  cases h : (decide (1 ≤ d) && decide (d ≤ 6))
  · simp
  · by_cases q : 1 ≤ ns.length ∧ ns.length ≤ 12
    · have q1 : (1 : Int) ≤ ns.length := by omega
      have q2 : (ns.length : Int) ≤ 12 := by omega
      rw [allO_eq (fun x : Int => decide (0 ≤ x) && decide (x ≤ 5)) fun _ _ => rfl]
      simp [h, q1, q2, q]
    · have : ¬ ((1 : Int) ≤ ns.length ∧ (ns.length : Int) ≤ 12) := by omega
      by_cases q1 : (1 : Int) ≤ ns.length
      · have q2 : ¬ (ns.length : Int) ≤ 12 := fun z => this ⟨q1, z⟩
        simp [h, q1, q2, q]
      · simp [h, q1, q]
/-! what is no rota, no hours apart -/
theorem rota_no (v : PyData) (h : tyName v ≠ "tuple") : n_is_rota_2 (ns, d) v = some false := by
  cases v <;> first | exact absurd rfl h | simp [n_is_rota_2]
theorem apart_no (v : PyData) (h : tyName v ≠ "tuple") : n_are_apart_2 (ns, d) v = some false := by
  cases v <;> first | exact absurd rfl h | simp [n_are_apart_2]
theorem rota_bad (ds : List PyData) (h : (ds.all fun x => isNum x 0 ((ns.length : Int) - 1)) = false) : n_is_rota_2 (ns, d) (.tuple ds) = some false := by
  unfold n_is_rota_2
  simp only [itemsA, itemsG, num2, Option.bind_some]
  rw [allO_eq (fun x => isNum x 0 ((ns.length : Int) - 1)) fun _ _ => rfl, h]
  simp
theorem apart_bad (ds : List PyData) (h : (ds.all fun x => isNum x 0 ((ns.length : Int) - 1)) = false) : n_are_apart_2 (ns, d) (.tuple ds) = some false := by
  unfold n_are_apart_2
  simp only [itemsA, itemsG, num2, Option.bind_some]
  rw [allO_eq (fun x => isNum x 0 ((ns.length : Int) - 1)) fun _ _ => rfl, h]
  simp
theorem itN (xs : List PyData) {k : Int} {x : PyData} (h : L2.atI xs k = some x) : opA Cf.itemG (.tuple xs) (eI k) = some x := by
  simp [opA, h]
/-- a rota that goes down at its end -/
theorem rota_down (xs : List Int) (hx : xs ≠ []) (hl : 0 < xs.getLast hx) (hlen : xs.length ≤ 1000) (hb : ∀ x ∈ xs, 0 ≤ x ∧ x < ns.length) (l1 : 1 ≤ ns.length) : n_is_rota_2 (ns, d) (.tuple ((xs ++ [0]).map .int)) = some false := by
  unfold n_is_rota_2
  simp only [itemsA, itemsG, num2, Option.bind_some, lenT]
  rw [allO_eq (fun x => isNum x 0 ((ns.length : Int) - 1)) fun _ _ => rfl]
  have e1 : (((xs ++ [0]).map PyData.int).all fun x => isNum x 0 ((ns.length : Int) - 1)) = true := by
    rw [List.all_map, List.all_eq_true]
    intro x hx
    rw [List.mem_append] at hx
    rcases hx with hx | hx
    · have := hb x hx
      simp [isNum]
      omega
    · simp at hx
      subst hx
      simp [isNum]
      omega
  rw [e1]
  simp only [Option.bind_some, isTy, tyName, List.length_map]
  rw [rng_1 (by simp; omega)]
  simp only [Option.bind_some]
  have hat : ∀ k : Nat, (h : k < (xs ++ [0]).length) → opA Cf.itemG (.tuple ((xs ++ [0]).map .int)) (eI (k : Int)) = some (.int (xs ++ [0])[k]) := fun k hk => itN _ (by
    rw [atI_nth (by simpa using hk), List.getElem_map])
  rw [allO_adj (R := fun a b : Int => decide (a ≤ b)) (xs := xs ++ [0]) (by simp; omega) (fun k hk => by
    rw [show (1 + (k : Int) - 1) = (k : Int) by omega, hat k (by omega), show (1 + (k : Int)) = ((k + 1 : Nat) : Int) by omega, hat (k + 1) hk]
    rfl)]
  have np : ¬ (xs ++ [0]).Pairwise fun a b => decide (a ≤ b) = true := fun z => by
    have := (List.pairwise_append.mp z).2.2 _ (List.getLast_mem hx) 0 (by simp)
    simp at this
    omega
  simp only [np, decide_false]
  rfl
/-- hours apart that go down -/
theorem apart_down {a b : Int} (h : b - a < d) (ha : 0 ≤ a ∧ a < ns.length) (hb : 0 ≤ b ∧ b < ns.length) : n_are_apart_2 (ns, d) (.tuple [.int a, .int b]) = some false := by
  unfold n_are_apart_2
  simp only [itemsA, itemsG, num2, Option.bind_some, lenT]
  rw [allO_eq (fun x => isNum x 0 ((ns.length : Int) - 1)) fun _ _ => rfl]
  have e1 : ([PyData.int a, PyData.int b].all fun x => isNum x 0 ((ns.length : Int) - 1)) = true := by
    simp [isNum]
    omega
  rw [e1]
  simp only [Option.bind_some, isTy, tyName]
  rw [show (([PyData.int a, PyData.int b].length : Nat) : Int) = ((2 : Nat) : Int) by rfl, rng_1 (by omega)]
  have i1 : opA Cf.itemG (.tuple [.int a, .int b]) (eI (1 + ((0 : Nat) : Int))) = some (.int b) := rfl
  have i0 : opA Cf.itemG (.tuple [.int a, .int b]) (eI (1 + ((0 : Nat) : Int) - 1)) = some (.int a) := rfl
  have hr : (List.range (2 - 1)).map (fun k : Nat => (1 + (k : Int))) = [1 + ((0 : Nat) : Int)] := rfl
  rw [hr]
  simp only [Option.bind_some, allO, i1, i0, intA]
  simp
  omega
end
end Lw
namespace Lw
open PySem Cf Cn L2
theorem night_ok (ms : List Int) : ∃ (ns : List Int) (d : Int) (ms' : List Int), n__law_night ms = some ((ns, d), ms') ∧ 1 ≤ ns.length ∧ ns.length ≤ 8 ∧ (∀ x ∈ ns, 0 ≤ x ∧ x ≤ 5) ∧ 1 ≤ d ∧ d ≤ 6 := by
  unfold n__law_night
  obtain ⟨a, m1, ha, a0, a1⟩ := tk ms (b := 3) (by omega)
  rw [ha]
  simp only [Option.bind_some]
  have hv : ∃ v : Int, atI [2, 3, 6] a = some v ∧ 1 ≤ v ∧ v ≤ 6 := by
    have : a = 0 ∨ a = 1 ∨ a = 2 := by omega
    rcases this with rfl | rfl | rfl
    · exact ⟨2, rfl, by omega, by omega⟩
    · exact ⟨3, rfl, by omega, by omega⟩
    · exact ⟨6, rfl, by omega, by omega⟩
  obtain ⟨v, hv, v0, v1⟩ := hv
  rw [hv]
  simp only [Option.bind_some]
  obtain ⟨b, m2, hb, b0, b1⟩ := tk m1 (b := 8) (by omega)
  rw [hb]
  simp only [Option.bind_some]
  rw [rng_to (by omega) (by omega)]
  simp only [Option.bind_some]
  obtain ⟨ns, m3, hc, hl, hn⟩ := cmpS_all (xs := nats (1 + b).toNat) (s := m2) (f := fun (s : List Int) (x : Int) => (n__law_take s v).bind fun t48 => (n__law_take t48.2 4).bind fun t49 => (mulN t48.1 (if (decide (0 < t49.1)) = true then 1 else 0 : Int)).bind fun t50 => some (some t50, t49.2)) (fun y => 0 ≤ y ∧ y ≤ 5) (fun s x _ => by
    obtain ⟨p, s1, hp, p0, p1⟩ := tk s (b := v) (by omega)
    obtain ⟨q, s2, hq, q0, q1⟩ := tk s1 (b := 4) (by omega)
    refine ⟨p * (if (decide (0 < q)) = true then 1 else 0), s2, ?_, ?_⟩
    · simp only [hp, hq, Option.bind_some]
      rw [mulN_right (by split <;> decide)]
      rfl
    · split <;> omega) (by simp; omega)
  rw [hc]
  simp only [Option.bind_some]
  obtain ⟨c, m4, hc2, c0, c1⟩ := tk m3 (b := 2) (by omega)
  rw [hc2]
  simp only [Option.bind_some]
  have hw : ∃ w : Int, atI [2, 6] c = some w ∧ 1 ≤ w ∧ w ≤ 6 := by
    have : c = 0 ∨ c = 1 := by omega
    rcases this with rfl | rfl
    · exact ⟨2, rfl, by omega, by omega⟩
    · exact ⟨6, rfl, by omega, by omega⟩
  obtain ⟨w, hw, w0, w1⟩ := hw
  rw [hw]
  simp only [Option.bind_some]
  obtain ⟨e, m5, he, e0, e1⟩ := tk m4 (b := w) (by omega)
  rw [he]
  rw [nats_length] at hl
  exact ⟨ns, 1 + e, m5, rfl, by omega, by omega, hn, by omega, by omega⟩
theorem deepI {xs : List Int} (h : xs.length ≤ 1000) : Deepn 12 (eT eI xs) := deep_t (by omega) fun x _ => .int _
section
variable {ns : List Int} {d : Int} (l1 : 1 ≤ ns.length) (h1 : ns.length ≤ 8) (hn : ∀ x ∈ ns, 0 ≤ x ∧ x ≤ 5) (d1 : 1 ≤ d) (d2 : d ≤ 6)
include l1 h1 hn d1 in
theorem turns_ok (m0 ms : List Int) : ∃ s, forR (n_law_4 ((ns, d), m0) (ns.length : Int) (gr ns d ns.length) (rws d ns.length)) ms (nats 5) = some (.nx s) := by
  have gl := gr_len (ns := ns) (d := d) hn ns.length
  have gm := gr_mem (ns := ns) (d := d) ns.length
  obtain ⟨s, h, _⟩ := forR_inv (step := n_law_4 ((ns, d), m0) (ns.length : Int) (gr ns d ns.length) (rws d ns.length)) (J := fun _ => True) (xs := nats 5) (s := ms) (fun s x _ _ => by
    unfold n_law_4
    simp only
    obtain ⟨a, m1, ha, a0, a1⟩ := tk s (b := 3) (by omega)
    rw [ha]
    simp only [Option.bind_some]
    rw [rng_to (by omega) (by omega)]
    simp only [Option.bind_some]
    obtain ⟨ys, m2, hc, hl, hy⟩ := cmpS_all (xs := nats a.toNat) (s := m1) (f := fun (s : List Int) (x : Int) => (n__law_take s (ns.length : Int)).bind fun t => some (some t.1, t.2)) (fun y => 0 ≤ y ∧ y < ns.length) (fun s x _ => by
      obtain ⟨p, s1, hp, p0, p1⟩ := tk s (b := ns.length) (by omega)
      exact ⟨p, s1, by simp [hp], p0, p1⟩) (by simp; omega)
    rw [hc]
    simp only [Option.bind_some]
    rw [nats_length] at hl
    rw [catN_ok (by omega)]
    simp only [Option.bind_some, letO_eq]
    generalize hS : sortN ltI (gr ns d ns.length ++ ys) = S
    have pS : S.Perm (gr ns d ns.length ++ ys) := hS ▸ sortN_perm _
    have sS : S.Pairwise (· ≤ ·) := by
      have := sortN_sorted ltI_ok (gr ns d ns.length ++ ys)
      rw [hS] at this
      exact this.imp fun h => by simpa [ltI] using h
    have lS : S.length ≤ 500 := by
      rw [pS.length_eq, List.length_append]
      omega
    have mS : ∀ x ∈ S, 0 ≤ x ∧ x < ns.length := fun x hx => by
      rcases List.mem_append.mp (pS.mem_iff.mp hx) with h | h
      · exact gm x h
      · exact hy x h
    obtain ⟨k, m3, hk, k0, k1⟩ := tk m2 (b := max 1 (S.length : Int)) (by omega)
    rw [hk]
    simp only [Option.bind_some]
    obtain ⟨c, m4, hc4, c0, c1⟩ := tk m3 (b := 2) (by omega)
    rw [hc4]
    simp only [Option.bind_some]
    have hq : ∃ q : List Int, (if (decide (c = 0)) = true then (catN (cutN S none (some k)) (cutN S (some (k + 1)) none)).bind fun t => some t else some S) = some q ∧ q.Sublist S := by
      by_cases z : c = 0
      · obtain ⟨k, rfl⟩ := Int.eq_ofNat_of_zero_le k0
        rw [if_pos (by simpa using z), cutN_takeA, show ((k : Int) + 1) = ((k + 1 : Nat) : Int) by omega, cutN_dropA, catN_ok (by simp; omega)]
        refine ⟨_, rfl, ?_⟩
        have : (S.take k ++ S.drop (k + 1)).Sublist (S.take k ++ S.drop k) := by
          refine (List.Sublist.refl _).append ?_
          rw [← List.drop_drop]
          exact List.drop_sublist _ _
        rwa [List.take_append_drop] at this
      · rw [if_neg (by simpa using z)]
        exact ⟨S, rfl, .refl _⟩
    obtain ⟨q, hq, sq⟩ := hq
    rw [hq]
    simp only [Option.bind_some]
    have lq : q.length ≤ 500 := Nat.le_trans sq.length_le lS
    rw [law_rota h1 (by omega), is_rota_ok h1 (by omega) (sS.sublist sq) fun x hx => mS x (sq.subset hx)]
    simp only [Option.bind_some]
    rw [alk_ok (.bool _)]
    simp only [Option.bind_some]
    rw [if_neg (by
      simp only [Bool.not_true, Bool.false_or, Bool.and_eq_true, decide_eq_true_eq, not_and]
      intro hr
      obtain ⟨row, w, e⟩ := row_ex (ns := ns) d1 ns.length
      have := weak w (isR_iff.mp hr)
      unfold gn at e
      omega)]
    rw [rng_nat (by omega)]
    simp only [Option.bind_some]
    obtain ⟨row, m5, hr, sr⟩ := cmpS_some (xs := nats ns.length) (s := m4) (f := fun (s : List Int) (x : Int) => (n__law_take s 3).bind fun t => if (decide (t.1 = 0)) = true then some (some x, t.2) else some (none, t.2)) (fun s x _ => by
      obtain ⟨p, s1, hp, p0, p1⟩ := tk s (b := 3) (by omega)
      refine ⟨decide (p = 0), s1, ?_⟩
      simp only [hp, Option.bind_some]
      split <;> rfl) (by simp; omega)
    rw [hr]
    simp only [Option.bind_some]
    have lr : row.length ≤ 8 := by
      have := sr.length_le
      simp at this
      omega
    rw [are_apart_ok d1 (by omega) fun x hx => mem_nats'.mp (sr.subset hx)]
    simp only [Option.bind_some]
    rw [alk_ok (.bool _)]
    simp only [Option.bind_some]
    exact ⟨_, rfl, trivial⟩) trivial
  exact ⟨s, h⟩
end
theorem n_holds (ms : List Int) : n_law ms = some true := by
  obtain ⟨ns, d, m1, hnight, l1, h1, hn, d1, d2⟩ := night_ok ms
  have gl := gr_len (ns := ns) (d := d) hn ns.length
  have gm := gr_mem (ns := ns) (d := d) ns.length
  unfold n_law
  rw [hnight]
  simp only [Option.bind_some, letO_eq]
  rw [repT1 (by omega) (by omega), mapN_ok (by simp)]
  simp only [Option.bind_some]
  rw [catN_ok (by simp)]
  simp only [Option.bind_some]
  rw [cmpO_map (fun x : PyData => ((ns.drop 1).map (fun z => eI z) ++ [x], d)) (fun x _ => by
    rw [cutN_1, catN_ok (by simp; omega)]
    rfl) (by simp)]
  simp only [Option.bind_some]
  rw [catN_ok (by simp), night_t]
  simp only [Option.bind_some]
  have nt : (decide (1 ≤ d) && decide (d ≤ 6) && decide (1 ≤ ns.length ∧ ns.length ≤ 12) && ns.all fun x => decide (0 ≤ x) && decide (x ≤ 5)) = true := by
    have : ns.length ≤ 12 := by omega
    simp [l1, d1, d2, this]
    exact hn
  rw [nt, repT1 (by omega) (by omega)]
  simp only [Option.bind_some]
  rw [night_t, if_neg (by simp)]
  simp only [Option.bind_some]
  rw [if_neg (by decide)]
  rw [cmpO_nil (fun x hx => by
    have : n_is_night_2 x = some false := by
      simp only [List.map_cons, List.map_nil, List.cons_append, List.nil_append, List.mem_cons, List.not_mem_nil, or_false] at hx
      rcases hx with rfl | rfl | rfl | rfl | rfl | rfl | rfl | rfl | rfl | rfl | rfl | rfl | rfl | rfl | rfl | rfl | rfl
      · exact night_no _ (by decide)
      · exact night_no _ (by simp [eL, tyName])
      · exact night_len _ (by simp)
      · exact night_len _ (by simp)
      · rw [eP2, night_2]; simp [eT]
      · rw [eP2, night_2]; simp [eT]
      · rw [eP2, night_2]; simp [eL]
      · exact night_no _ (by simp [eS, tyName])
      · exact night_no _ (by simp [tyName])
      · rw [eP2, night_2]; simp [isNum]
      · rw [eP2, night_2]; simp [isNum]
      · rw [eP2, night_2]; simp [isNum]
      · rw [eP2, night_2]; simp [isNum]
      · rw [eP2, night_2]; simp [isNum, eT]
      · rw [eP2, night_2]; simp [isNum, eT]
      · rw [eP2, night_2]; simp [isNum, eT]
      · rw [eP2, night_2]; simp [isNum, eT]
    rw [this]
    rfl)]
  simp only [Option.bind_some]
  rw [show eqA (eL eA []) (eL eI []) = some true from rfl]
  simp only [Option.bind_some, Bool.not_true, Bool.false_eq_true, if_false]
  rw [rng_nat (by omega)]
  simp only [Option.bind_some]
  rw [own_ok h1 hn d1]
  simp only [Option.bind_some]
  rw [fewest_ok h1 hn]
  simp only [Option.bind_some]
  rw [alk_ok (deepI (by omega))]
  simp only [Option.bind_some, Bool.not_true, Bool.false_eq_true, if_false]
  have hR : isR ns d (gr ns d ns.length) = true := isR_iff.mpr fun k hk => gr_ok d1 hk
  rw [law_rota h1 (by omega), is_rota_ok h1 (by omega) (gr_sorted _) gm, hR]
  simp only [Option.bind_some, Bool.not_true, Bool.false_eq_true, if_false, decide_true]
  rw [rows_ok h1, Option.bind_some, sums_ok h1, Option.bind_some]
  obtain ⟨r, hr, br⟩ := apart_ok h1 d1 d2
  rw [min_ok h1 d1 br, Option.bind_some, hr, Option.bind_some]
  have w := best_wt h1 hn d1 br
  have rl : r.length ≤ 8 := by
    obtain ⟨r0, e, w, _⟩ := br
    obtain rfl : r = r0 := congrArg Prod.snd e
    have := w.len d1
    omega
  rw [alk_ok (deepI (by omega)), Option.bind_some, if_neg (by simp; omega)]
  rw [show (5 : Int) = ((5 : Nat) : Int) by rfl, rng_nat (by omega), Option.bind_some]
  obtain ⟨s, hs⟩ := turns_ok l1 h1 hn d1 m1 m1
  rw [hs]
  simp only [Option.bind_some, rsO]
  rw [cmpO_map (fun x : Option Int => ((gr ns d ns.length).dropLast.map (fun z => some z) ++ [x])) (fun x _ => by
    rw [cutN_init, catN_ok (by simp; omega)]
    rfl) (by simp)]
  simp only [Option.bind_some]
  rw [catN_ok (by simp)]
  simp only [Option.bind_some]
  rw [catN_ok (by simp; omega)]
  simp only [Option.bind_some]
  generalize hG : gr ns d ns.length = G at *
  have hq : ∃ q : Bool, (if (!decide (G = [])) = true then (atI G (-1)).bind fun t193 => some (decide (0 < t193)) else some false) = some q ∧ (q = true → ∃ h : G ≠ [], 0 < G.getLast h) := by
    by_cases z : G = []
    · subst z
      exact ⟨false, rfl, by simp⟩
    · rw [if_pos (by simpa using z), Cn.atI_last, List.getLast?_eq_some_getLast z]
      exact ⟨_, rfl, fun h => ⟨z, by simpa using h⟩⟩
  obtain ⟨q, hq, qh⟩ := hq
  rw [hq, Option.bind_some, repN1 (by split <;> omega) (by split <;> omega), Option.bind_some, catN_ok (by simp; split <;> omega), Option.bind_some]
  have num_out : ∀ x : PyData, x ∈ [PyData.int (ns.length : Int), .int (-1), .none] → isNum x 0 ((ns.length : Int) - 1) = false := by
    intro x hx
    simp only [List.mem_cons, List.not_mem_nil, or_false] at hx
    rcases hx with rfl | rfl | rfl <;> simp [isNum]
    omega
  rw [cmpO_nil (fun x hx => by
    have : n_is_rota_2 (ns, d) x = some false := by
      simp only [List.map_cons, List.map_nil, List.cons_append, List.nil_append, List.mem_cons, List.mem_append, List.mem_map, List.mem_replicate] at hx
      rcases hx with rfl | rfl | rfl | rfl | rfl | rfl | rfl | rfl | rfl | rfl | ⟨y, ⟨hc, rfl⟩, rfl⟩
      · exact rota_no _ (by simp [tyName])
      · exact rota_no _ (by simp [eL, tyName])
      · exact rota_bad _ (by simp [isNum]; omega)
      · exact rota_bad _ (by simp [isNum])
      · exact rota_bad _ (by simp [isNum])
      · exact rota_no _ (by simp [eS, tyName])
      · exact rota_no _ (by simp [tyName])
      · refine rota_bad _ ?_
        rw [List.all_eq_false]
        exact ⟨.int ns.length, by simp [eO], by simp [isNum]; omega⟩
      · refine rota_bad _ ?_
        rw [List.all_eq_false]
        exact ⟨.int (-1), by simp [eO], by simp [isNum]⟩
      · refine rota_bad _ ?_
        rw [List.all_eq_false]
        exact ⟨.none, by simp [eO], by simp [isNum]⟩
      · cases q with
        | false => simp at hc
        | true =>
          obtain ⟨hne, hpos⟩ := qh rfl
          exact rota_down G hne hpos (by omega) gm l1
    rw [this]
    rfl)]
  simp only [Option.bind_some]
  rw [show eqA (eL eA []) (eL eI []) = some true from rfl]
  simp only [Option.bind_some, Bool.not_true, Bool.false_eq_true, if_false]
  rw [repN1 (by split <;> omega) (by split <;> omega), Option.bind_some, catN_ok (by simp; split <;> omega), Option.bind_some]
  rw [cmpO_nil (fun x hx => by
    have : n_are_apart_2 (ns, d) x = some false := by
      simp only [List.map_cons, List.map_nil, List.cons_append, List.nil_append, List.mem_cons, List.mem_append, List.mem_map, List.mem_replicate] at hx
      rcases hx with rfl | rfl | rfl | rfl | rfl | rfl | rfl | rfl | rfl | ⟨y, ⟨hc, rfl⟩, rfl⟩
      · exact apart_no _ (by simp [tyName])
      · exact apart_no _ (by simp [eL, tyName])
      · exact apart_bad _ (by simp [isNum]; omega)
      · exact apart_bad _ (by simp [isNum])
      · exact apart_bad _ (by simp [isNum])
      · exact apart_down (by omega) (by omega) (by omega)
      · exact apart_bad _ (by simp [isNum])
      · exact apart_no _ (by simp [eS, tyName])
      · exact apart_no _ (by simp [tyName])
      · have : 1 < (ns.length : Int) := by
          by_cases z : (1 : Int) < ns.length
          · exact z
          · rw [if_neg (by simpa using z)] at hc
            simp at hc
        exact apart_down (by omega) (by omega) (by omega)
    rw [this]
    rfl)]
  simp only [Option.bind_some]
  rfl
theorem holds (ns : List Int) (h : ns.length ≤ 63) : f_law [Cf.scrD ns] = .ok (.sh (.bool true)) := by
  obtain ⟨ms, hd⟩ := draws_f ns h
  obtain ⟨r, hr, e⟩ := sim_law hd (n_holds ms)
  rw [hr, show r = _ from e]
end Lw
namespace Lw
open PySem PySem.Spec PyProof.Rows L2 Cf
/-- the law's def, from what the top has written -/
theorem all_mk {l : PySem.W.OpenLaw} {w : World} {K : PySem.W.Frag} {h : Heap} {mg : Str → Option Value} {fl : Addr} (X : K.In h) (G : h.Ns mainGlobals mg) (hfl : mg "law" = some (.ref fl))
    {f0 f1 f2 f3 f4 f5 f6 f7 f8 f9 f10 f11 f12 f13 : Addr}
    {oc0 kV0 dc0 pm0 ct0 cd0 oc1 kV1 dc1 pm1 ct1 oc2 kV2 dc2 pm2 ct2 cd2 oc3 kV3 dc3 pm3 ct3 oc4 kV4 dc4 pm4 ct4 cd4 oc5 kV5 dc5 pm5 ct5 oc6 kV6 dc6 pm6 ct6 cd6 oc7 kV7 dc7 pm7 ct7 cd7 oc8 kV8 dc8 pm8 ct8 cd8 oc9 kV9 dc9 pm9 ct9 cd9 oc10 kV10 dc10 pm10 ct10 cd10 oc11 kV11 dc11 pm11 ct11 cd11 oc12 kV12 dc12 pm12 ct12 cd12 oc13 kV13 dc13 pm13 ct13 cd13 : Value}
    {cc1 pp1 cc3 pp3 cc5 pp5 : Addr} {ce1 ce3 ce5 : Value} {cq1 cq3 cq5 : Option Addr} {vs1 vs3 vs5 : Array Value} {cs1 cs3 cs5 : Array (Option Value)} {q : Program}
    (own : ∀ (y : Str) (f : Addr), ((recsOf q).any fun e => e.name == y) = true → mg y = some (.ref f) → LamX.OwnTab K f h)
    {od0 an0 od1 an1 od2 an2 od3 an3 od4 an4 od5 an5 od6 an6 od7 an7 od8 an8 od9 an9 od10 an10 od11 an11 od12 an12 od13 an13 : Option Addr} {sl0 sl1 sl2 sl3 sl4 sl5 sl6 sl7 sl8 sl9 sl10 sl11 sl12 sl13 : Array (Option Value)}
    (a0 : PySem.W.nsIn K mainGlobals "is_number" = some (some (.ref f0)))
    (l0 : K.lookup f0 = some ⟨oc0, od0, .func (PySem.W.fnOf "is_number" "is_number" (defArgs s_is_number) (defBody s_is_number) (defScope s_is_number) .none kV0 dc0 pm0 an0 cd0 ct0), sl0⟩) (c0 : PySem.W.codeIn K cd0 "is_number" = true) (k0 : PySem.W.keepIn K (.ref f0) = true)
    (a1 : PySem.W.nsIn K mainGlobals "is_night" = some (some (.ref f1)))
    (l1 : K.lookup f1 = some ⟨oc1, od1, .func (PySem.W.fnOf "is_night" "is_night" (defArgs s_is_night) (defBody s_is_night) (defScope s_is_night) .none kV1 dc1 pm1 an1 (.ref cc1) ct1), sl1⟩) (c1 : PySem.W.codeIn K (.ref cc1) "is_night" = true) (k1 : PySem.W.keepIn K (.ref f1) = true)
    (v1 : K.lookup cc1 = some ⟨ce1, cq1, .fields vs1, cs1⟩) (p1 : vs1[11]? = some (.ref pp1)) (h1 : PySem.W.codeHdIn K cc1 pp1 = true) (n1 : K.lookup pp1 = none) (r1 : ((recsOf q).any fun e => e.name == "is_night") = true)
    (a2 : PySem.W.nsIn K mainGlobals "awake_in" = some (some (.ref f2)))
    (l2 : K.lookup f2 = some ⟨oc2, od2, .func (PySem.W.fnOf "awake_in" "awake_in" (defArgs s_awake_in) (defBody s_awake_in) (defScope s_awake_in) .none kV2 dc2 pm2 an2 cd2 ct2), sl2⟩) (c2 : PySem.W.codeIn K cd2 "awake_in" = true) (k2 : PySem.W.keepIn K (.ref f2) = true)
    (a3 : PySem.W.nsIn K mainGlobals "is_rota" = some (some (.ref f3)))
    (l3 : K.lookup f3 = some ⟨oc3, od3, .func (PySem.W.fnOf "is_rota" "is_rota" (defArgs s_is_rota) (defBody s_is_rota) (defScope s_is_rota) .none kV3 dc3 pm3 an3 (.ref cc3) ct3), sl3⟩) (c3 : PySem.W.codeIn K (.ref cc3) "is_rota" = true) (k3 : PySem.W.keepIn K (.ref f3) = true)
    (v3 : K.lookup cc3 = some ⟨ce3, cq3, .fields vs3, cs3⟩) (p3 : vs3[11]? = some (.ref pp3)) (h3 : PySem.W.codeHdIn K cc3 pp3 = true) (n3 : K.lookup pp3 = none) (r3 : ((recsOf q).any fun e => e.name == "is_rota") = true)
    (a4 : PySem.W.nsIn K mainGlobals "fewest_shifts" = some (some (.ref f4)))
    (l4 : K.lookup f4 = some ⟨oc4, od4, .func (PySem.W.fnOf "fewest_shifts" "fewest_shifts" (defArgs s_fewest_shifts) (defBody s_fewest_shifts) (defScope s_fewest_shifts) .none kV4 dc4 pm4 an4 cd4 ct4), sl4⟩) (c4 : PySem.W.codeIn K cd4 "fewest_shifts" = true) (k4 : PySem.W.keepIn K (.ref f4) = true)
    (a5 : PySem.W.nsIn K mainGlobals "are_apart" = some (some (.ref f5)))
    (l5 : K.lookup f5 = some ⟨oc5, od5, .func (PySem.W.fnOf "are_apart" "are_apart" (defArgs s_are_apart) (defBody s_are_apart) (defScope s_are_apart) .none kV5 dc5 pm5 an5 (.ref cc5) ct5), sl5⟩) (c5 : PySem.W.codeIn K (.ref cc5) "are_apart" = true) (k5 : PySem.W.keepIn K (.ref f5) = true)
    (v5 : K.lookup cc5 = some ⟨ce5, cq5, .fields vs5, cs5⟩) (p5 : vs5[11]? = some (.ref pp5)) (h5 : PySem.W.codeHdIn K cc5 pp5 = true) (n5 : K.lookup pp5 = none) (r5 : ((recsOf q).any fun e => e.name == "are_apart") = true)
    (a6 : PySem.W.nsIn K mainGlobals "hours_apart" = some (some (.ref f6)))
    (l6 : K.lookup f6 = some ⟨oc6, od6, .func (PySem.W.fnOf "hours_apart" "hours_apart" (defArgs s_hours_apart) (defBody s_hours_apart) (defScope s_hours_apart) .none kV6 dc6 pm6 an6 cd6 ct6), sl6⟩) (c6 : PySem.W.codeIn K cd6 "hours_apart" = true) (k6 : PySem.W.keepIn K (.ref f6) = true)
    (a7 : PySem.W.nsIn K mainGlobals "_law_draws" = some (some (.ref f7)))
    (l7 : K.lookup f7 = some ⟨oc7, od7, .func (PySem.W.fnOf "_law_draws" "_law_draws" (defArgs s__law_draws) (defBody s__law_draws) (defScope s__law_draws) .none kV7 dc7 pm7 an7 cd7 ct7), sl7⟩) (c7 : PySem.W.codeIn K cd7 "_law_draws" = true) (k7 : PySem.W.keepIn K (.ref f7) = true)
    (a8 : PySem.W.nsIn K mainGlobals "_law_take" = some (some (.ref f8)))
    (l8 : K.lookup f8 = some ⟨oc8, od8, .func (PySem.W.fnOf "_law_take" "_law_take" (defArgs s__law_take) (defBody s__law_take) (defScope s__law_take) .none kV8 dc8 pm8 an8 cd8 ct8), sl8⟩) (c8 : PySem.W.codeIn K cd8 "_law_take" = true) (k8 : PySem.W.keepIn K (.ref f8) = true)
    (a9 : PySem.W.nsIn K mainGlobals "_law_alike" = some (some (.ref f9)))
    (l9 : K.lookup f9 = some ⟨oc9, od9, .func (PySem.W.fnOf "_law_alike" "_law_alike" (defArgs s__law_alike) (defBody s__law_alike) (defScope s__law_alike) .none kV9 dc9 pm9 an9 cd9 ct9), sl9⟩) (c9 : PySem.W.codeIn K cd9 "_law_alike" = true) (k9 : PySem.W.keepIn K (.ref f9) = true)
    (a10 : PySem.W.nsIn K mainGlobals "_law_night" = some (some (.ref f10)))
    (l10 : K.lookup f10 = some ⟨oc10, od10, .func (PySem.W.fnOf "_law_night" "_law_night" (defArgs s__law_night) (defBody s__law_night) (defScope s__law_night) .none kV10 dc10 pm10 an10 cd10 ct10), sl10⟩) (c10 : PySem.W.codeIn K cd10 "_law_night" = true) (k10 : PySem.W.keepIn K (.ref f10) = true)
    (a11 : PySem.W.nsIn K mainGlobals "_law_awake" = some (some (.ref f11)))
    (l11 : K.lookup f11 = some ⟨oc11, od11, .func (PySem.W.fnOf "_law_awake" "_law_awake" (defArgs s__law_awake) (defBody s__law_awake) (defScope s__law_awake) .none kV11 dc11 pm11 an11 cd11 ct11), sl11⟩) (c11 : PySem.W.codeIn K cd11 "_law_awake" = true) (k11 : PySem.W.keepIn K (.ref f11) = true)
    (a12 : PySem.W.nsIn K mainGlobals "_law_is_rota" = some (some (.ref f12)))
    (l12 : K.lookup f12 = some ⟨oc12, od12, .func (PySem.W.fnOf "_law_is_rota" "_law_is_rota" (defArgs s__law_is_rota) (defBody s__law_is_rota) (defScope s__law_is_rota) .none kV12 dc12 pm12 an12 cd12 ct12), sl12⟩) (c12 : PySem.W.codeIn K cd12 "_law_is_rota" = true) (k12 : PySem.W.keepIn K (.ref f12) = true)
    (a13 : PySem.W.nsIn K mainGlobals "law" = some (some (.ref f13)))
    (l13 : K.lookup f13 = some ⟨oc13, od13, .func (PySem.W.fnOf "law" "law" (defArgs s_law) (defBody s_law) (defScope s_law) .none kV13 dc13 pm13 an13 cd13 ct13), sl13⟩) (c13 : PySem.W.codeIn K cd13 "law" = true) (k13 : PySem.W.keepIn K (.ref f13) = true)
    (z_abs : PySem.W.nsIn K mainGlobals "abs" = some none)
    (z_all : PySem.W.nsIn K mainGlobals "all" = some none)
    (z_bool : PySem.W.nsIn K mainGlobals "bool" = some none)
    (z_enumerate : PySem.W.nsIn K mainGlobals "enumerate" = some none)
    (z_int : PySem.W.nsIn K mainGlobals "int" = some none)
    (z_isinstance : PySem.W.nsIn K mainGlobals "isinstance" = some none)
    (z_len : PySem.W.nsIn K mainGlobals "len" = some none)
    (z_list : PySem.W.nsIn K mainGlobals "list" = some none)
    (z_max : PySem.W.nsIn K mainGlobals "max" = some none)
    (z_min : PySem.W.nsIn K mainGlobals "min" = some none)
    (z_range : PySem.W.nsIn K mainGlobals "range" = some none)
    (z_reversed : PySem.W.nsIn K mainGlobals "reversed" = some none)
    (z_sorted : PySem.W.nsIn K mainGlobals "sorted" = some none)
    (z_str : PySem.W.nsIn K mainGlobals "str" = some none)
    (z_sum : PySem.W.nsIn K mainGlobals "sum" = some none)
    (z_tuple : PySem.W.nsIn K mainGlobals "tuple" = some none)
    {t_LONGEST : Tok} (c_LONGEST : PySem.W.nsIn K mainGlobals "LONGEST" = some (some (.int 6 t_LONGEST)))
    {t_MOST_HOURS : Tok} (c_MOST_HOURS : PySem.W.nsIn K mainGlobals "MOST_HOURS" = some (some (.int 12 t_MOST_HOURS)))
    {t_MOST_NEED : Tok} (c_MOST_NEED : PySem.W.nsIn K mainGlobals "MOST_NEED" = some (some (.int 5 t_MOST_NEED)))
    : LamX.LawAtS l w K CX0 14 63 "script" mg fl h := by
  have e := hfl.symm.trans (PySem.W.mg_of X G a13)
  cases e
  let fa : Nat → Addr := fun n => [0, f0, 0, 0, 0, 0, f1, f2, f3, f4, f5, f6, 0, f7, f8, f9, f10, f11, f12, fl].getD n 0
  have F0 := fun_mk (st := s_is_number) l0 c0 k0
  have F1 := fun_mk (st := s_is_night) l1 c1 k1
  have F2 := fun_mk (st := s_awake_in) l2 c2 k2
  have F3 := fun_mk (st := s_is_rota) l3 c3 k3
  have F4 := fun_mk (st := s_fewest_shifts) l4 c4 k4
  have F5 := fun_mk (st := s_are_apart) l5 c5 k5
  have F6 := fun_mk (st := s_hours_apart) l6 c6 k6
  have F7 := fun_mk (st := s__law_draws) l7 c7 k7
  have F8 := fun_mk (st := s__law_take) l8 c8 k8
  have F9 := fun_mk (st := s__law_alike) l9 c9 k9
  have F10 := fun_mk (st := s__law_night) l10 c10 k10
  have F11 := fun_mk (st := s__law_awake) l11 c11 k11
  have F12 := fun_mk (st := s__law_is_rota) l12 c12 k12
  have F13 := fun_mk (st := s_law) l13 c13 k13
  let fd : Nat → FuncData := fun n => [PySem.W.fnOf "is_number" "is_number" (defArgs s_is_number) (defBody s_is_number) (defScope s_is_number) .none kV0 dc0 pm0 an0 cd0 ct0, PySem.W.fnOf "is_number" "is_number" (defArgs s_is_number) (defBody s_is_number) (defScope s_is_number) .none kV0 dc0 pm0 an0 cd0 ct0, PySem.W.fnOf "is_number" "is_number" (defArgs s_is_number) (defBody s_is_number) (defScope s_is_number) .none kV0 dc0 pm0 an0 cd0 ct0, PySem.W.fnOf "is_number" "is_number" (defArgs s_is_number) (defBody s_is_number) (defScope s_is_number) .none kV0 dc0 pm0 an0 cd0 ct0, PySem.W.fnOf "is_number" "is_number" (defArgs s_is_number) (defBody s_is_number) (defScope s_is_number) .none kV0 dc0 pm0 an0 cd0 ct0, PySem.W.fnOf "is_number" "is_number" (defArgs s_is_number) (defBody s_is_number) (defScope s_is_number) .none kV0 dc0 pm0 an0 cd0 ct0, PySem.W.fnOf "is_night" "is_night" (defArgs s_is_night) (defBody s_is_night) (defScope s_is_night) .none kV1 dc1 pm1 an1 (.ref cc1) ct1, PySem.W.fnOf "awake_in" "awake_in" (defArgs s_awake_in) (defBody s_awake_in) (defScope s_awake_in) .none kV2 dc2 pm2 an2 cd2 ct2, PySem.W.fnOf "is_rota" "is_rota" (defArgs s_is_rota) (defBody s_is_rota) (defScope s_is_rota) .none kV3 dc3 pm3 an3 (.ref cc3) ct3, PySem.W.fnOf "fewest_shifts" "fewest_shifts" (defArgs s_fewest_shifts) (defBody s_fewest_shifts) (defScope s_fewest_shifts) .none kV4 dc4 pm4 an4 cd4 ct4, PySem.W.fnOf "are_apart" "are_apart" (defArgs s_are_apart) (defBody s_are_apart) (defScope s_are_apart) .none kV5 dc5 pm5 an5 (.ref cc5) ct5, PySem.W.fnOf "hours_apart" "hours_apart" (defArgs s_hours_apart) (defBody s_hours_apart) (defScope s_hours_apart) .none kV6 dc6 pm6 an6 cd6 ct6, PySem.W.fnOf "is_number" "is_number" (defArgs s_is_number) (defBody s_is_number) (defScope s_is_number) .none kV0 dc0 pm0 an0 cd0 ct0, PySem.W.fnOf "_law_draws" "_law_draws" (defArgs s__law_draws) (defBody s__law_draws) (defScope s__law_draws) .none kV7 dc7 pm7 an7 cd7 ct7, PySem.W.fnOf "_law_take" "_law_take" (defArgs s__law_take) (defBody s__law_take) (defScope s__law_take) .none kV8 dc8 pm8 an8 cd8 ct8, PySem.W.fnOf "_law_alike" "_law_alike" (defArgs s__law_alike) (defBody s__law_alike) (defScope s__law_alike) .none kV9 dc9 pm9 an9 cd9 ct9, PySem.W.fnOf "_law_night" "_law_night" (defArgs s__law_night) (defBody s__law_night) (defScope s__law_night) .none kV10 dc10 pm10 an10 cd10 ct10, PySem.W.fnOf "_law_awake" "_law_awake" (defArgs s__law_awake) (defBody s__law_awake) (defScope s__law_awake) .none kV11 dc11 pm11 an11 cd11 ct11, PySem.W.fnOf "_law_is_rota" "_law_is_rota" (defArgs s__law_is_rota) (defBody s__law_is_rota) (defScope s__law_is_rota) .none kV12 dc12 pm12 an12 cd12 ct12, PySem.W.fnOf "law" "law" (defArgs s_law) (defBody s_law) (defScope s_law) .none kV13 dc13 pm13 an13 cd13 ct13].getD n (PySem.W.fnOf "is_number" "is_number" (defArgs s_is_number) (defBody s_is_number) (defScope s_is_number) .none kV0 dc0 pm0 an0 cd0 ct0)
  let ca : Nat → Addr := fun n => [0, 0, 0, 0, 0, 0, cc1, 0, cc3, 0, cc5, 0, 0, 0, 0, 0, 0, 0, 0, 0].getD n 0
  let pa : Nat → Addr := fun n => [0, 0, 0, 0, 0, 0, pp1, 0, pp3, 0, pp5, 0, 0, 0, 0, 0, 0, 0, 0, 0].getD n 0
  refine ⟨PySem.W.fnOf "law" "law" (defArgs s_law) (defBody s_law) (defScope s_law) .none kV13 dc13 pm13 an13 cd13 ct13, [(cc1, pp1), (cc3, pp3), (cc5, pp5)], sp0 K [pp1, pp3, pp5] 1 f_law, ?_, ?_, ?_, fun s v => .of_eq rfl, fun H a ns hl _ hT hS => law_sp (Lw.holds ns hl) hS (fun P hP => by
    obtain ⟨p, hp, e⟩ := List.mem_map.mp (show P ∈ ([(cc1, pp1), (cc3, pp3), (cc5, pp5)] : List (Addr × Addr)).map (·.2) from hP)
    rw [← e]
    exact hT p hp), fun base _ _ TB => ?_⟩
  · exact List.forall_mem_cons.mpr ⟨own "is_night" f1 r1 (PySem.W.mg_of X G a1) cc1 pp1 _ _ _ _ _ _ l1 rfl rfl v1 p1, List.forall_mem_cons.mpr ⟨own "is_rota" f3 r3 (PySem.W.mg_of X G a3) cc3 pp3 _ _ _ _ _ _ l3 rfl rfl v3 p3, List.forall_mem_cons.mpr ⟨own "are_apart" f5 r5 (PySem.W.mg_of X G a5) cc5 pp5 _ _ _ _ _ _ l5 rfl rfl v5 p5, fun _ z => absurd z (by simp)⟩⟩⟩
  · exact List.forall_mem_cons.mpr ⟨n1, List.forall_mem_cons.mpr ⟨n3, List.forall_mem_cons.mpr ⟨n5, fun _ z => absurd z (by simp)⟩⟩⟩
  · exact List.forall_mem_cons.mpr ⟨PySem.W.codeHd_of_K X h1, List.forall_mem_cons.mpr ⟨PySem.W.codeHd_of_K X h3, List.forall_mem_cons.mpr ⟨PySem.W.codeHd_of_K X h5, fun _ z => absurd z (by simp)⟩⟩⟩
  have T : Tx K mg base [pp1, pp3, pp5] fa fd ca pa :=
    ⟨F0,
      F0.binds (ps := ["value", "least", "most"]) fun _ _ _ _ _ _ us hl => match us, hl with | [_, _, _], _ => rfl,
      PySem.W.mg_of X G a0,
      F1,
      F1.binds (ps := ["value"]) fun _ _ _ _ _ _ us hl => match us, hl with | [_], _ => rfl,
      PySem.W.mg_of X G a1,
      (let t := TB (cc1, pp1) (by simp); ⟨t.code, t.bm, t.gP⟩),
      (by simp [pa]),
      rfl,
      F2,
      F2.binds (ps := ["night", "begins", "hour"]) fun _ _ _ _ _ _ us hl => match us, hl with | [_, _, _], _ => rfl,
      PySem.W.mg_of X G a2,
      F3,
      F3.binds (ps := ["night", "value"]) fun _ _ _ _ _ _ us hl => match us, hl with | [_, _], _ => rfl,
      PySem.W.mg_of X G a3,
      (let t := TB (cc3, pp3) (by simp); ⟨t.code, t.bm, t.gP⟩),
      (by simp [pa]),
      rfl,
      F4,
      F4.binds (ps := ["night"]) fun _ _ _ _ _ _ us hl => match us, hl with | [_], _ => rfl,
      PySem.W.mg_of X G a4,
      F5,
      F5.binds (ps := ["night", "value"]) fun _ _ _ _ _ _ us hl => match us, hl with | [_, _], _ => rfl,
      PySem.W.mg_of X G a5,
      (let t := TB (cc5, pp5) (by simp); ⟨t.code, t.bm, t.gP⟩),
      (by simp [pa]),
      rfl,
      F6,
      F6.binds (ps := ["night"]) fun _ _ _ _ _ _ us hl => match us, hl with | [_], _ => rfl,
      PySem.W.mg_of X G a6,
      F7,
      F7.binds (ps := ["script"]) fun _ _ _ _ _ _ us hl => match us, hl with | [_], _ => rfl,
      PySem.W.mg_of X G a7,
      F8,
      F8.binds (ps := ["draws", "bound"]) fun _ _ _ _ _ _ us hl => match us, hl with | [_, _], _ => rfl,
      PySem.W.mg_of X G a8,
      F9,
      F9.binds (ps := ["found", "due"]) fun _ _ _ _ _ _ us hl => match us, hl with | [_, _], _ => rfl,
      PySem.W.mg_of X G a9,
      F10,
      F10.binds (ps := ["draws"]) fun _ _ _ _ _ _ us hl => match us, hl with | [_], _ => rfl,
      PySem.W.mg_of X G a10,
      F11,
      F11.binds (ps := ["night", "row", "hour"]) fun _ _ _ _ _ _ us hl => match us, hl with | [_, _, _], _ => rfl,
      PySem.W.mg_of X G a11,
      F12,
      F12.binds (ps := ["night", "row"]) fun _ _ _ _ _ _ us hl => match us, hl with | [_, _], _ => rfl,
      PySem.W.mg_of X G a12,
      F13,
      F13.binds (ps := ["script"]) fun _ _ _ _ _ _ us hl => match us, hl with | [_], _ => rfl,
      PySem.W.mg_of X G a13,
      PySem.W.mg_none_of X G z_abs,
      PySem.W.mg_none_of X G z_all,
      PySem.W.mg_none_of X G z_bool,
      PySem.W.mg_none_of X G z_enumerate,
      PySem.W.mg_none_of X G z_int,
      PySem.W.mg_none_of X G z_isinstance,
      PySem.W.mg_none_of X G z_len,
      PySem.W.mg_none_of X G z_list,
      PySem.W.mg_none_of X G z_max,
      PySem.W.mg_none_of X G z_min,
      PySem.W.mg_none_of X G z_range,
      PySem.W.mg_none_of X G z_reversed,
      PySem.W.mg_none_of X G z_sorted,
      PySem.W.mg_none_of X G z_str,
      PySem.W.mg_none_of X G z_sum,
      PySem.W.mg_none_of X G z_tuple,
      ⟨_, PySem.W.mg_of X G c_LONGEST⟩,
      ⟨_, PySem.W.mg_of X G c_MOST_HOURS⟩,
      ⟨_, PySem.W.mg_of X G c_MOST_NEED⟩⟩
  exact ok_law (fa := fa) (fd := fd) (ca := ca) (pa := pa) T
end Lw
open PySem PySem.W PyProof.Rows
set_option maxHeartbeats 0 in
theorem PySem.Challenge.cw_coastlit_k61_whole_shifts_of_a_night_holds : PySem.Challenge.rw_coastlit_k61_whole_shifts_of_a_night.Holds := by
  w_on; o_law; k_head; (case hw => w_witness2)
  k_fill
  refine Cf.walk_owns (l := PySem.Challenge.rw_coastlit_k61_whole_shifts_of_a_night) (n := 63) (k := 14) (x := "script") (CX := fun _ => L2.CX0) rfl (by decide) rfl ⟨rfl, by decide, by decide⟩ (fun w h Y => PySem.W.kIn_of Y) ?F (fun _ _ _ _ _ h => h)
  case F =>
    intro w mg fa h KX G hmg own
    refine' Lw.all_mk KX G hmg own ?a0 ?l0 ?c0 ?k0 ?a1 ?l1 ?c1 ?k1 ?v1 ?p1 ?h1 ?n1 ?r1 ?a2 ?l2 ?c2 ?k2 ?a3 ?l3 ?c3 ?k3 ?v3 ?p3 ?h3 ?n3 ?r3 ?a4 ?l4 ?c4 ?k4 ?a5 ?l5 ?c5 ?k5 ?v5 ?p5 ?h5 ?n5 ?r5 ?a6 ?l6 ?c6 ?k6 ?a7 ?l7 ?c7 ?k7 ?a8 ?l8 ?c8 ?k8 ?a9 ?l9 ?c9 ?k9 ?a10 ?l10 ?c10 ?k10 ?a11 ?l11 ?c11 ?k11 ?a12 ?l12 ?c12 ?k12 ?a13 ?l13 ?c13 ?k13 ?z_abs ?z_all ?z_bool ?z_enumerate ?z_int ?z_isinstance ?z_len ?z_list ?z_max ?z_min ?z_range ?z_reversed ?z_sorted ?z_str ?z_sum ?z_tuple ?c_LONGEST ?c_MOST_HOURS ?c_MOST_NEED
    (case a0 => k_is)
    (case l0 => k_is)
    (case c0 => k_is)
    (case k0 => k_is)
    (case a1 => k_is)
    (case l1 => k_is)
    (case c1 => k_is)
    (case k1 => k_is)
    (case v1 => k_is)
    (case p1 => rfl)
    (case h1 => kernel_rfl)
    (case n1 => kernel_rfl)
    (case r1 => first | rfl | decide +kernel)
    (case a2 => k_is)
    (case l2 => k_is)
    (case c2 => k_is)
    (case k2 => k_is)
    (case a3 => k_is)
    (case l3 => k_is)
    (case c3 => k_is)
    (case k3 => k_is)
    (case v3 => k_is)
    (case p3 => rfl)
    (case h3 => kernel_rfl)
    (case n3 => kernel_rfl)
    (case r3 => first | rfl | decide +kernel)
    (case a4 => k_is)
    (case l4 => k_is)
    (case c4 => k_is)
    (case k4 => k_is)
    (case a5 => k_is)
    (case l5 => k_is)
    (case c5 => k_is)
    (case k5 => k_is)
    (case v5 => k_is)
    (case p5 => rfl)
    (case h5 => kernel_rfl)
    (case n5 => kernel_rfl)
    (case r5 => first | rfl | decide +kernel)
    (case a6 => k_is)
    (case l6 => k_is)
    (case c6 => k_is)
    (case k6 => k_is)
    (case a7 => k_is)
    (case l7 => k_is)
    (case c7 => k_is)
    (case k7 => k_is)
    (case a8 => k_is)
    (case l8 => k_is)
    (case c8 => k_is)
    (case k8 => k_is)
    (case a9 => k_is)
    (case l9 => k_is)
    (case c9 => k_is)
    (case k9 => k_is)
    (case a10 => k_is)
    (case l10 => k_is)
    (case c10 => k_is)
    (case k10 => k_is)
    (case a11 => k_is)
    (case l11 => k_is)
    (case c11 => k_is)
    (case k11 => k_is)
    (case a12 => k_is)
    (case l12 => k_is)
    (case c12 => k_is)
    (case k12 => k_is)
    (case a13 => k_is)
    (case l13 => k_is)
    (case c13 => k_is)
    (case k13 => k_is)
    (case z_abs => k_is)
    (case z_all => k_is)
    (case z_bool => k_is)
    (case z_enumerate => k_is)
    (case z_int => k_is)
    (case z_isinstance => k_is)
    (case z_len => k_is)
    (case z_list => k_is)
    (case z_max => k_is)
    (case z_min => k_is)
    (case z_range => k_is)
    (case z_reversed => k_is)
    (case z_sorted => k_is)
    (case z_str => k_is)
    (case z_sum => k_is)
    (case z_tuple => k_is)
    (case c_LONGEST => k_is)
    (case c_MOST_HOURS => k_is)
    (case c_MOST_NEED => k_is)
