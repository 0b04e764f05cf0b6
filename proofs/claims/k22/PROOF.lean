import PyProof.Rows.All
import HandS.ForMost
import HandS.IsInst
import HandS.Style
import HandS.TupAny
import HandS.TupLe
import HandS.TupMul
import HandS.Deep
import HandS.Wide
import HandS.Walk
import HandS.Rev
import HandS.AnyAll
import HandS.GenList
import HandS.EndOwn
import KE.GoesEnum
import KE.GoesZip
import HandS.Gcd
import HandS.SortInts
import HandS.SortRule
import KE.SortCalls
import KE.DataMinMax
import KE.KTupSum
import KE.SortKeyed
import HandS.WideBits
import PySem.Challenge.RW_coastlit_k22_whole_fixes_on_the_run
set_option Elab.async false
set_option linter.all false
set_option maxRecDepth 100000
set_option maxHeartbeats 4000000
/-! Cf, part A: programs as functions of data: slots, results, the relation to the heap. -/
namespace Cf
open PySem PySem.Spec PyProof.Rows L2

/-- the same, but the kernel does not look into it -/
noncomputable def hide {α : Type} (a : α) : α := Classical.choose (⟨a, rfl⟩ : ∃ b, b = a)
theorem hide_eq {α : Type} (a : α) : hide a = a := Classical.choose_spec (⟨a, rfl⟩ : ∃ b, b = a)
/-- what a slot holds: nothing known, a datum that stands still, a list of our own (lent: by its number) -/
inductive Sl where
  | un
  | sh (d : PyData)
  | own (t : Option Nat) (ds : List PyData)
abbrev Fv := List Sl
/-- what an expression hands on: a datum that stands still, a new list, the list of slot i -/
inductive Rv where
  | sh (d : PyData)
  | fr (ds : List PyData)
  | sl (i : Nat)
inductive Res (α : Type) where
  | ok (a : α) (e : Fv)
  | exc (c : Nat) (e : Fv)
  | stuck
def Mo (α : Type) : Type := Fv → Res α
def Mo.bind {α β : Type} (m : Mo α) (k : α → Mo β) : Mo β := fun e => match m e with
  | .ok a e' => k a e'
  | .exc c e' => .exc c e'
  | .stuck => .stuck
def Mo.pure {α : Type} (a : α) : Mo α := fun e => .ok a e
instance : Monad Mo where
  pure := Mo.pure
  bind := Mo.bind
def stuckM {α : Type} : Mo α := fun _ => .stuck
def liftO {α : Type} : Option α → Mo α
  | some a => pure a
  | none => stuckM
/-- the weakest condition -/
def wpM {α : Type} (m : Mo α) (e : Fv) (Q : α → Fv → Prop) (E : Nat → Fv → Prop) : Prop := match m e with
  | .ok a e' => Q a e'
  | .exc c e' => E c e'
  | .stuck => False
section
variable {α β : Type} {m : Mo α} {k : α → Mo β} {e : Fv} {E : Nat → Fv → Prop}
theorem bind_eq (m : Mo α) (k : α → Mo β) : (m >>= k) = Mo.bind m k := rfl
theorem pure_eq (a : α) : (pure a : Mo α) = Mo.pure a := rfl
theorem wpM_bind {Q : β → Fv → Prop} : wpM (m >>= k) e Q E ↔ wpM m e (fun a e' => wpM (k a) e' Q E) E := by
  show wpM (Mo.bind m k) e Q E ↔ _
  unfold wpM Mo.bind
  cases m e <;> exact Iff.rfl
theorem wpM_pure {a : α} {Q : α → Fv → Prop} : wpM (pure a) e Q E ↔ Q a e := Iff.rfl
theorem wpM_mono {Q Q' : α → Fv → Prop} {E' : Nat → Fv → Prop} (h : wpM m e Q E) (hQ : ∀ a e', Q a e' → Q' a e') (hE : ∀ c e', E c e' → E' c e') : wpM m e Q' E' := by
  unfold wpM at *
  cases q : m e with
  | ok a e' => rw [q] at h; exact hQ _ _ h
  | exc c e' => rw [q] at h; exact hE _ _ h
  | stuck => rw [q] at h; exact h
theorem wpM_lift {o : Option α} {Q : α → Fv → Prop} (h : wpM (liftO o) e Q E) : ∃ a, o = some a ∧ Q a e := by
  cases o with
  | none => exact h.elim
  | some a => exact ⟨a, rfl, h⟩
end

/-! ### the heap -/
/-- what stands still is part of the heap -/
def Sub (G H : Hp) : Prop := ∀ b o, G b = some o → H b = some o
theorem Sub.refl {G : Hp} : Sub G G := fun _ _ h => h
theorem Sub.trans {G H J : Hp} (a : Sub G H) (b : Sub H J) : Sub G J := fun c o h => b c o (a c o h)
theorem Sub.rd {G H : Hp} (s : Sub G H) {a : Addr} {o : HO} (h : Rd G a o) : Rd H a o := by
  rcases h with h | ⟨x, h⟩
  · exact .inl (s _ _ h)
  · exact .inr ⟨x, s _ _ h⟩
theorem Sub.sqL {K : PySem.W.Frag} {G H : Hp} (s : Sub G H) {a : Addr} {xs : List V} (h : SqL K G a xs) : SqL K H a xs := h.imp s.rd id
theorem Sub.sqT {K : PySem.W.Frag} {G H : Hp} (s : Sub G H) {a : Addr} {xs : List V} (h : SqT K G a xs) : SqT K H a xs := h.imp s.rd id

mutual
/-- the value v stands for the datum d while G stands; the law's own list has a mark of its own -/
inductive Dq (K : PySem.W.Frag) (G : Hp) : V → PyData → Prop
  | non : Dq K G .non .none
  | bl (b : Bool) : Dq K G (.bl b) (.bool b)
  | int (i : Int) : Dq K G (.int i) (.int i)
  | str (x : Str) : Dq K G (.str x) (.str x)
  | lst {a : Addr} {xs : List V} {ds : List PyData} : G a = some (.lst xs) → DqAll K G xs ds → Dq K G (.ref a) (.list ds)
  | tup {a : Addr} {xs : List V} {ds : List PyData} : SqT K G a xs → DqAll K G xs ds → Dq K G (.ref a) (.tuple ds)
  | scr {a : Addr} {xs : List V} {ds : List PyData} : SqL K G a xs → DqAll K G xs ds → Dq K G (.ref a) (.dict [(.none, .list ds)])
inductive DqAll (K : PySem.W.Frag) (G : Hp) : List V → List PyData → Prop
  | nil : DqAll K G [] []
  | cons {v : V} {vs : List V} {d : PyData} {ds : List PyData} : Dq K G v d → DqAll K G vs ds → DqAll K G (v :: vs) (d :: ds)
end
theorem DqAll.length {K : PySem.W.Frag} {H : Hp} : ∀ {vs : List V} {ds : List PyData}, DqAll K H vs ds → vs.length = ds.length
  | _, _, .nil => rfl
  | _, _, .cons _ t => by simp [DqAll.length t]
theorem DqAll.get {K : PySem.W.Frag} {H : Hp} : ∀ {vs : List V} {ds : List PyData} {i : Nat} {d : PyData}, DqAll K H vs ds → ds[i]? = some d → ∃ v, vs[i]? = some v ∧ Dq K H v d
  | _, _, _, _, .nil, e => by simp at e
  | _, _, 0, _, .cons r _, e => by simp at e; subst e; exact ⟨_, rfl, r⟩
  | _, _, i + 1, d, .cons _ t, e => by
    obtain ⟨v, h1, h2⟩ := DqAll.get (i := i) (d := d) t (by simpa using e)
    exact ⟨v, by simpa using h1, h2⟩
theorem DqAll.getV {K : PySem.W.Frag} {H : Hp} : ∀ {vs : List V} {ds : List PyData} {i : Nat} {v : V}, DqAll K H vs ds → vs[i]? = some v → ∃ d, ds[i]? = some d ∧ Dq K H v d
  | _, _, _, _, .nil, e => by simp at e
  | _, _, 0, _, .cons r _, e => by simp at e; subst e; exact ⟨_, rfl, r⟩
  | _, _, i + 1, d, .cons _ t, e => by
    obtain ⟨v, h1, h2⟩ := DqAll.getV (i := i) (v := d) t (by simpa using e)
    exact ⟨v, by simpa using h1, h2⟩
theorem DqAll.append {K : PySem.W.Frag} {H : Hp} : ∀ {vs ws : List V} {ds es : List PyData}, DqAll K H vs ds → DqAll K H ws es → DqAll K H (vs ++ ws) (ds ++ es)
  | _, _, _, _, .nil, s => s
  | _, _, _, _, .cons r t, s => .cons r (DqAll.append t s)
theorem DqAll.take {K : PySem.W.Frag} {H : Hp} : ∀ {vs : List V} {ds : List PyData} (n : Nat), DqAll K H vs ds → DqAll K H (vs.take n) (ds.take n)
  | _, _, 0, _ => .nil
  | _, _, _ + 1, .nil => .nil
  | _, _, n + 1, .cons r t => .cons r (DqAll.take n t)
theorem DqAll.drop {K : PySem.W.Frag} {H : Hp} : ∀ {vs : List V} {ds : List PyData} (n : Nat), DqAll K H vs ds → DqAll K H (vs.drop n) (ds.drop n)
  | _, _, 0, r => r
  | _, _, _ + 1, .nil => .nil
  | _, _, n + 1, .cons _ t => DqAll.drop n t
theorem DqAll.set {K : PySem.W.Frag} {H : Hp} {v : V} {d : PyData} (r : Dq K H v d) : ∀ {vs : List V} {ds : List PyData} (n : Nat), DqAll K H vs ds → DqAll K H (vs.set n v) (ds.set n d)
  | _, _, _, .nil => .nil
  | _, _, 0, .cons _ t => .cons r t
  | _, _, n + 1, .cons q t => .cons q (DqAll.set r n t)
theorem DqAll.reverse {K : PySem.W.Frag} {H : Hp} : ∀ {vs : List V} {ds : List PyData}, DqAll K H vs ds → DqAll K H vs.reverse ds.reverse
  | _, _, .nil => .nil
  | _, _, .cons r t => by
    rw [List.reverse_cons, List.reverse_cons]
    exact (DqAll.reverse t).append (.cons r .nil)
theorem DqAll.dropLast {K : PySem.W.Frag} {H : Hp} {vs : List V} {ds : List PyData} (h : DqAll K H vs ds) : DqAll K H vs.dropLast ds.dropLast := by
  rw [List.dropLast_eq_take, List.dropLast_eq_take, h.length]
  exact h.take _
theorem DqAll.rep {K : PySem.W.Frag} {H : Hp} {vs : List V} {ds : List PyData} (h : DqAll K H vs ds) : ∀ k : Nat, DqAll K H (List.replicate k vs).flatten (List.replicate k ds).flatten
  | 0 => .nil
  | k + 1 => by
    rw [List.replicate_succ, List.replicate_succ, List.flatten_cons, List.flatten_cons]
    exact h.append (h.rep k)

mutual
theorem Sub.dq {K : PySem.W.Frag} {G H : Hp} (s : Sub G H) : ∀ (d : PyData) (v : V), Dq K G v d → Dq K H v d
  | .none, _, h => by cases h; exact .non
  | .bool b, _, h => by cases h; exact .bl b
  | .int i, _, h => by cases h; exact .int i
  | .str x, _, h => by cases h; exact .str x
  | .list ds, _, h => by
    cases h with
    | lst h1 h2 => exact .lst (s _ _ h1) (Sub.dqAll s ds _ h2)
  | .tuple ds, _, h => by
    cases h with
    | tup h1 h2 => exact .tup (s.sqT h1) (Sub.dqAll s ds _ h2)
  | .dict kvs, _, h => by
    cases h with
    | scr h1 h2 => exact .scr (s.sqL h1) (Sub.dqAll s _ _ h2)
theorem Sub.dqAll {K : PySem.W.Frag} {G H : Hp} (s : Sub G H) : ∀ (ds : List PyData) (vs : List V), DqAll K G vs ds → DqAll K H vs ds
  | [], _, h => by cases h; exact .nil
  | d :: ds, _, h => by
    cases h with
    | cons h1 h2 => exact .cons (Sub.dq s d _ h1) (Sub.dqAll s ds _ h2)
end
/-- a value to be read now: a list may be our own -/
def Pk (K : PySem.W.Frag) (H G : Hp) (v : V) : PyData → Prop
  | .list ds => ∃ a xs, v = .ref a ∧ H a = some (.lst xs) ∧ DqAll K G xs ds
  | d => Dq K G v d
theorem Pk.of {K : PySem.W.Frag} {H G : Hp} (s : Sub G H) {v : V} {d : PyData} (h : Dq K G v d) : Pk K H G v d := by
  cases d with
  | list ds =>
    cases h with
    | lst h1 h2 => exact ⟨_, _, rfl, s _ _ h1, h2⟩
  | _ => exact h
theorem Pk.dq {K : PySem.W.Frag} {H G : Hp} (s : Sub G H) {v : V} {d : PyData} (h : Pk K H G v d) : Dq K H v d := by
  cases d with
  | list ds =>
    obtain ⟨a, xs, rfl, h1, h2⟩ := h
    exact .lst h1 (Sub.dqAll s _ _ h2)
  | _ => exact Sub.dq s _ _ h

/-- a def's table of code objects -/
def TabOk (H : Hp) (P : Addr) : Prop := ∃ ps : Array Value, H P = some (.tbl ps) ∧ TriplesOk ps.toList

/-- a run's frame: what must stay, the lists lent, the tables, what is wanted where class c is raised -/
structure Fr where
  prot : Hp
  muts : List Addr
  tabs : List Addr
  W : Nat → Hp → Prop

def TagOk (l : List Addr) (a : Addr) : Option Nat → Prop
  | none => a ∉ l
  | some k => l[k]? = some a
def SlOk (K : PySem.W.Frag) (fr : Fr) (H G : Hp) (v : Option V) : Sl → Prop
  | .un => True
  | .sh d => ∃ x, v = some x ∧ Dq K G x d
  | .own t ds => ∃ a xs, v = some (.ref a) ∧ H a = some (.lst xs) ∧ DqAll K G xs ds ∧ G a = none ∧ fr.prot a = none ∧ TagOk fr.muts a t

structure SR (K : PySem.W.Frag) (fr : Fr) (env : Fv) (σ : L2.St) (H G : Hp) : Prop where
  sub : Sub G H
  prot : ∀ b o, fr.prot b = some o → H b = some o
  dj : ∀ b, fr.prot b ≠ none → G b = none
  tab : ∀ P ∈ fr.tabs, TabOk H P ∧ G P = none
  pt : ∀ P ∈ fr.tabs, fr.prot P = none
  lent : ∀ a ∈ fr.muts, H a ≠ none
  len : env.length = σ.length
  slots : ∀ (i : Nat) (sl : Sl), env[i]? = some sl → SlOk K fr H G (σ[i]?).join sl
  dist : ∀ (i j : Nat) (t t' : Option Nat) (ds ds' : List PyData) (a : Addr), i ≠ j → env[i]? = some (.own t ds) → env[j]? = some (.own t' ds') → σ[i]? = some (some (.ref a)) → σ[j]? ≠ some (some (.ref a))

/-- a step of the run that only makes new things -/
structure Stp (H G H' G' : Hp) : Prop where
  ext : Sub H H'
  mono : Sub G G'
  sub : Sub G' H'
  new : ∀ b, G' b ≠ none → G b ≠ none ∨ H b = none

/-- no list is a table -/
theorem tab_upd {T : List Addr} {H G : Hp} {a : Addr} {xs : List V} {o : HO} (h : ∀ P ∈ T, TabOk H P ∧ G P = none) (ha : H a = some (.lst xs)) : ∀ P ∈ T, TabOk H P ∧ upd G a o P = none := fun P hP => by
  obtain ⟨⟨ps, e, t⟩, g⟩ := h P hP
  refine ⟨⟨ps, e, t⟩, ?_⟩
  rw [upd_ne (fun z => by rw [z, ha] at e; cases e)]
  exact g
theorem ne_none_of {α : Type} {o : Option α} {a : α} (h : o = some a) : o ≠ none := by rw [h]; simp
theorem sub_none {G H : Hp} (s : Sub G H) {b : Addr} (h : H b = none) : G b = none := by
  cases q : G b with
  | none => rfl
  | some o => rw [s _ _ q] at h; cases h

section
variable {K : PySem.W.Frag} {fr : Fr} {env : Fv} {σ : L2.St} {H G H' G' : Hp}
theorem Stp.refl (s : Sub G H) : Stp H G H G := ⟨.refl, .refl, s, fun _ h => .inl h⟩
/-- a new thing that is not to stand still -/
theorem Stp.lay (s : Sub G H) {p : Addr} {o : HO} (hp : H p = none) : Stp H G (upd H p o) G :=
  ⟨fun b x h => by rw [upd_ne (ne_of_none h hp)]; exact h, .refl, fun b x h => by rw [upd_ne (ne_of_none (s _ _ h) hp)]; exact s _ _ h, fun _ h => .inl h⟩
/-- a new thing that stands still -/
theorem Stp.fix (s : Sub G H) {p : Addr} {o : HO} (hp : H p = none) : Stp H G (upd H p o) (upd G p o) where
  ext := fun b x h => by rw [upd_ne (ne_of_none h hp)]; exact h
  mono := fun b x h => by rw [upd_ne (ne_of_none (s _ _ h) hp)]; exact h
  sub := fun b x h => by
    by_cases hb : b = p
    · subst hb; rw [upd_same] at h ⊢; exact h
    · rw [upd_ne hb] at h ⊢; exact s _ _ h
  new := fun b h => by
    by_cases hb : b = p
    · subst hb; exact .inr hp
    · rw [upd_ne hb] at h; exact .inl h
theorem Stp.trans {H1 G1 : Hp} (a : Stp H G H1 G1) (b : Stp H1 G1 H' G') : Stp H G H' G' where
  ext := a.ext.trans b.ext
  mono := a.mono.trans b.mono
  sub := b.sub
  new := fun c h => by
    rcases b.new c h with h | h
    · exact a.new c h
    · exact .inr (sub_none a.ext h)
theorem SlOk.stp {v : Option V} {sl : Sl} (s : Stp H G H' G') (h : SlOk K fr H G v sl) : SlOk K fr H' G' v sl := by
  cases sl with
  | un => trivial
  | sh d =>
    obtain ⟨x, e, h⟩ := h
    exact ⟨x, e, Sub.dq s.mono _ _ h⟩
  | own t ds =>
    obtain ⟨a, xs, e, h1, h2, h3, h4, h5⟩ := h
    refine ⟨a, xs, e, s.ext _ _ h1, Sub.dqAll s.mono _ _ h2, ?_, h4, h5⟩
    cases q : G' a with
    | none => rfl
    | some o =>
      rcases s.new a (ne_none_of q) with z | z
      · exact absurd h3 z
      · rw [h1] at z; cases z
theorem SR.stp (h : SR K fr env σ H G) (s : Stp H G H' G') : SR K fr env σ H' G' where
  sub := s.sub
  prot := fun b o e => s.ext _ _ (h.prot b o e)
  dj := fun b e => by
    cases q : G' b with
    | none => rfl
    | some o =>
      rcases s.new b (ne_none_of q) with z | z
      · exact absurd (h.dj b e) z
      · cases q2 : fr.prot b with
        | none => exact absurd q2 e
        | some o2 => rw [h.prot b o2 q2] at z; cases z
  tab := fun P hP => by
    obtain ⟨⟨ps, e, t⟩, g⟩ := h.tab P hP
    refine ⟨⟨ps, s.ext _ _ e, t⟩, ?_⟩
    cases q : G' P with
    | none => rfl
    | some o =>
      rcases s.new P (ne_none_of q) with z | z
      · exact absurd g z
      · rw [e] at z; cases z
  pt := h.pt
  lent := fun a ha => by
    cases q : H a with
    | none => exact absurd q (h.lent a ha)
    | some o => exact ne_none_of (s.ext _ _ q)
  len := h.len
  slots := fun i sl e => (h.slots i sl e).stp s
  dist := h.dist
end

/-- what an expression's value is -/
def RvOk (K : PySem.W.Frag) (fr : Fr) (env : Fv) (σ : L2.St) (H G : Hp) (v : V) : Rv → Prop
  | .sh d => Dq K G v d
  | .fr ds => ∃ a xs, v = .ref a ∧ H a = some (.lst xs) ∧ DqAll K G xs ds ∧ G a = none ∧ fr.prot a = none ∧ a ∉ fr.muts ∧ ∀ (i : Nat) (t : Option Nat) (es : List PyData), env[i]? = some (.own t es) → σ[i]? ≠ some (some (.ref a))
  | .sl i => σ[i]? = some (some v)
/-- a new value of a step -/
def RvNew (K : PySem.W.Frag) (H H' G' : Hp) (v : V) : Rv → Prop
  | .sh d => Dq K G' v d
  | .fr ds => ∃ a xs, v = .ref a ∧ H' a = some (.lst xs) ∧ DqAll K G' xs ds ∧ G' a = none ∧ H a = none
  | .sl _ => False
section
variable {K : PySem.W.Frag} {fr : Fr} {env : Fv} {σ : L2.St} {H G H' G' : Hp} {v : V} {r : Rv}
theorem SR.ownAt (h : SR K fr env σ H G) {i : Nat} {t : Option Nat} {ds : List PyData} (e : env[i]? = some (.own t ds)) :
    ∃ a xs, σ[i]? = some (some (.ref a)) ∧ H a = some (.lst xs) ∧ DqAll K G xs ds ∧ G a = none ∧ fr.prot a = none ∧ TagOk fr.muts a t := by
  obtain ⟨a, xs, q, r⟩ := h.slots i _ e
  refine ⟨a, xs, ?_, r⟩
  cases z : σ[i]? with
  | none => rw [z] at q; cases q
  | some o => rw [z] at q; cases q; rfl
theorem SR.shAt (h : SR K fr env σ H G) {i : Nat} {d : PyData} (e : env[i]? = some (.sh d)) : ∃ x, σ[i]? = some (some x) ∧ Dq K G x d := by
  obtain ⟨x, q, r⟩ := h.slots i _ e
  refine ⟨x, ?_, r⟩
  cases z : σ[i]? with
  | none => rw [z] at q; cases q
  | some o => rw [z] at q; cases q; rfl
/-- a thing of the heap that was not there is none of ours -/
theorem SR.notOwn (h : SR K fr env σ H G) {a : Addr} (ha : H a = none) : ∀ (i : Nat) (t : Option Nat) (es : List PyData), env[i]? = some (.own t es) → σ[i]? ≠ some (some (.ref a)) := fun i t es e z => by
  obtain ⟨b, xs, q, r, _⟩ := h.ownAt e
  rw [q] at z
  cases z
  rw [ha] at r
  cases r
theorem RvNew.ok (h : SR K fr env σ H G) (q : RvNew K H H' G' v r) : RvOk K fr env σ H' G' v r := by
  cases r with
  | sh d => exact q
  | sl _ => exact q.elim
  | fr ds =>
    obtain ⟨a, xs, e, h1, h2, h3, h4⟩ := q
    refine ⟨a, xs, e, h1, h2, h3, ?_, fun z => h.lent a z h4, h.notOwn h4⟩
    cases z : fr.prot a with
    | none => rfl
    | some o => rw [h.prot a o z] at h4; cases h4
end
end Cf
/-! Cf, part B: expressions. -/
namespace Cf
open PySem PySem.Spec PyProof.Rows L2

/-! ### the judgements -/
def tE (K : PySem.W.Frag) (fr : Fr) (F : Mo Rv) : TE := fun σ H Q => ∃ env G, SR K fr env σ H G ∧
  wpM F env (fun r env' => ∀ H' G' v, SR K fr env' σ H' G' → Sub G G' → RvOk K fr env' σ H' G' v r → Q v H') (fun c env' => ∀ H' G', SR K fr env' σ H' G' → Sub G G' → fr.W c H')
def tT (K : PySem.W.Frag) (fr : Fr) (F : Mo Bool) : TT := fun σ H Q => ∃ env G, SR K fr env σ H G ∧
  wpM F env (fun b env' => ∀ H' G', SR K fr env' σ H' G' → Sub G G' → Q b H') (fun c env' => ∀ H' G', SR K fr env' σ H' G' → Sub G G' → fr.W c H')
def HeldOk (K : PySem.W.Frag) (σ : L2.St) (G : Hp) (v : V) : Rv → Prop
  | .sh d => Dq K G v d
  | .sl i => σ[i]? = some (some v)
  | .fr _ => False
def RvsOk (K : PySem.W.Frag) (σ : L2.St) (G : Hp) : List V → List Rv → Prop
  | [], [] => True
  | v :: vs, r :: rs => HeldOk K σ G v r ∧ RvsOk K σ G vs rs
  | _, _ => False
def tA (K : PySem.W.Frag) (fr : Fr) (F : Mo (List Rv)) : TA := fun σ H Q => ∃ env G, SR K fr env σ H G ∧
  wpM F env (fun rs env' => ∀ H' G' vs, SR K fr env' σ H' G' → Sub G G' → RvsOk K σ G' vs rs → Q vs H') (fun c env' => ∀ H' G', SR K fr env' σ H' G' → Sub G G' → fr.W c H')
/-- e runs as F says -/
def PEv (X : Cx) (fr : Fr) (e : Expr) (F : Mo Rv) : Prop := PE X e (tE X.K fr F)
def PTv (X : Cx) (fr : Fr) (e : Expr) (F : Mo Bool) : Prop := PT X e (tT X.K fr F)
def PWv (X : Cx) (fr : Fr) (e : Expr) (F : Mo Bool) : Prop := PW X e (tT X.K fr F)
def PAv (X : Cx) (fr : Fr) (es : List Expr) (F : Mo (List Rv)) : Prop := PA X es (tA X.K fr F)
theorem weakE {X : Cx} {e : Expr} {t t' : TE} (h : PE X e t) (w : ∀ σ H Q, t' σ H Q → t σ H Q) : PE X e t' := ⟨fun pins s σ H Q I q => h.run pins s σ H Q I (w σ H Q q)⟩
theorem weakT {X : Cx} {e : Expr} {t t' : TT} (h : PT X e t) (w : ∀ σ H Q, t' σ H Q → t σ H Q) : PT X e t' := ⟨fun pins s σ H Q I q => h.run pins s σ H Q I (w σ H Q q)⟩
theorem weakW {X : Cx} {e : Expr} {t t' : TT} (h : PW X e t) (w : ∀ σ H Q, t' σ H Q → t σ H Q) : PW X e t' := ⟨fun wh pins s σ H Q I q => h.run wh pins s σ H Q I (w σ H Q q)⟩
theorem weakA {X : Cx} {es : List Expr} {t t' : TA} (h : PA X es t) (w : ∀ σ H Q, t' σ H Q → t σ H Q) : PA X es t' := ⟨fun pos pins s σ H Q I q => h.run pos pins s σ H Q I (w σ H Q q)⟩

/-! ### small functions -/
/-- a new list that waits stands still meanwhile -/
@[simp] def hold : Rv → Rv
  | .fr ds => .sh (.list ds)
  | r => r
/-- read now -/
def peek (r : Rv) : Mo PyData := fun e => match r with
  | .sh d => .ok d e
  | .fr ds => .ok (.list ds) e
  | .sl i => match e[i]? with
    | some (.sh d) => .ok d e
    | some (.own _ ds) => .ok (.list ds) e
    | _ => .stuck
/-- handed on for good: it stands still from now on -/
def force (r : Rv) : Mo PyData := fun e => match r with
  | .sh d => .ok d e
  | .fr ds => .ok (.list ds) e
  | .sl i => match e[i]? with
    | some (.sh d) => .ok d e
    | some (.own none ds) => .ok (.list ds) (e.set i (.sh (.list ds)))
    | _ => .stuck
@[simp] def peeks : List Rv → Mo (List PyData)
  | [] => pure []
  | r :: rs => do
    let d ← peek r
    let ds ← peeks rs
    pure (d :: ds)
@[simp] def forces : List Rv → Mo (List PyData)
  | [] => pure []
  | r :: rs => do
    let d ← force r
    let ds ← forces rs
    pure (d :: ds)

section
variable {K : PySem.W.Frag} {fr : Fr} {env : Fv} {σ : L2.St} {H G H' G' : Hp} {v : V} {r : Rv}
theorem hold_ok (h : SR K fr env σ H G) (q : RvOk K fr env σ H G v r) : ∃ G', SR K fr env σ H G' ∧ Sub G G' ∧ (match hold r with
    | .sh d => Dq K G' v d
    | .sl i => σ[i]? = some (some v)
    | .fr _ => False) := by
  cases r with
  | sh d => exact ⟨G, h, .refl, q⟩
  | sl i => exact ⟨G, h, .refl, q⟩
  | fr ds =>
    obtain ⟨a, xs, rfl, h1, h2, h3, h4, h5, h6⟩ := q
    have sG : Sub G (upd G a (.lst xs)) := fun b o e => by rw [upd_ne (ne_of_none e h3)]; exact e
    refine ⟨upd G a (.lst xs), ⟨fun b o e => ?_, h.prot, fun b e => ?_, tab_upd h.tab h1, h.pt, h.lent, h.len, fun i sl e => ?_, h.dist⟩, sG, ?_⟩
    · by_cases hb : b = a
      · subst hb; rw [upd_same] at e; cases e; exact h1
      · rw [upd_ne hb] at e; exact h.sub b o e
    · by_cases hb : b = a
      · subst hb; exact absurd h4 e
      · rw [upd_ne hb]; exact h.dj b e
    · have q := h.slots i sl e
      cases sl with
      | un => trivial
      | sh d => obtain ⟨x, e1, e2⟩ := q; exact ⟨x, e1, Sub.dq sG _ _ e2⟩
      | own t es =>
        obtain ⟨b, ys, e1, e2, e3, e4, e5, e6⟩ := h.ownAt e
        have hb : b ≠ a := fun z => h6 i t es e (by rw [← z]; exact e1)
        exact ⟨b, ys, by rw [e1]; rfl, e2, Sub.dqAll sG _ _ e3, by rw [upd_ne hb]; exact e4, e5, e6⟩
    · exact .lst upd_same (Sub.dqAll sG _ _ h2)
theorem peek_ok (h : SR K fr env σ H G) (q : RvOk K fr env σ H G v r) {Q : PyData → Fv → Prop} {E : Nat → Fv → Prop} (w : wpM (peek r) env Q E) : ∃ d, Pk K H G v d ∧ Q d env := by
  cases r with
  | sh d => exact ⟨d, .of h.sub q, w⟩
  | fr ds =>
    obtain ⟨a, xs, e, h1, h2, _⟩ := q
    exact ⟨.list ds, ⟨a, xs, e, h1, h2⟩, w⟩
  | sl i =>
    have q' : σ[i]? = some (some v) := q
    unfold wpM peek at w
    cases e : env[i]? with
    | none => simp [e] at w
    | some sl =>
      cases sl with
      | un => simp [e] at w
      | sh d =>
        simp only [e] at w
        obtain ⟨x, e1, e2⟩ := h.shAt e
        rw [q'] at e1; cases e1
        exact ⟨d, .of h.sub e2, w⟩
      | own t ds =>
        simp only [e] at w
        obtain ⟨a, xs, e1, e2, e3, _⟩ := h.ownAt e
        rw [q'] at e1; cases e1
        exact ⟨.list ds, ⟨a, xs, rfl, e2, e3⟩, w⟩
/-- a slot's own list stands still from now on -/
theorem freeze (h : SR K fr env σ H G) {i : Nat} {ds : List PyData} (e : env[i]? = some (.own none ds)) : ∃ G', SR K fr (env.set i (.sh (.list ds))) σ H G' ∧ Sub G G' ∧ ∀ v, σ[i]? = some (some v) → Dq K G' v (.list ds) := by
  obtain ⟨a, xs, e1, h1, h2, h3, h4, h5⟩ := h.ownAt e
  have sG : Sub G (upd G a (.lst xs)) := fun b o e => by rw [upd_ne (ne_of_none e h3)]; exact e
  have hd : Dq K (upd G a (.lst xs)) (.ref a) (.list ds) := .lst upd_same (Sub.dqAll sG _ _ h2)
  have hi : i < env.length := (List.getElem?_eq_some_iff.mp e).1
  refine ⟨upd G a (.lst xs), ⟨fun b o e => ?_, h.prot, fun b e => ?_, tab_upd h.tab h1, h.pt, h.lent, by simpa using h.len, fun j sl ej => ?_, fun j k t t' es es' b hjk ej ek => ?_⟩, sG, fun v q => ?_⟩
  · by_cases hb : b = a
    · subst hb; rw [upd_same] at e; cases e; exact h1
    · rw [upd_ne hb] at e; exact h.sub b o e
  · by_cases hb : b = a
    · subst hb; exact absurd h4 e
    · rw [upd_ne hb]; exact h.dj b e
  · by_cases hj : j = i
    · subst hj
      rw [List.getElem?_set_self hi] at ej
      cases ej
      exact ⟨.ref a, by rw [e1]; rfl, hd⟩
    · rw [List.getElem?_set_ne (Ne.symm hj)] at ej
      have q := h.slots j sl ej
      cases sl with
      | un => trivial
      | sh d => obtain ⟨x, e1, e2⟩ := q; exact ⟨x, e1, Sub.dq sG _ _ e2⟩
      | own t es =>
        obtain ⟨b, ys, e1', e2, e3, e4, e5, e6⟩ := h.ownAt ej
        have hb : b ≠ a := fun z => h.dist i j none t ds es a (Ne.symm hj) e ej e1 (by rw [← z]; exact e1')
        exact ⟨b, ys, by rw [e1']; rfl, e2, Sub.dqAll sG _ _ e3, by rw [upd_ne hb]; exact e4, e5, e6⟩
  · have nj : j ≠ i := fun z => by subst z; rw [List.getElem?_set_self hi] at ej; cases ej
    have nk : k ≠ i := fun z => by subst z; rw [List.getElem?_set_self hi] at ek; cases ek
    rw [List.getElem?_set_ne (Ne.symm nj)] at ej
    rw [List.getElem?_set_ne (Ne.symm nk)] at ek
    exact h.dist j k t t' es es' b hjk ej ek
  · rw [e1] at q; cases q; exact hd
theorem force_ok (h : SR K fr env σ H G) (q : RvOk K fr env σ H G v r) {Q : PyData → Fv → Prop} {E : Nat → Fv → Prop} (w : wpM (force r) env Q E) :
    ∃ d env' G', SR K fr env' σ H G' ∧ Sub G G' ∧ Dq K G' v d ∧ Q d env' := by
  cases r with
  | sh d => exact ⟨d, env, G, h, .refl, q, w⟩
  | fr ds =>
    obtain ⟨G', h1, h2, h3⟩ := hold_ok h q
    exact ⟨_, env, G', h1, h2, h3, w⟩
  | sl i =>
    have q' : σ[i]? = some (some v) := q
    unfold wpM force at w
    cases e : env[i]? with
    | none => simp [e] at w
    | some sl =>
      cases sl with
      | un => simp [e] at w
      | sh d =>
        simp only [e] at w
        obtain ⟨x, e1, e2⟩ := h.shAt e
        rw [q'] at e1; cases e1
        exact ⟨d, env, G, h, .refl, e2, w⟩
      | own t ds =>
        cases t with
        | some k => simp [e] at w
        | none =>
          simp only [e] at w
          obtain ⟨G', h1, h2, h3⟩ := freeze h e
          exact ⟨_, _, G', h1, h2, h3 v q', w⟩
theorem HeldOk.ok (q : HeldOk K σ G v r) : RvOk K fr env σ H G v r := by
  cases r with
  | sh d => exact q
  | fr _ => exact q.elim
  | sl i => exact q
theorem HeldOk.mono (q : HeldOk K σ G v r) (s : Sub G G') : HeldOk K σ G' v r := by
  cases r with
  | sh d => exact Sub.dq s _ _ q
  | fr _ => exact q.elim
  | sl i => exact q
theorem hold_ok' (h : SR K fr env σ H G) (q : RvOk K fr env σ H G v r) : ∃ G', SR K fr env σ H G' ∧ Sub G G' ∧ HeldOk K σ G' v (hold r) := by
  obtain ⟨G', h1, h2, h3⟩ := hold_ok h q
  refine ⟨G', h1, h2, ?_⟩
  cases e : hold r <;> rw [e] at h3 <;> exact h3
theorem rvsOk_cons {vs : List V} {rs : List Rv} : RvsOk K σ G (v :: vs) (r :: rs) ↔ HeldOk K σ G v r ∧ RvsOk K σ G vs rs := by
  exact Iff.rfl
theorem RvsOk.mono (s : Sub G G') : ∀ {vs : List V} {rs : List Rv}, RvsOk K σ G vs rs → RvsOk K σ G' vs rs
  | [], [], _ => trivial
  | _ :: _, _ :: _, h => rvsOk_cons.mpr ⟨(rvsOk_cons.mp h).1.mono s, RvsOk.mono s (rvsOk_cons.mp h).2⟩
  | [], _ :: _, h => h.elim
  | _ :: _, [], h => h.elim
theorem RvsOk.length : ∀ {vs : List V} {rs : List Rv}, RvsOk K σ G vs rs → vs.length = rs.length
  | [], [], _ => rfl
  | _ :: _, _ :: _, h => by simp [RvsOk.length (rvsOk_cons.mp h).2]
  | [], _ :: _, h => h.elim
  | _ :: _, [], h => h.elim
def Pks (K : PySem.W.Frag) (H G : Hp) : List V → List PyData → Prop
  | [], [] => True
  | v :: vs, d :: ds => Pk K H G v d ∧ Pks K H G vs ds
  | _, _ => False
theorem peeks_ok (h : SR K fr env σ H G) : ∀ {vs : List V} {rs : List Rv}, RvsOk K σ G vs rs → ∀ {Q : List PyData → Fv → Prop} {E : Nat → Fv → Prop}, wpM (peeks rs) env Q E → ∃ ds, Pks K H G vs ds ∧ Q ds env
  | [], [], _, _, _, w => ⟨[], trivial, w⟩
  | [], _ :: _, h, _, _, _ => h.elim
  | _ :: _, [], h, _, _, _ => h.elim
  | v :: vs, r :: rs, q, Q, E, w => by
    obtain ⟨q1, q2⟩ := rvsOk_cons.mp q
    unfold peeks at w
    obtain ⟨d, h1, w1⟩ := peek_ok h (HeldOk.ok q1) (wpM_bind.mp w)
    obtain ⟨ds, h2, w2⟩ := peeks_ok h q2 (wpM_bind.mp w1)
    exact ⟨d :: ds, ⟨h1, h2⟩, w2⟩
theorem forces_ok : ∀ {vs : List V} {rs : List Rv} {env : Fv} {G : Hp} (h : SR K fr env σ H G), RvsOk K σ G vs rs → ∀ {Q : List PyData → Fv → Prop} {E : Nat → Fv → Prop}, wpM (forces rs) env Q E →
    ∃ ds env' G', SR K fr env' σ H G' ∧ Sub G G' ∧ DqAll K G' vs ds ∧ Q ds env'
  | [], [], env, G, h, _, _, _, w => ⟨[], env, G, h, .refl, .nil, w⟩
  | [], _ :: _, _, _, _, h, _, _, _ => h.elim
  | _ :: _, [], _, _, _, h, _, _, _ => h.elim
  | v :: vs, r :: rs, env, G, h, q, Q, E, w => by
    obtain ⟨q1, q2⟩ := rvsOk_cons.mp q
    unfold forces at w
    obtain ⟨d, e1, G1, h1, s1, d1, w1⟩ := force_ok h (HeldOk.ok q1) (wpM_bind.mp w)
    obtain ⟨ds, e2, G2, h2, s2, d2, w2⟩ := forces_ok h1 (q2.mono s1) (wpM_bind.mp w1)
    exact ⟨d :: ds, e2, G2, h2, s1.trans s2, .cons (Sub.dq s2 _ _ d1) d2, w2⟩
end

/-! ### composing -/
section
variable {K : PySem.W.Frag} {fr : Fr} {env : Fv} {σ : L2.St} {H G : Hp}
/-- run a part, then go on; its value waits -/
theorem tE_then {α : Type} {F : Mo Rv} {k : Rv → Mo α} {Q : VK} {Qe : α → Fv → Prop} {Ee : Nat → Fv → Prop} (h : SR K fr env σ H G) (w : wpM (F >>= k) env Qe Ee)
    (hk : ∀ r env1 H1 G1 v, SR K fr env1 σ H1 G1 → Sub G G1 → RvOk K fr env1 σ H1 G1 v r → wpM (k r) env1 Qe Ee → Q v H1)
    (he : ∀ c env1, Ee c env1 → ∀ H1 G1, SR K fr env1 σ H1 G1 → Sub G G1 → fr.W c H1) : tE K fr F σ H Q :=
  ⟨env, G, h, wpM_mono (wpM_bind.mp w) (fun r env1 w1 H1 G1 v h1 s1 q => hk r env1 H1 G1 v h1 s1 q w1) fun c env1 w1 H1 G1 h1 s1 => he c env1 w1 H1 G1 h1 s1⟩
theorem tT_then {α : Type} {F : Mo Bool} {k : Bool → Mo α} {Q : Bool → Hp → Prop} {Qe : α → Fv → Prop} {Ee : Nat → Fv → Prop} (h : SR K fr env σ H G) (w : wpM (F >>= k) env Qe Ee)
    (hk : ∀ r env1 H1 G1, SR K fr env1 σ H1 G1 → Sub G G1 → wpM (k r) env1 Qe Ee → Q r H1)
    (he : ∀ c env1, Ee c env1 → ∀ H1 G1, SR K fr env1 σ H1 G1 → Sub G G1 → fr.W c H1) : tT K fr F σ H Q :=
  ⟨env, G, h, wpM_mono (wpM_bind.mp w) (fun r env1 w1 H1 G1 h1 s1 => hk r env1 H1 G1 h1 s1 w1) fun c env1 w1 H1 G1 h1 s1 => he c env1 w1 H1 G1 h1 s1⟩
theorem tA_then {α : Type} {F : Mo (List Rv)} {k : List Rv → Mo α} {Q : List V → Hp → Prop} {Qe : α → Fv → Prop} {Ee : Nat → Fv → Prop} (h : SR K fr env σ H G) (w : wpM (F >>= k) env Qe Ee)
    (hk : ∀ rs env1 H1 G1 vs, SR K fr env1 σ H1 G1 → Sub G G1 → RvsOk K σ G1 vs rs → wpM (k rs) env1 Qe Ee → Q vs H1)
    (he : ∀ c env1, Ee c env1 → ∀ H1 G1, SR K fr env1 σ H1 G1 → Sub G G1 → fr.W c H1) : tA K fr F σ H Q :=
  ⟨env, G, h, wpM_mono (wpM_bind.mp w) (fun rs env1 w1 H1 G1 vs h1 s1 q => hk rs env1 H1 G1 vs h1 s1 q w1) fun c env1 w1 H1 G1 h1 s1 => he c env1 w1 H1 G1 h1 s1⟩
end

/-! ### names, constants -/
def readF (i : Nat) : Mo Rv := fun e => match e[i]? with
  | some (.sh d) => .ok (.sh d) e
  | some (.own _ _) => .ok (.sl i) e
  | _ => .stuck
def constF (d : PyData) : Mo Rv := pure (.sh d)
section
variable {X : Cx} {fr : Fr}
theorem tE_const {d : PyData} {v : V} (hd : Dq X.K (fun _ => none) v d) : ∀ σ H Q, tE X.K fr (constF d) σ H Q → tC v σ H Q := fun σ H Q ⟨env, G, h, w⟩ =>
  w H G v h .refl (Sub.dq (fun _ _ z => by cases z) _ _ hd)
theorem ev_int {i j pos} : PEv X fr (.Constant (.int i) j pos) (constF (.int i)) := weakE pe_int (tE_const (.int i))
theorem ev_bl {b j pos} : PEv X fr (.Constant (.bool b) j pos) (constF (.bool b)) := weakE pe_bl (tE_const (.bl b))
theorem ev_non {j pos} : PEv X fr (.Constant .none j pos) (constF .none) := weakE pe_non (tE_const .non)
theorem ev_str {x j pos} : PEv X fr (.Constant (.str x) j pos) (constF (.str x)) := weakE pe_str (tE_const (.str x))
theorem ev_glob {x : Str} {v : V} {u : Value} {pos : Pos} {d : PyData} (hg : Gl X x) (hm : X.mg x = some u) (r : RelV v u) (hd : Dq X.K (fun _ => none) v d) (hdb : (x == ("__debug__" : Str)) = false := by decide) : PEv X fr (.Name x pos) (constF d) :=
  weakE (pe_glob hg hm r hdb) (tE_const hd)
theorem ev_var (i : Nat) {x : Str} {pos : Pos} (hN : X.N[i]? = some x := by rfl) (hv : Vis X.env.scope x := by first | exact Or.inl rfl | exact Or.inr (Or.inl rfl) | exact Or.inr (Or.inr rfl)) (hd : (x == ("__debug__" : Str)) = false := by decide)
    (hcd : (x == ("__classdict__" : Str)) = false := by decide) : PEv X fr (.Name x pos) (readF i) := by
  refine weakE (pe_var hN hv hd hcd) fun σ H Q ⟨env, G, h, w⟩ => ?_
  unfold wpM readF at w
  cases e : env[i]? with
  | none => simp [e] at w
  | some sl =>
    cases sl with
    | un => simp [e] at w
    | sh d =>
      simp only [e] at w
      obtain ⟨x, e1, e2⟩ := h.shAt e
      exact ⟨x, e1, w H G x h .refl e2⟩
    | own t ds =>
      simp only [e] at w
      obtain ⟨a, xs, e1, _⟩ := h.ownAt e
      exact ⟨.ref a, e1, w H G _ h .refl e1⟩
end

/-! ### operators -/
/-- a rule of two values as a function of two data -/
def Op2 (X : Cx) (f : Value → Value → Sem Value) (g : PyData → PyData → Option Rv) : Prop :=
  ∃ r : R2, OpR X f r ∧ ∀ x y H G d1 d2 res Q, Sub G H → Pk X.K H G x d1 → Pk X.K H G y d2 → g d1 d2 = some res →
    (∀ H' G' z, Stp H G H' G' → RvNew X.K H H' G' z res → Q z H') → r x y H Q
def binF (g : PyData → PyData → Option Rv) (F1 F2 : Mo Rv) : Mo Rv := do
  let r1 ← F1
  let r2 ← F2
  let d1 ← peek (hold r1)
  let d2 ← peek r2
  liftO (g d1 d2)
theorem Op2.or {X : Cx} {f : Value → Value → Sem Value} {g g' : PyData → PyData → Option Rv} (h : Op2 X f g) (h' : Op2 X f g') : Op2 X f (fun a b => (g a b).or (g' a b)) := by
  obtain ⟨r, h1, h2⟩ := h
  obtain ⟨r', h1', h2'⟩ := h'
  refine ⟨_, h1.or h1', fun x y H G d1 d2 res Q s p1 p2 e q => ?_⟩
  simp only at e
  cases z : g d1 d2 with
  | some a => rw [z] at e; exact .inl (h2 x y H G d1 d2 res Q s p1 p2 (by rw [z]; exact e) q)
  | none => rw [z] at e; exact .inr (h2' x y H G d1 d2 res Q s p1 p2 (by simpa using e) q)
end Cf
/-! Cf, part C: operators. -/
namespace Cf
open PySem PySem.Spec PyProof.Rows L2

section
variable {K : PySem.W.Frag} {G H : Hp} {v : V}
theorem dq_int {i : Int} (h : Dq K G v (.int i)) : v = .int i := by cases h; rfl
theorem dq_bl {b : Bool} (h : Dq K G v (.bool b)) : v = .bl b := by cases h; rfl
theorem dq_str {x : Str} (h : Dq K G v (.str x)) : v = .str x := by cases h; rfl
theorem dq_non (h : Dq K G v .none) : v = .non := by cases h; rfl
theorem dq_tup {ds : List PyData} (h : Dq K G v (.tuple ds)) : ∃ a xs, v = .ref a ∧ SqT K G a xs ∧ DqAll K G xs ds := by
  cases h with
  | tup h1 h2 => exact ⟨_, _, rfl, h1, h2⟩
/-- equality's own words -/
theorem canLay_cons {d : PyData} {ds : List PyData} (c : PyData.canLayAll0 (d :: ds) = true) : d.canLay0 = true ∧ PyData.canLayAll0 ds = true := by
  simpa [PyData.canLayAll0] using c
end
mutual
theorem canLay_dp {K : PySem.W.Frag} {G : Hp} : ∀ (d : PyData), d.canLay0 = true → ∀ v, Dq K G v d → Dp K G v d
  | .none, _, _, h => by cases h; exact .non
  | .bool b, _, _, h => by cases h; exact .bl b
  | .int i, _, _, h => by cases h; exact .int i
  | .str x, _, _, h => by cases h; exact .str x
  | .list ds, c, _, h => by
    cases h with
    | lst h1 h2 => exact .lst (.inl (.inl h1)) (canLay_dps ds (by simpa [PyData.canLay0] using c) _ h2)
  | .tuple ds, c, _, h => by
    cases h with
    | tup h1 h2 => exact .tup h1 (canLay_dps ds (by simpa [PyData.canLay0] using c) _ h2)
  | .dict kvs, c, _, _ => by simp [PyData.canLay0] at c
theorem canLay_dps {K : PySem.W.Frag} {G : Hp} : ∀ (ds : List PyData), PyData.canLayAll0 ds = true → ∀ vs, DqAll K G vs ds → DpAll K G vs ds
  | [], _, _, h => by cases h; exact .nil
  | d :: ds, c, _, h => by
    cases h with
    | cons h1 h2 => exact .cons (canLay_dp d (canLay_cons c).1 _ h1) (canLay_dps ds (canLay_cons c).2 _ h2)
end

/-- the list's value: a new one -/
theorem rvFresh {K : PySem.W.Frag} {H G : Hp} {p : Addr} {xs : List V} {ds : List PyData} (s : Sub G H) (hp : H p = none) (h : DqAll K G xs ds) :
    Stp H G (upd H p (.lst xs)) G ∧ RvNew K H (upd H p (.lst xs)) G (.ref p) (.fr ds) :=
  ⟨Stp.lay s hp, p, xs, rfl, upd_same, h, sub_none s hp, hp⟩
/-- the tuple's value: a new one -/
theorem rvTup {K : PySem.W.Frag} {H G : Hp} {p : Addr} {xs : List V} {ds : List PyData} (s : Sub G H) (hp : H p = none) (h : DqAll K G xs ds) :
    Stp H G (upd H p (.tup xs)) (upd G p (.tup xs)) ∧ RvNew K H (upd H p (.tup xs)) (upd G p (.tup xs)) (.ref p) (.sh (.tuple ds)) :=
  ⟨Stp.fix s hp, Dq.tup (.inl (.inl upd_same)) (Sub.dqAll (Stp.fix s hp).mono _ _ h)⟩

theorem Op2.weak {X : Cx} {f : Value → Value → Sem Value} {g g' : PyData → PyData → Option Rv} (h : Op2 X f g') (w : ∀ a b r, g a b = some r → g' a b = some r) : Op2 X f g :=
  let ⟨r, h1, h2⟩ := h
  ⟨r, h1, fun x y H G d1 d2 res Q s p1 p2 e q => h2 x y H G d1 d2 res Q s p1 p2 (w _ _ _ e) q⟩

/-! ### + - * // % ** -/
@[simp] def addG : PyData → PyData → Option Rv
  | .int i, .int j => some (.sh (.int (i + j)))
  | .str x, .str y => if x.length + y.length ≤ sizeLine then some (.sh (.str (x ++ y))) else none
  | .tuple xs, .tuple ys => if xs.length + ys.length ≤ sizeLine then some (.sh (.tuple (xs ++ ys))) else none
  | .list xs, .list ys => if xs.length + ys.length ≤ sizeLine then some (.fr (xs ++ ys)) else none
  | _, _ => none
@[simp] def subG : PyData → PyData → Option Rv
  | .int i, .int j => some (.sh (.int (i - j)))
  | _, _ => none
def mulOk (i j : Int) : Bool := !((decide (Builtin.Int.intBits i > shortFactorBits) && decide (Builtin.Int.intBits j > shortFactorBits) && Builtin.Int.intTooBig (Builtin.Int.intBits i + Builtin.Int.intBits j)))
def mulG : PyData → PyData → Option Rv
  | .int i, .int j => if mulOk i j = true then some (.sh (.int (i * j))) else none
  | .list xs, .int k => if -(2 ^ 63) ≤ k ∧ k < 2 ^ 63 ∧ xs.length * k.toNat ≤ sizeLine then some (.fr (List.replicate k.toNat xs).flatten) else none
  | .tuple xs, .int k => if xs ≠ [] ∧ 2 ≤ k ∧ k ≤ 1000 ∧ xs.length ≤ 1000 then some (.sh (.tuple (List.replicate k.toNat xs).flatten)) else none
  | _, _ => none
def fdivG : PyData → PyData → Option Rv
  | .int i, .int j => if j ≠ 0 ∧ Builtin.divisionGoesByPylong i j = false then some (.sh (.int (i.fdiv j))) else none
  | _, _ => none
@[simp] def modG : PyData → PyData → Option Rv
  | .int i, .int j => if j ≠ 0 then some (.sh (.int (i.fmod j))) else none
  | _, _ => none
def powG : PyData → PyData → Option Rv
  | .int i, .int j => if 0 ≤ j ∧ j ≤ 1000000 ∧ i.natAbs < 2 ^ 64 then some (.sh (.int (i ^ j.toNat))) else none
  | _, _ => none
section
variable {X : Cx}
theorem op2_intI {f : Value → Value → Sem Value} {C : Int → Int → Prop} {k : Int → Int → Int} {g : PyData → PyData → Option Rv} (h : OpR X f (rI C fun i j => .int (k i j)))
    (hg : ∀ a b r, g a b = some r → ∃ i j, a = .int i ∧ b = .int j ∧ C i j ∧ r = .sh (.int (k i j))) : Op2 X f g := by
  refine ⟨_, h, fun x y H G d1 d2 res Q s p1 p2 e q => ?_⟩
  obtain ⟨i, j, rfl, rfl, c, rfl⟩ := hg _ _ _ e
  exact ⟨i, j, dq_int p1, dq_int p2, c, q H G _ (.refl s) (.int _)⟩
theorem op2_int0 {f : Value → Value → Sem Value} {k : Int → Int → V} {kd : Int → Int → PyData} {g : PyData → PyData → Option Rv} (h : OpR X f (rI0 k)) (hk : ∀ (K : PySem.W.Frag) (G : Hp) i j, Dq K G (k i j) (kd i j))
    (hg : ∀ a b r, g a b = some r → ∃ i j, a = .int i ∧ b = .int j ∧ r = .sh (kd i j)) : Op2 X f g := by
  refine ⟨_, h, fun x y H G d1 d2 res Q s p1 p2 e q => ?_⟩
  obtain ⟨i, j, rfl, rfl, rfl⟩ := hg _ _ _ e
  exact ⟨i, j, dq_int p1, dq_int p2, q H G _ (.refl s) (hk _ _ _ _)⟩
theorem op2_add : Op2 X (binaryOp .Add) addG := by
  let g1 : PyData → PyData → Option Rv := fun a b => match a, b with
    | .int i, .int j => some (.sh (.int (i + j)))
    | _, _ => none
  let g2 : PyData → PyData → Option Rv := fun a b => match a, b with
    | .str x, .str y => if x.length + y.length ≤ sizeLine then some (.sh (.str (x ++ y))) else none
    | _, _ => none
  let g3 : PyData → PyData → Option Rv := fun a b => match a, b with
    | .tuple xs, .tuple ys => if xs.length + ys.length ≤ sizeLine then some (.sh (.tuple (xs ++ ys))) else none
    | _, _ => none
  let g4 : PyData → PyData → Option Rv := fun a b => match a, b with
    | .list xs, .list ys => if xs.length + ys.length ≤ sizeLine then some (.fr (xs ++ ys)) else none
    | _, _ => none
  have h1 : Op2 X (binaryOp .Add) g1 := op2_int0 op_add (fun _ _ _ _ => .int _) fun a b r e => by
    cases a <;> cases b <;> simp_all [g1]
  have h2 : Op2 X (binaryOp .Add) g2 := ⟨_, op_add_str, fun x y H G d1 d2 res Q s p1 p2 e q => by
    cases d1 <;> cases d2 <;> simp [g2] at e
    obtain ⟨hz, rfl⟩ := e
    exact ⟨_, _, dq_str p1, dq_str p2, hz, q H G _ (.refl s) (.str _)⟩⟩
  have h3 : Op2 X (binaryOp .Add) g3 := ⟨_, op_catA, fun x y H G d1 d2 res Q s p1 p2 e q => by
    cases d1 <;> cases d2 <;> simp [g3] at e
    obtain ⟨hz, rfl⟩ := e
    obtain ⟨a, xs, rfl, t1, a1⟩ := dq_tup p1
    obtain ⟨b, ys, rfl, t2, a2⟩ := dq_tup p2
    refine ⟨a, b, xs, ys, rfl, rfl, s.sqT t1, s.sqT t2, by rw [a1.length, a2.length]; exact hz, fun z => ?_, fun _ z => ?_, fun _ _ p hp => ?_⟩
    · subst z
      cases a1
      exact q H G _ (.refl s) (.tup t2 a2)
    · subst z
      cases a2
      rw [List.append_nil] at q
      exact q H G _ (.refl s) (.tup t1 a1)
    · have := rvTup s hp (a1.append a2)
      exact q _ _ _ this.1 this.2⟩
  have h4 : Op2 X (binaryOp .Add) g4 := ⟨_, op_cat, fun x y H G d1 d2 res Q s p1 p2 e q => by
    cases d1 <;> cases d2 <;> simp [g4] at e
    obtain ⟨hz, rfl⟩ := e
    obtain ⟨a, xs, rfl, t1, a1⟩ := p1
    obtain ⟨b, ys, rfl, t2, a2⟩ := p2
    refine ⟨a, b, xs, ys, rfl, rfl, t1, t2, by rw [a1.length, a2.length]; exact hz, fun p hp => ?_⟩
    have := rvFresh s hp (a1.append a2)
    exact q _ _ _ this.1 this.2⟩
  refine ((h1.or h2).or (h3.or h4)).weak fun a b r e => ?_
  cases a <;> cases b <;> simp_all [addG, g1, g2, g3, g4]
theorem op2_sub : Op2 X (binaryOp .Sub) subG := op2_int0 op_sub (fun _ _ _ _ => .int _) fun a b r e => by
  cases a <;> cases b <;> simp_all [subG]
theorem op2_fdiv : Op2 X (binaryOp .FloorDiv) fdivG :=
  op2_intI (C := fun i j => j ≠ 0 ∧ Builtin.divisionGoesByPylong i j = false) (opI fun _ _ _ _ _ _ _ hc q => floordiv_int hc.1 q (.inl hc.2)) fun a b r e => by
    cases a <;> cases b <;> simp [fdivG] at e
    obtain ⟨hz, rfl⟩ := e
    exact ⟨_, _, rfl, rfl, hz, rfl⟩
theorem op2_mod : Op2 X (binaryOp .Mod) modG :=
  op2_intI op_modN fun a b r e => by
    cases a <;> cases b <;> simp [modG] at e
    obtain ⟨hz, rfl⟩ := e
    exact ⟨_, _, rfl, rfl, hz, rfl⟩
theorem op2_pow : Op2 X (binaryOp .Pow) powG :=
  op2_intI op_pow fun a b r e => by
    cases a <;> cases b <;> simp [powG] at e
    obtain ⟨hz, rfl⟩ := e
    exact ⟨_, _, rfl, rfl, ⟨hz.1, hz.2.1, by simpa using hz.2.2⟩, rfl⟩
theorem mulOk_ok {i j : Int} (h : mulOk i j = true) : IntMulOk i j := by
  unfold mulOk at h
  unfold IntMulOk
  intro z
  rw [z] at h
  cases h
theorem op2_mul : Op2 X (binaryOp .Mult) mulG := by
  let g1 : PyData → PyData → Option Rv := fun a b => match a, b with
    | .int i, .int j => if mulOk i j = true then some (.sh (.int (i * j))) else none
    | _, _ => none
  let g2 : PyData → PyData → Option Rv := fun a b => match a, b with
    | .list xs, .int k => if -(2 ^ 63) ≤ k ∧ k < 2 ^ 63 ∧ xs.length * k.toNat ≤ sizeLine then some (.fr (List.replicate k.toNat xs).flatten) else none
    | _, _ => none
  let g3 : PyData → PyData → Option Rv := fun a b => match a, b with
    | .tuple xs, .int k => if xs ≠ [] ∧ 2 ≤ k ∧ k ≤ 1000 ∧ xs.length ≤ 1000 then some (.sh (.tuple (List.replicate k.toNat xs).flatten)) else none
    | _, _ => none
  have h1 : Op2 X (binaryOp .Mult) g1 := op2_intI (C := fun i j => mulOk i j = true) (opI fun _ _ _ _ _ _ _ hc q => mul_int q (mulOk_ok hc)) fun a b r e => by
    cases a <;> cases b <;> simp [g1] at e
    obtain ⟨hz, rfl⟩ := e
    exact ⟨_, _, rfl, rfl, hz, rfl⟩
  have h2 : Op2 X (binaryOp .Mult) g2 := ⟨_, op_rep, fun x y H G d1 d2 res Q s p1 p2 e q => by
    cases d1 <;> cases d2 <;> simp only [g2] at e <;> try cases e
    split at e <;> cases e
    rename_i es k hz
    obtain ⟨a, xs, rfl, t1, a1⟩ := p1
    refine ⟨a, _, xs, rfl, dq_int p2, t1, hz.1, hz.2.1, by rw [a1.length]; exact hz.2.2, fun p hp => ?_⟩
    have := rvFresh s hp (a1.rep k.toNat)
    exact q _ _ _ this.1 this.2⟩
  have h3 : Op2 X (binaryOp .Mult) g3 := ⟨_, op_repT, fun x y H G d1 d2 res Q s p1 p2 e q => by
    cases d1 <;> cases d2 <;> simp only [g3] at e <;> try cases e
    split at e <;> cases e
    rename_i es k hz
    obtain ⟨a, xs, rfl, t1, a1⟩ := dq_tup p1
    refine ⟨a, _, xs, rfl, dq_int p2, s.sqT t1, fun z => ?_, hz.2.1, hz.2.2.1, by rw [a1.length]; exact hz.2.2.2, fun p hp => ?_⟩
    · subst z
      cases a1
      exact hz.1 rfl
    · have := rvTup s hp (a1.rep k.toNat)
      exact q _ _ _ this.1 this.2⟩
  refine (h1.or (h2.or h3)).weak fun a b r e => ?_
  cases a <;> cases b <;> simp_all [mulG, g1, g2, g3]
end

/-! ### comparisons -/
def eqOk (a b : PyData) : Bool := a.canLay0 && b.canLay0 && decide (min a.depth b.depth ≤ 64)
def eqG (a b : PyData) : Option Rv := if eqOk a b = true then some (.sh (.bool (PyData.eqv a b))) else none
def neG (a b : PyData) : Option Rv := if eqOk a b = true then some (.sh (.bool (!PyData.eqv a b))) else none
@[simp] def ltG : PyData → PyData → Option Rv
  | .int i, .int j => some (.sh (.bool (decide (i < j))))
  | _, _ => none
@[simp] def leG : PyData → PyData → Option Rv
  | .int i, .int j => some (.sh (.bool (decide (i ≤ j))))
  | _, _ => none
@[simp] def gtG : PyData → PyData → Option Rv
  | .int i, .int j => some (.sh (.bool (decide (j < i))))
  | _, _ => none
@[simp] def geG : PyData → PyData → Option Rv
  | .int i, .int j => some (.sh (.bool (decide (j ≤ i))))
  | _, _ => none
@[simp] def isNoneD : PyData → Bool
  | .none => true
  | _ => false
@[simp] def isG : PyData → PyData → Option Rv
  | a, .none => some (.sh (.bool (isNoneD a)))
  | .bool a, .bool b => some (.sh (.bool (decide (a = b))))
  | _, _ => none
@[simp] def isNotG : PyData → PyData → Option Rv
  | a, .none => some (.sh (.bool (!isNoneD a)))
  | .bool a, .bool b => some (.sh (.bool (!decide (a = b))))
  | _, _ => none
def inOk (a : PyData) (ds : List PyData) : Bool := a.canLay0 && PyData.canLayAll0 ds && decide (a.depth ≤ 60)
def inG : PyData → PyData → Option Rv
  | a, .list ds => if inOk a ds = true then some (.sh (.bool (ds.any fun z => PyData.eqv z a))) else none
  | a, .tuple ds => if inOk a ds = true then some (.sh (.bool (ds.any fun z => PyData.eqv z a))) else none
  | _, _ => none
def notInG : PyData → PyData → Option Rv
  | a, .list ds => if inOk a ds = true then some (.sh (.bool (!ds.any fun z => PyData.eqv z a))) else none
  | a, .tuple ds => if inOk a ds = true then some (.sh (.bool (!ds.any fun z => PyData.eqv z a))) else none
  | _, _ => none
section
variable {X : Cx}
def rRd (K : PySem.W.Frag) (ok : PyData → PyData → Bool) (k : PyData → PyData → Bool) : R2 := fun x y H Q => ∃ d e, Dp K H x d ∧ Dp K H y e ∧ ok d e = true ∧ Q (.bl (k d e)) H
theorem op2_rd {f : Value → Value → Sem Value} {ok k : PyData → PyData → Bool} (h : OpR X f (rRd X.K ok k)) (hc : ∀ a b, ok a b = true → a.canLay0 = true ∧ b.canLay0 = true) :
    Op2 X f (fun a b => if ok a b = true then some (.sh (.bool (k a b))) else none) := by
  refine ⟨_, h, fun x y H G d1 d2 res Q s p1 p2 e q => ?_⟩
  simp only at e
  split at e
  · rename_i hok
    cases e
    have c := hc _ _ hok
    exact ⟨d1, d2, canLay_dp _ c.1 _ (Pk.dq s p1), canLay_dp _ c.2 _ (Pk.dq s p2), hok, q H G _ (.refl s) (.bl _)⟩
  · cases e
theorem eqOk_c (a b : PyData) (h : eqOk a b = true) : a.canLay0 = true ∧ b.canLay0 = true := by
  unfold eqOk at h
  simp only [Bool.and_eq_true] at h
  exact h.1
theorem op2_eq (hu : X.A.units + 100 < cLine) : Op2 X (compareOp .Eq) eqG := by
  refine op2_rd (fun pins s σ H x y v u Q I rx ry h => ?_) eqOk_c
  obtain ⟨d, e, hd, he, ok, q⟩ := h
  obtain ⟨as, r1⟩ := Dp.reads I d x v hd rx
  obtain ⟨bs, r2⟩ := Dp.reads I e y u he ry
  simp only [eqOk, Bool.and_eq_true, decide_eq_true_eq] at ok
  exact SeqAt.compareEq_reads r1 r2 ok.1.1 ok.1.2 (by omega) ⟨.bl _, H, I, rfl, q⟩
theorem op2_ne (hu : X.A.units + 100 < cLine) : Op2 X (compareOp .NotEq) neG := by
  refine op2_rd (fun pins s σ H x y v u Q I rx ry h => ?_) eqOk_c
  obtain ⟨d, e, hd, he, ok, q⟩ := h
  obtain ⟨as, r1⟩ := Dp.reads I d x v hd rx
  obtain ⟨bs, r2⟩ := Dp.reads I e y u he ry
  simp only [eqOk, Bool.and_eq_true, decide_eq_true_eq] at ok
  exact SeqAt.compareNe_reads r1 r2 ok.1.1 ok.1.2 (by omega) ⟨.bl _, H, I, rfl, q⟩
theorem op2_lt : Op2 X (compareOp .Lt) ltG := op2_int0 op_lt (fun _ _ _ _ => .bl _) fun a b r e => by
  cases a <;> cases b <;> simp_all [ltG]
theorem op2_le : Op2 X (compareOp .LtE) leG := op2_int0 op_le (fun _ _ _ _ => .bl _) fun a b r e => by
  cases a <;> cases b <;> simp_all [leG]
theorem op2_gt : Op2 X (compareOp .Gt) gtG := op2_int0 op_gt (fun _ _ _ _ => .bl _) fun a b r e => by
  cases a <;> cases b <;> simp_all [gtG]
theorem op2_ge : Op2 X (compareOp .GtE) geG := op2_int0 op_ge (fun _ _ _ _ => .bl _) fun a b r e => by
  cases a <;> cases b <;> simp_all [geG]
theorem isNone_dq {K : PySem.W.Frag} {H G : Hp} {v : V} {d : PyData} (h : Pk K H G v d) : decide (v = .non) = isNoneD d := by
  cases d with
  | list ds => obtain ⟨a, xs, rfl, _⟩ := h; rfl
  | none => cases dq_non h; rfl
  | bool b => cases dq_bl h; rfl
  | int b => cases dq_int h; rfl
  | str b => cases dq_str h; rfl
  | tuple ds => obtain ⟨a, xs, rfl, _⟩ := dq_tup h; rfl
  | dict kvs =>
    cases (show Dq K G v (.dict kvs) from h)
    rfl
theorem op2_is : Op2 X (compareOp .Is) isG := by
  let g1 : PyData → PyData → Option Rv := fun a b => match b with
    | .none => some (.sh (.bool (isNoneD a)))
    | _ => none
  let g2 : PyData → PyData → Option Rv := fun a b => match a, b with
    | .bool a, .bool b => some (.sh (.bool (decide (a = b))))
    | _, _ => none
  have h1 : Op2 X (compareOp .Is) g1 := ⟨_, op_isN, fun x y H G d1 d2 res Q s p1 p2 e q => by
    cases d2 <;> simp [g1] at e
    subst e
    refine ⟨dq_non p2, ?_⟩
    rw [isNone_dq p1]
    exact q H G _ (.refl s) (.bl _)⟩
  have h2 : Op2 X (compareOp .Is) g2 := ⟨_, op_isBl, fun x y H G d1 d2 res Q s p1 p2 e q => by
    cases d1 <;> cases d2 <;> simp [g2] at e
    subst e
    exact ⟨_, _, dq_bl p1, dq_bl p2, q H G _ (.refl s) (.bl _)⟩⟩
  refine (h1.or h2).weak fun a b r e => ?_
  cases a <;> cases b <;> simp_all [isG, g1, g2]
theorem op2_isNot : Op2 X (compareOp .IsNot) isNotG := by
  let g1 : PyData → PyData → Option Rv := fun a b => match b with
    | .none => some (.sh (.bool (!isNoneD a)))
    | _ => none
  let g2 : PyData → PyData → Option Rv := fun a b => match a, b with
    | .bool a, .bool b => some (.sh (.bool (!decide (a = b))))
    | _, _ => none
  have h1 : Op2 X (compareOp .IsNot) g1 := ⟨_, op_notN, fun x y H G d1 d2 res Q s p1 p2 e q => by
    cases d2 <;> simp [g1] at e
    subst e
    refine ⟨dq_non p2, ?_⟩
    rw [isNone_dq p1]
    exact q H G _ (.refl s) (.bl _)⟩
  have h2 : Op2 X (compareOp .IsNot) g2 := ⟨_, op_notBl, fun x y H G d1 d2 res Q s p1 p2 e q => by
    cases d1 <;> cases d2 <;> simp [g2] at e
    subst e
    exact ⟨_, _, dq_bl p1, dq_bl p2, q H G _ (.refl s) (.bl _)⟩⟩
  refine (h1.or h2).weak fun a b r e => ?_
  cases a <;> cases b <;> simp_all [isNotG, g1, g2]
def rInQ (K : PySem.W.Frag) (neg : Bool) : R2 := fun x y H Q => ∃ d e ds, Dp K H x d ∧ Dp K H y e ∧ (e = .list ds ∨ e = .tuple ds) ∧ inOk d ds = true ∧ Q (.bl (if neg = true then !(ds.any fun z => PyData.eqv z d) else ds.any fun z => PyData.eqv z d)) H
theorem opR_in (hu : X.A.units + 100 < cLine) : OpR X (compareOp .In) (rInQ X.K false) := by
  intro pins s σ H x y v u Q I rx ry h
  obtain ⟨d, e, ds, hd, he, hds, ok, q⟩ := h
  obtain ⟨as, r1⟩ := Dp.reads I d x v hd rx
  obtain ⟨bs, r2⟩ := Dp.reads I e y u he ry
  simp only [inOk, Bool.and_eq_true, decide_eq_true_eq] at ok
  rcases hds with rfl | rfl
  · exact SeqAt.in_list_reads r2 r1 ok.1.2 ok.1.1 (by omega) ⟨.bl _, H, I, rfl, q⟩
  · exact SeqAt.in_tuple_reads r2 r1 ok.1.2 ok.1.1 (by omega) ⟨.bl _, H, I, rfl, q⟩
theorem opR_notIn (hu : X.A.units + 100 < cLine) : OpR X (compareOp .NotIn) (rInQ X.K true) := by
  intro pins s σ H x y v u Q I rx ry h
  obtain ⟨d, e, ds, hd, he, hds, ok, q⟩ := h
  obtain ⟨as, r1⟩ := Dp.reads I d x v hd rx
  obtain ⟨bs, r2⟩ := Dp.reads I e y u he ry
  simp only [inOk, Bool.and_eq_true, decide_eq_true_eq] at ok
  rcases hds with rfl | rfl
  · exact SeqAt.notIn_list_reads r2 r1 ok.1.2 ok.1.1 (by omega) ⟨.bl _, H, I, rfl, q⟩
  · exact SeqAt.notIn_tuple_reads r2 r1 ok.1.2 ok.1.1 (by omega) ⟨.bl _, H, I, rfl, q⟩
theorem inOk_c {a : PyData} {ds : List PyData} (h : inOk a ds = true) : a.canLay0 = true ∧ PyData.canLayAll0 ds = true := by
  simp only [inOk, Bool.and_eq_true] at h
  exact h.1
theorem op2_in (hu : X.A.units + 100 < cLine) : Op2 X (compareOp .In) inG := by
  refine ⟨_, opR_in hu, fun x y H G d1 d2 res Q s p1 p2 e q => ?_⟩
  cases d2 <;> simp only [inG] at e <;> try cases e
  all_goals
    split at e <;> cases e
    rename_i ok
    have c := inOk_c ok
    exact ⟨d1, _, _, canLay_dp _ c.1 _ (Pk.dq s p1), canLay_dp _ (by simpa [PyData.canLay0] using c.2) _ (Pk.dq s p2), by simp, ok, q H G _ (.refl s) (.bl _)⟩
theorem op2_notIn (hu : X.A.units + 100 < cLine) : Op2 X (compareOp .NotIn) notInG := by
  refine ⟨_, opR_notIn hu, fun x y H G d1 d2 res Q s p1 p2 e q => ?_⟩
  cases d2 <;> simp only [notInG] at e <;> try cases e
  all_goals
    split at e <;> cases e
    rename_i ok
    have c := inOk_c ok
    exact ⟨d1, _, _, canLay_dp _ c.1 _ (Pk.dq s p1), canLay_dp _ (by simpa [PyData.canLay0] using c.2) _ (Pk.dq s p2), by simp, ok, q H G _ (.refl s) (.bl _)⟩
end
end Cf
/-! Cf, part D: compound expressions, built-ins, methods of lists. -/
namespace Cf
open PySem PySem.Spec PyProof.Rows L2

/-! ### two operands, then a primitive -/
section
variable {X : Cx} {fr : Fr} {a b c : Expr} {Fa Fb Fc : Mo Rv} {pos : Pos}
theorem bin_reads {r : R2} {g : PyData → PyData → Option Rv} (hg : ∀ x y H G d1 d2 res Q, Sub G H → Pk X.K H G x d1 → Pk X.K H G y d2 → g d1 d2 = some res → (∀ H' G' z, Stp H G H' G' → RvNew X.K H H' G' z res → Q z H') → r x y H Q) :
    ∀ σ H Q, tE X.K fr (binF g Fa Fb) σ H Q → tOp r (tE X.K fr Fa) (tE X.K fr Fb) σ H Q := fun σ H Q ⟨env, G, h, w⟩ => by
  refine tE_then h w (fun r1 env1 H1 G1 v1 h1 s1 q1 w1 => ?_) fun c e1 E1 H1 G1 h1 s1 => E1 H1 G1 h1 s1
  obtain ⟨G1', h1', s1', q1'⟩ := hold_ok' h1 q1
  refine tE_then h1' w1 (fun r2 env2 H2 G2 v2 h2 s2 q2 w2 => ?_) fun c e1 E1 H2 G2 h2 s2 => E1 H2 G2 h2 ((s1.trans s1').trans s2)
  obtain ⟨d1, p1, w3⟩ := peek_ok h2 (HeldOk.ok (q1'.mono s2)) (wpM_bind.mp w2)
  obtain ⟨d2, p2, w4⟩ := peek_ok h2 q2 (wpM_bind.mp w3)
  obtain ⟨res, e, qf⟩ := wpM_lift w4
  exact hg v1 v2 H2 G2 d1 d2 res Q h2.sub p1 p2 e fun H' G' z st rn => qf H' G' z (h2.stp st) (((s1.trans s1').trans s2).trans st.mono) (rn.ok h2)
theorem ev_bin {op : Operator} {g : PyData → PyData → Option Rv} (ho : Op2 X (binaryOp op) g) (ha : PEv X fr a Fa) (hb : PEv X fr b Fb) : PEv X fr (.BinOp a op b pos) (binF g Fa Fb) :=
  let ⟨_, hr, hg⟩ := ho
  weakE (pe_op hr ha hb) (bin_reads hg)
theorem ev_cmp {op : CmpOp} {g : PyData → PyData → Option Rv} (ho : Op2 X (compareOp op) g) (ha : PEv X fr a Fa) (hb : PEv X fr b Fb) (hm : behindInMarks op b = false := by first | exact nomark _ | rfl) : PEv X fr (.Compare a [op] [b] pos) (binF g Fa Fb) :=
  let ⟨_, hr, hg⟩ := ho
  weakE (pe_cmpR hr ha hb hm) (bin_reads hg)
/-- a < b <= c -/
def chainF (g g' : PyData → PyData → Option Rv) (F1 F2 F3 : Mo Rv) : Mo Rv := do
  let r1 ← F1
  let r2 ← F2
  let d1 ← peek (hold r1)
  let d2 ← peek (hold r2)
  match g d1 d2 with
  | some (.sh (.bool k)) => (if k = true then (do
      let r3 ← F3
      let d2' ← peek (hold r2)
      let d3 ← peek r3
      liftO (g' d2' d3)) else pure (.sh (.bool false)) : Mo Rv)
  | _ => stuckM
theorem ev_chain {op op' : CmpOp} {g g' : PyData → PyData → Option Rv} (ho : Op2 X (compareOp op) g) (ho' : Op2 X (compareOp op') g') (ha : PEv X fr a Fa) (hb : PEv X fr b Fb) (hc : PEv X fr c Fc)
    (hm : lastMarks [op, op'] [b, c] = false := by with_unfolding_all rfl) : PEv X fr (.Compare a [op, op'] [b, c] pos) (chainF g g' Fa Fb Fc) := by
  obtain ⟨r, hr, hg⟩ := ho
  obtain ⟨r', hr', hg'⟩ := ho'
  refine weakE (pe_chain hr hr' ha hb hc hm) fun σ H Q ⟨env, G, h, w⟩ => ?_
  refine tE_then h w (fun r1 env1 H1 G1 v1 h1 s1 q1 w1 => ?_) fun c e1 E1 H1 G1 h1 s1 => E1 H1 G1 h1 s1
  obtain ⟨G1', h1', s1', q1'⟩ := hold_ok' h1 q1
  refine tE_then h1' w1 (fun r2 env2 H2 G2 v2 h2 s2 q2 w2 => ?_) fun c e1 E1 H2 G2 h2 s2 => E1 H2 G2 h2 ((s1.trans s1').trans s2)
  have sA := (s1.trans s1').trans s2
  obtain ⟨d1, p1, w3⟩ := peek_ok h2 (HeldOk.ok (q1'.mono s2)) (wpM_bind.mp w2)
  obtain ⟨G2', h2', s2', q2'⟩ := hold_ok' h2 q2
  have p1' : Pk X.K H2 G2' v1 d1 := by
    cases d1 with
    | list ds => obtain ⟨l, xs, e, k1, k2⟩ := p1; exact ⟨l, xs, e, k1, Sub.dqAll s2' _ _ k2⟩
    | _ => exact Sub.dq s2' _ _ p1
  obtain ⟨d2, p2, w4⟩ := peek_ok h2' (HeldOk.ok q2') (wpM_bind.mp w3)
  cases e : g d1 d2 with
  | none => rw [e] at w4; exact w4.elim
  | some res =>
    rw [e] at w4
    cases res with
    | fr _ => exact w4.elim
    | sl _ => exact w4.elim
    | sh d =>
      cases d with
      | bool k =>
        refine hg v1 v2 H2 G2' d1 d2 _ _ h2'.sub p1' p2 e fun H3 G3 z st rn => ?_
        have hz := dq_bl (show Dq X.K G3 z (.bool k) from rn)
        subst hz
        have h3 := h2'.stp st
        refine ⟨k, rfl, ?_⟩
        cases k with
        | false =>
          replace w4 := show wpM (if false = true then _ else _) env2 _ _ from w4
          rw [if_neg Bool.false_ne_true] at w4 ⊢
          exact w4 H3 G3 _ h3 ((sA.trans s2').trans st.mono) (.bl false)
        | true =>
          replace w4 := show wpM (if true = true then _ else _) env2 _ _ from w4
          rw [if_pos rfl] at w4 ⊢
          refine tE_then h3 w4 (fun r3 env4 H4 G4 v3 h4 s4 q4 w5 => ?_) fun c e1 E1 H4 G4 h4 s4 => E1 H4 G4 h4 (((sA.trans s2').trans st.mono).trans s4)
          obtain ⟨d2', p2', w6⟩ := peek_ok h4 (HeldOk.ok ((q2'.mono st.mono).mono s4)) (wpM_bind.mp w5)
          obtain ⟨d3, p3, w7⟩ := peek_ok h4 q4 (wpM_bind.mp w6)
          obtain ⟨res, e', qf⟩ := wpM_lift w7
          exact hg' v2 v3 H4 G4 d2' d3 res Q h4.sub p2' p3 e' fun H' G' z st' rn' => qf H' G' z (h4.stp st') ((((sA.trans s2').trans st.mono).trans s4).trans st'.mono) (rn'.ok h4)
      | _ => exact w4.elim

/-! ### bools -/
/-- the value as a bool -/
def boolF (F : Mo Rv) : Mo Bool := do
  let r ← F
  match r with
  | .sh (.bool b) => pure b
  | _ => stuckM
def ofB (F : Mo Bool) : Mo Rv := do
  let b ← F
  pure (.sh (.bool b))
def andF (F1 F2 : Mo Bool) : Mo Bool := do
  let b ← F1
  if b = true then F2 else pure false
def orF (F1 F2 : Mo Bool) : Mo Bool := do
  let b ← F1
  if b = true then pure true else F2
def notF (F : Mo Bool) : Mo Bool := do
  let b ← F
  pure (!b)
/-- a value that is a bool -/
def PBv (X : Cx) (fr : Fr) (e : Expr) (F : Mo Bool) : Prop := PEv X fr e (ofB F)
theorem wpM_boolF {α : Type} {F : Mo Rv} {k : Bool → Mo α} {env : Fv} {Q : α → Fv → Prop} {E : Nat → Fv → Prop} (w : wpM (boolF F >>= k) env Q E) : wpM (F >>= fun r => match r with
    | .sh (.bool b) => k b
    | _ => stuckM) env Q E := by
  unfold boolF at w
  rw [wpM_bind, wpM_bind] at w
  rw [wpM_bind]
  refine wpM_mono w (fun r e' h => ?_) fun _ _ h => h
  cases r with
  | sh d =>
    cases d with
    | bool b => exact h
    | _ => exact h.elim
  | _ => exact h.elim
theorem tE_bool {σ : L2.St} {H : Hp} {Q : VK} {F : Mo Bool} {env : Fv} {G : Hp} {α : Type} {k : Bool → Mo α} {Qe : α → Fv → Prop} {Ee : Nat → Fv → Prop} (h : SR X.K fr env σ H G) (w : wpM (F >>= k) env Qe Ee)
    (hk : ∀ b env1 H1 G1, SR X.K fr env1 σ H1 G1 → Sub G G1 → wpM (k b) env1 Qe Ee → Q (.bl b) H1)
    (he : ∀ c env1, Ee c env1 → ∀ H1 G1, SR X.K fr env1 σ H1 G1 → Sub G G1 → fr.W c H1) : tE X.K fr (ofB F) σ H Q := by
  refine ⟨env, G, h, ?_⟩
  unfold ofB
  rw [wpM_bind]
  rw [wpM_bind] at w
  refine wpM_mono w (fun b e' w' => ?_) fun c e' w' H' G' h' s' => he c e' w' H' G' h' s'
  show ∀ H' G' v, _
  intro H' G' v h' s' q
  have hv : v = .bl b := dq_bl (show Dq X.K G' v (.bool b) from q)
  subst hv
  exact hk b e' H' G' h' s' w'
theorem ev_toB {e : Expr} {F : Mo Rv} (h : PEv X fr e F) : PBv X fr e (boolF F) := weakE h fun σ H Q ⟨env, G, h, w⟩ => by
  refine ⟨env, G, h, ?_⟩
  unfold ofB at w
  have w' := wpM_boolF w
  rw [wpM_bind] at w'
  refine wpM_mono w' (fun r e' q => ?_) fun c e' q => q
  cases r with
  | sh d =>
    cases d with
    | bool b => exact q
    | _ => exact q.elim
  | _ => exact q.elim
theorem eb_one {op : BoolOp} {F : Mo Bool} (h : PBv X fr a F) : PBv X fr (.BoolOp op [a] pos) F := pe_one h
theorem eb_and {F1 F2 : Mo Bool} {rest : List Expr} (ha : PBv X fr a F1) (hb : PBv X fr (.BoolOp .And (b :: rest) pos) F2) : PBv X fr (.BoolOp .And (a :: b :: rest) pos) (andF F1 F2) :=
  weakE (pe_and ha hb) fun σ H Q ⟨env, G, h, w⟩ => by
    unfold ofB andF at w
    rw [wpM_bind] at w
    refine tE_bool h w (fun c env1 H1 G1 h1 s1 w1 => ⟨c, rfl, ?_⟩) fun c e1 E1 H1 G1 h1 s1 => E1 H1 G1 h1 s1
    cases c with
    | true =>
      rw [if_pos rfl] at w1 ⊢
      refine tE_bool h1 (wpM_bind.mpr w1) (fun c env2 H2 G2 h2 s2 w2 => ?_) fun c e1 E1 H2 G2 h2 s2 => E1 H2 G2 h2 (s1.trans s2)
      exact w2 H2 G2 _ h2 (s1.trans s2) (.bl c)
    | false =>
      rw [if_neg Bool.false_ne_true] at w1 ⊢
      exact w1 H1 G1 _ h1 s1 (.bl false)
theorem eb_or {F1 F2 : Mo Bool} {rest : List Expr} (ha : PBv X fr a F1) (hb : PBv X fr (.BoolOp .Or (b :: rest) pos) F2) : PBv X fr (.BoolOp .Or (a :: b :: rest) pos) (orF F1 F2) :=
  weakE (pe_or ha hb) fun σ H Q ⟨env, G, h, w⟩ => by
    unfold ofB orF at w
    rw [wpM_bind] at w
    refine tE_bool h w (fun c env1 H1 G1 h1 s1 w1 => ⟨c, rfl, ?_⟩) fun c e1 E1 H1 G1 h1 s1 => E1 H1 G1 h1 s1
    cases c with
    | true =>
      rw [if_pos rfl] at w1 ⊢
      exact w1 H1 G1 _ h1 s1 (.bl true)
    | false =>
      rw [if_neg Bool.false_ne_true] at w1 ⊢
      refine tE_bool h1 (wpM_bind.mpr w1) (fun c env2 H2 G2 h2 s2 w2 => ?_) fun c e1 E1 H2 G2 h2 s2 => E1 H2 G2 h2 (s1.trans s2)
      exact w2 H2 G2 _ h2 (s1.trans s2) (.bl c)
theorem eb_not {F : Mo Bool} (ha : PBv X fr a F) : PBv X fr (.UnaryOp .Not a pos) (notF F) :=
  weakE (pe_not ha) fun σ H Q ⟨env, G, h, w⟩ => by
    unfold ofB notF at w
    rw [wpM_bind] at w
    refine tE_bool h w (fun c env1 H1 G1 h1 s1 w1 => ⟨c, rfl, ?_⟩) fun c e1 E1 H1 G1 h1 s1 => E1 H1 G1 h1 s1
    exact w1 H1 G1 _ h1 s1 (.bl _)
theorem ev_ofB {e : Expr} {F : Mo Bool} (h : PBv X fr e F) : PEv X fr e (ofB F) := h

/-! ### tests -/
theorem et_val {e : Expr} {F : Mo Bool} (h : PBv X fr e F) (he : ∀ whole, isTrue e X.env whole = (do let v ← whole; standAt e.pos; holding [v] (truthy v)) := by intro _; rfl) : PTv X fr e F :=
  weakT (pt_val h he) fun σ H Q ⟨env, G, h, w⟩ => tE_bool h (wpM_bind.mpr (wpM_mono w (fun b e' q => (wpM_pure (a := b)).mpr q) fun _ _ q => q))
    (fun b env1 H1 G1 h1 s1 w1 => ⟨b, rfl, w1 H1 G1 h1 s1⟩) fun c e1 E1 H1 G1 h1 s1 => E1 H1 G1 h1 s1
theorem et_of {e : Expr} {F : Mo Bool} (h : PWv X fr e F) : PTv X fr e F := PW.pt h
theorem ew_and1 {F : Mo Bool} (h : PTv X fr a F) : PWv X fr (.BoolOp .And [a] pos) F := pw_and1 h
theorem ew_or1 {F : Mo Bool} (h : PTv X fr a F) : PWv X fr (.BoolOp .Or [a] pos) F := pw_or1 h
theorem ew_and {F1 F2 : Mo Bool} {rest : List Expr} (ha : PTv X fr a F1) (hb : PWv X fr (.BoolOp .And (b :: rest) pos) F2) : PWv X fr (.BoolOp .And (a :: b :: rest) pos) (andF F1 F2) :=
  weakW (pw_and ha hb) fun σ H Q ⟨env, G, h, w⟩ => by
    unfold andF at w
    refine tT_then h w (fun c env1 H1 G1 h1 s1 w1 => ?_) fun c e1 E1 H1 G1 h1 s1 => E1 H1 G1 h1 s1
    cases c with
    | true =>
      rw [if_pos rfl] at w1 ⊢
      exact ⟨env1, G1, h1, wpM_mono w1 (fun b e' q H2 G2 h2 s2 => q H2 G2 h2 (s1.trans s2)) fun c e' q H2 G2 h2 s2 => q H2 G2 h2 (s1.trans s2)⟩
    | false =>
      rw [if_neg Bool.false_ne_true] at w1 ⊢
      exact w1 H1 G1 h1 s1
theorem ew_or {F1 F2 : Mo Bool} {rest : List Expr} (ha : PTv X fr a F1) (hb : PWv X fr (.BoolOp .Or (b :: rest) pos) F2) : PWv X fr (.BoolOp .Or (a :: b :: rest) pos) (orF F1 F2) :=
  weakW (pw_or ha hb) fun σ H Q ⟨env, G, h, w⟩ => by
    unfold orF at w
    refine tT_then h w (fun c env1 H1 G1 h1 s1 w1 => ?_) fun c e1 E1 H1 G1 h1 s1 => E1 H1 G1 h1 s1
    cases c with
    | true =>
      rw [if_pos rfl] at w1 ⊢
      exact w1 H1 G1 h1 s1
    | false =>
      rw [if_neg Bool.false_ne_true] at w1 ⊢
      exact ⟨env1, G1, h1, wpM_mono w1 (fun b e' q H2 G2 h2 s2 => q H2 G2 h2 (s1.trans s2)) fun c e' q H2 G2 h2 s2 => q H2 G2 h2 (s1.trans s2)⟩
theorem et_not {F : Mo Bool} (ha : PTv X fr a F) : PTv X fr (.UnaryOp .Not a pos) (notF F) :=
  weakT (pt_not ha) fun σ H Q ⟨env, G, h, w⟩ => by
    unfold notF at w
    exact tT_then h w (fun c env1 H1 G1 h1 s1 w1 => w1 H1 G1 h1 s1) fun c e1 E1 H1 G1 h1 s1 => E1 H1 G1 h1 s1
def ifF {α : Type} (T : Mo Bool) (F1 F2 : Mo α) : Mo α := do
  let b ← T
  if b = true then F1 else F2
theorem ev_ifExp {c : Expr} {T : Mo Bool} (hc : PTv X fr c T) (ha : PEv X fr a Fa) (hb : PEv X fr b Fb) : PEv X fr (.IfExp c a b pos) (ifF T Fa Fb) :=
  weakE (pe_ifExp hc ha hb) fun σ H Q ⟨env, G, h, w⟩ => by
    unfold ifF at w
    refine tT_then h w (fun c env1 H1 G1 h1 s1 w1 => ?_) fun c e1 E1 H1 G1 h1 s1 => E1 H1 G1 h1 s1
    cases c with
    | true =>
      rw [if_pos rfl] at w1 ⊢
      exact ⟨env1, G1, h1, wpM_mono w1 (fun b e' q H2 G2 v h2 s2 => q H2 G2 v h2 (s1.trans s2)) fun c e' q H2 G2 h2 s2 => q H2 G2 h2 (s1.trans s2)⟩
    | false =>
      rw [if_neg Bool.false_ne_true] at w1 ⊢
      exact ⟨env1, G1, h1, wpM_mono w1 (fun b e' q H2 G2 v h2 s2 => q H2 G2 v h2 (s1.trans s2)) fun c e' q H2 G2 h2 s2 => q H2 G2 h2 (s1.trans s2)⟩
end

/-! ### argument lists, displays -/
def consF (F : Mo Rv) (Fs : Mo (List Rv)) : Mo (List Rv) := do
  let r ← F
  let rs ← Fs
  pure (hold r :: rs)
def nilF : Mo (List Rv) := pure []
def tupF (Fs : Mo (List Rv)) : Mo Rv := do
  let rs ← Fs
  let ds ← forces rs
  if ds.length ≤ sizeLine then pure (.sh (.tuple ds)) else stuckM
def lstF (Fs : Mo (List Rv)) : Mo Rv := do
  let rs ← Fs
  let ds ← forces rs
  if ds.length ≤ sizeLine then pure (.fr ds) else stuckM
section
variable {X : Cx} {fr : Fr} {e : Expr} {es : List Expr} {F : Mo Rv} {Fs : Mo (List Rv)} {pos : Pos}
theorem ea_nil : PAv X fr [] nilF := weakA pa_nil fun σ H Q ⟨env, G, h, w⟩ => w H G [] h .refl trivial
theorem ea_cons (he : PEv X fr e F) (hr : PAv X fr es Fs) (hs : starEach (e :: es) X.env = (false, eval e X.env) :: starEach es X.env := by rfl) : PAv X fr (e :: es) (consF F Fs) :=
  weakA (pa_cons he hr hs) fun σ H Q ⟨env, G, h, w⟩ => by
    unfold consF at w
    refine tE_then h w (fun r1 env1 H1 G1 v1 h1 s1 q1 w1 => ?_) fun c e1 E1 H1 G1 h1 s1 => E1 H1 G1 h1 s1
    obtain ⟨G1', h1', s1', q1'⟩ := hold_ok' h1 q1
    refine tA_then h1' w1 (fun rs env2 H2 G2 vs h2 s2 q2 w2 => ?_) fun c e1 E1 H2 G2 h2 s2 => E1 H2 G2 h2 ((s1.trans s1').trans s2)
    exact w2 H2 G2 _ h2 ((s1.trans s1').trans s2) (rvsOk_cons.mpr ⟨q1'.mono s2, q2⟩)
theorem ev_tup {x1 : Nat} (h : PAv X fr es Fs) : PEv X fr (.Tuple es x1 pos) (tupF Fs) :=
  weakE (pe_tup h) fun σ H Q ⟨env, G, h, w⟩ => by
    unfold tupF at w
    refine tA_then h w (fun rs env1 H1 G1 vs h1 s1 q1 w1 => ?_) fun c e1 E1 H1 G1 h1 s1 => E1 H1 G1 h1 s1
    obtain ⟨ds, env2, G2, h2, s2, d2, w2⟩ := forces_ok h1 q1 (wpM_bind.mp w1)
    split at w2
    · rename_i hz
      refine ⟨by rw [d2.length]; exact hz, fun p hp => ?_⟩
      have := rvTup h2.sub hp d2
      exact w2 _ _ _ (h2.stp this.1) ((s1.trans s2).trans this.1.mono) (this.2.ok h2)
    · exact w2.elim
theorem ev_lst (h : PAv X fr es Fs) : PEv X fr (.List es pos) (lstF Fs) :=
  weakE (pe_lst h) fun σ H Q ⟨env, G, h, w⟩ => by
    unfold lstF at w
    refine tA_then h w (fun rs env1 H1 G1 vs h1 s1 q1 w1 => ?_) fun c e1 E1 H1 G1 h1 s1 => E1 H1 G1 h1 s1
    obtain ⟨ds, env2, G2, h2, s2, d2, w2⟩ := forces_ok h1 q1 (wpM_bind.mp w1)
    split at w2
    · rename_i hz
      refine ⟨by rw [d2.length]; exact hz, fun p hp => ?_⟩
      have := rvFresh h2.sub hp d2
      exact w2 _ _ _ (h2.stp this.1) ((s1.trans s2).trans this.1.mono) (this.2.ok h2)
    · exact w2.elim
end

/-! ### items, slices, minus -/
@[simp] def itemG : PyData → PyData → Option Rv
  | .tuple ds, .int i => (atI ds i).map .sh
  | .list ds, .int i => (atI ds i).map .sh
  | .dict [(.none, .list ds)], .int i => (atI ds i).map .sh
  | .str x, .int i => if x.length ≤ sizeLine then (atI x.cps.toList i).map fun c => .sh (.str ⟨#[c]⟩) else none
  | _, _ => none
@[simp] def negG : PyData → Option Rv
  | .int i => some (.sh (.int (-i)))
  | _ => none
def unF (g : PyData → Option Rv) (F : Mo Rv) : Mo Rv := do
  let r ← F
  let d ← peek r
  liftO (g d)
theorem atI_dq {K : PySem.W.Frag} {G : Hp} {xs : List V} {ds : List PyData} {i : Int} {d : PyData} (h : DqAll K G xs ds) (e : atI ds i = some d) : ∃ v, atI xs i = some v ∧ Dq K G v d := by
  unfold atI at e ⊢
  rw [h.length]
  cases q : ixN ds.length i with
  | none => rw [q] at e; cases e
  | some j =>
    rw [q] at e
    exact h.get e
section
variable {X : Cx} {fr : Fr} {a b : Expr} {Fa Fb : Mo Rv} {pos : Pos}
theorem ev_ix (ha : PEv X fr a Fa) (hb : PEv X fr b Fb) (hs : PlainIx b := by exact fun _ _ => rfl) : PEv X fr (.Subscript a b pos) (binF itemG Fa Fb) := by
  refine weakE (pe_ix ix_seq ha hb hs) (bin_reads fun x y H G d1 d2 res Q s p1 p2 e q => ?_)
  cases d2 with
  | int i =>
    cases d1 with
    | tuple ds =>
      obtain ⟨p, xs, rfl, h1, h2⟩ := dq_tup p1
      simp only [itemG, Option.map_eq_some_iff] at e
      obtain ⟨d, e1, rfl⟩ := e
      obtain ⟨v, e2, hv⟩ := atI_dq h2 e1
      exact .inr (.inl ⟨p, xs, i, v, rfl, dq_int p2, s.sqT h1, e2, q H G v (.refl s) hv⟩)
    | list ds =>
      obtain ⟨p, xs, rfl, h1, h2⟩ := p1
      simp only [itemG, Option.map_eq_some_iff] at e
      obtain ⟨d, e1, rfl⟩ := e
      obtain ⟨v, e2, hv⟩ := atI_dq h2 e1
      exact .inl ⟨p, xs, i, v, rfl, dq_int p2, .of h1, e2, q H G v (.refl s) hv⟩
    | dict kvs =>
      cases (show Dq X.K G x (.dict kvs) from p1) with
      | scr h1 h2 =>
        simp only [itemG, Option.map_eq_some_iff] at e
        obtain ⟨d, e1, rfl⟩ := e
        obtain ⟨v, e2, hv⟩ := atI_dq h2 e1
        exact .inl ⟨_, _, i, v, rfl, dq_int p2, s.sqL h1, e2, q H G v (.refl s) hv⟩
    | str z =>
      simp only [itemG] at e
      split at e
      · rename_i hz
        simp only [Option.map_eq_some_iff] at e
        obtain ⟨c, e1, rfl⟩ := e
        exact .inr (.inr ⟨z, i, c, dq_str p1, dq_int p2, hz, e1, q H G _ (.refl s) (.str _)⟩)
      · cases e
    | _ => cases e
  | _ => cases d1 <;> simp [itemG] at e
theorem ev_neg (ha : PEv X fr a Fa) : PEv X fr (.UnaryOp .USub a pos) (unF negG Fa) :=
  weakE (pe_un un_neg ha) fun σ H Q ⟨env, G, h, w⟩ => by
    unfold unF at w
    refine tE_then h w (fun r1 env1 H1 G1 v1 h1 s1 q1 w1 => ?_) fun c e1 E1 H1 G1 h1 s1 => E1 H1 G1 h1 s1
    obtain ⟨d, p, w2⟩ := peek_ok h1 q1 (wpM_bind.mp w1)
    obtain ⟨res, e, qf⟩ := wpM_lift w2
    cases d <;> simp [negG] at e
    subst e
    exact ⟨_, dq_int p, qf H1 G1 _ h1 s1 (.int _)⟩
end
/-- a slice's part -/
@[simp] def partF : Option (Mo Rv) → Mo (Option Int)
  | none => pure none
  | some F => do
    let r ← F
    match r with
    | .sh (.int i) => pure (some i)
    | _ => stuckM
def cutD (ds : List PyData) (lo hi : Option Int) : List PyData := (ds.drop (HT.sIx ds.length 0 lo)).take (HT.sIx ds.length ds.length hi - HT.sIx ds.length 0 lo)
@[simp] def sliceG (lo hi : Option Int) : PyData → Option Rv
  | .tuple ds => some (.sh (.tuple (cutD ds lo hi)))
  | .list ds => some (.fr (cutD ds lo hi))
  | .dict [(.none, .list ds)] => some (.fr (cutD ds lo hi))
  | _ => none
def sliceF (F : Mo Rv) (lo hi : Option (Mo Rv)) : Mo Rv := do
  let r ← F
  let l ← partF lo
  let h ← partF hi
  let d ← peek (hold r)
  liftO (sliceG l h d)
theorem cut_dq {K : PySem.W.Frag} {G : Hp} {xs : List V} {ds : List PyData} (h : DqAll K G xs ds) (lo hi : Option Int) : DqAll K G (cutV xs lo hi) (cutD ds lo hi) := by
  unfold cutV cutD
  rw [h.length]
  exact (h.drop _).take _
section
variable {X : Cx} {fr : Fr} {a : Expr} {Fa : Mo Rv} {pos p2 : Pos}
def POv (X : Cx) (fr : Fr) (e : Option Expr) (F : Option (Mo Rv)) : Prop := PO X e fun σ H Q => ∃ env G, SR X.K fr env σ H G ∧
  wpM (partF F) env (fun o env' => ∀ H' G', SR X.K fr env' σ H' G' → Sub G G' → Q o H') (fun c env' => ∀ H' G', SR X.K fr env' σ H' G' → Sub G G' → fr.W c H')
theorem eo_none : POv X fr none none := ⟨fun pins s σ H Q I ⟨env, G, h, w⟩ => po_none.run pins s σ H Q I (w H G h .refl)⟩
theorem eo_some (ha : PEv X fr a Fa) : POv X fr (some a) (some Fa) := ⟨fun pins s σ H Q I ⟨env, G, h, w⟩ => (po_some ha).run pins s σ H Q I (by
  unfold partF at w
  refine tE_then h w (fun r1 env1 H1 G1 v1 h1 s1 q1 w1 => ?_) fun c e1 E1 H1 G1 h1 s1 => E1 H1 G1 h1 s1
  cases r1 with
  | sh d =>
    cases d with
    | int i => exact ⟨i, dq_int q1, w1 H1 G1 h1 s1⟩
    | _ => exact w1.elim
  | _ => exact w1.elim)⟩
theorem ev_slice {lo hi : Option Expr} {Fl Fh : Option (Mo Rv)} (ha : PEv X fr a Fa) (hl : POv X fr lo Fl) (hh : POv X fr hi Fh) : PEv X fr (.Subscript a (.Slice lo hi none p2) pos) (sliceF Fa Fl Fh) := by
  refine weakE (pe_slice (sl_tupA.or sl_list) ha hl hh) fun σ H Q ⟨env, G, h, w⟩ => ?_
  unfold sliceF at w
  refine tE_then h w (fun r1 env1 H1 G1 v1 h1 s1 q1 w1 => ?_) fun c e1 E1 H1 G1 h1 s1 => E1 H1 G1 h1 s1
  obtain ⟨G1', h1', s1', q1'⟩ := hold_ok' h1 q1
  have sA := s1.trans s1'
  refine ⟨env1, G1', h1', wpM_mono (wpM_bind.mp w1) (fun l env2 w2 H2 G2 h2 s2 => ?_) fun c e' E' H2 G2 h2 s2 => E' H2 G2 h2 (sA.trans s2)⟩
  refine ⟨env2, G2, h2, wpM_mono (wpM_bind.mp w2) (fun u env3 w3 H3 G3 h3 s3 => ?_) fun c e' E' H3 G3 h3 s3 => E' H3 G3 h3 ((sA.trans s2).trans s3)⟩
  obtain ⟨d, p, w4⟩ := peek_ok h3 (HeldOk.ok ((q1'.mono s2).mono s3)) (wpM_bind.mp w3)
  obtain ⟨res, e, qf⟩ := wpM_lift w4
  have sB := (sA.trans s2).trans s3
  have fin : ∀ H' G' z, Stp H3 G3 H' G' → RvNew X.K H3 H' G' z res → Q z H' := fun H' G' z st rn => qf H' G' z (h3.stp st) (sB.trans st.mono) (rn.ok h3)
  cases d with
  | tuple ds =>
    obtain ⟨b, xs, rfl, k1, k2⟩ := dq_tup p
    simp only [sliceG, Option.some.injEq] at e
    subst e
    refine .inl ⟨b, xs, rfl, h3.sub.sqT k1, fun hw => ?_, fun hw q hq => ?_⟩
    · have e : cutD ds l u = ds := by
        unfold cutD
        rw [← k2.length, hw.1, hw.2]
        simp [k2.length]
      rw [e] at fin
      exact fin H3 G3 _ (.refl h3.sub) (.tup k1 k2)
    · have := rvTup h3.sub hq (cut_dq k2 l u)
      exact fin _ _ _ this.1 this.2
  | list ds =>
    obtain ⟨b, xs, rfl, k1, k2⟩ := p
    simp only [sliceG, Option.some.injEq] at e
    subst e
    refine .inr ⟨b, xs, rfl, .of k1, fun q hq => ?_⟩
    have := rvFresh h3.sub hq (cut_dq k2 l u)
    exact fin _ _ _ this.1 this.2
  | dict kvs =>
    cases (show Dq X.K G3 v1 (.dict kvs) from p) with
    | scr k1 k2 =>
      simp only [sliceG, Option.some.injEq] at e
      subst e
      refine .inr ⟨_, _, rfl, h3.sub.sqL k1, fun q hq => ?_⟩
      have := rvFresh h3.sub hq (cut_dq k2 l u)
      exact fin _ _ _ this.1 this.2
  | _ => cases e
end

/-! ### calls of built-ins -/
def OpN (X : Cx) (f : Value) (g : List PyData → Option Rv) : Prop :=
  ∃ r : List V → Hp → VK → Prop, CallR X f r ∧ ∀ vs H G ds res Q, Sub G H → Pks X.K H G vs ds → g ds = some res →
    (∀ H' G' z, Stp H G H' G' → RvNew X.K H H' G' z res → Q z H') → r vs H Q
def callBF (g : List PyData → Option Rv) (Fs : Mo (List Rv)) : Mo Rv := do
  let rs ← Fs
  let ds ← peeks rs
  liftO (g ds)
section
variable {X : Cx} {fr : Fr} {e : Expr} {es : List Expr} {Fs : Mo (List Rv)} {x : Str} {p pos : Pos} {id T : String} {g : List PyData → Option Rv}
theorem callB_reads {r : List V → Hp → VK → Prop} (hg : ∀ vs H G ds res Q, Sub G H → Pks X.K H G vs ds → g ds = some res → (∀ H' G' z, Stp H G H' G' → RvNew X.K H H' G' z res → Q z H') → r vs H Q) :
    ∀ σ H Q, tE X.K fr (callBF g Fs) σ H Q → tCB r (tA X.K fr Fs) σ H Q := fun σ H Q ⟨env, G, h, w⟩ => by
  unfold callBF at w
  refine tA_then h w (fun rs env1 H1 G1 vs h1 s1 q1 w1 => ?_) fun c e1 E1 H1 G1 h1 s1 => E1 H1 G1 h1 s1
  obtain ⟨ds, p1, w2⟩ := peeks_ok h1 q1 (wpM_bind.mp w1)
  obtain ⟨res, e, qf⟩ := wpM_lift w2
  exact hg vs H1 G1 ds res Q h1.sub p1 e fun H' G' z st rn => qf H' G' z (h1.stp st) (s1.trans st.mono) (rn.ok h1)
theorem ev_callB (hc : OpN X (.builtin id) g) (hg : Gl X x) (hm : X.mg x = none) (hv : bootBuiltins x = some (.builtin id)) (ha : PAv X fr (e :: es) Fs) (hn : x ≠ "__name__" := by decide) (hdb : (x == ("__debug__" : Str)) = false := by decide)
    (he : starEach (e :: es) X.env = (false, eval e X.env) :: starEach es X.env := by rfl) (hpl : (backTo pos (starEach es X.env)).any (·.1) = false := by rfl) : PEv X fr (.Call (.Name x p) (e :: es) [] pos) (callBF g Fs) :=
  let ⟨_, hr, hq⟩ := hc
  weakE (pe_callB hr hg hm hv ha hn hdb he hpl) (callB_reads hq)
theorem ev_callTy (hc : OpN X (.type T) g) (hg : Gl X x) (hm : X.mg x = none) (hv : bootBuiltins x = some (.type T)) (ha : PAv X fr (e :: es) Fs) (hn : x ≠ "__name__" := by decide) (hdb : (x == ("__debug__" : Str)) = false := by decide)
    (he : starEach (e :: es) X.env = (false, eval e X.env) :: starEach es X.env := by rfl) (hpl : (backTo pos (starEach es X.env)).any (·.1) = false := by rfl) : PEv X fr (.Call (.Name x p) (e :: es) [] pos) (callBF g Fs) :=
  let ⟨_, hr, hq⟩ := hc
  weakE (pe_callTy hr hg hm hv ha hn hdb he hpl) (callB_reads hq)
end
end Cf
/-! Cf, part E: built-ins. -/
namespace Cf
open PySem PySem.Spec PyProof.Rows L2

@[simp] def lenG : List PyData → Option Rv
  | [.tuple ds] => some (.sh (.int ds.length))
  | [.list ds] => some (.sh (.int ds.length))
  | [.dict [(.none, .list ds)]] => some (.sh (.int ds.length))
  | [.str x] => if x.length ≤ sizeLine then some (.sh (.int x.length)) else none
  | _ => none
@[simp] def absG : List PyData → Option Rv
  | [.int i] => some (.sh (.int (i.natAbs : Int)))
  | _ => none
@[simp] def min2G : List PyData → Option Rv
  | [.int i, .int j] => some (.sh (.int (min i j)))
  | _ => none
@[simp] def max2G : List PyData → Option Rv
  | [.int i, .int j] => some (.sh (.int (max i j)))
  | _ => none
@[simp] def intG : List PyData → Option Rv
  | [.int i] => some (.sh (.int i))
  | [.bool b] => some (.sh (.int (if b then 1 else 0)))
  | _ => none
@[simp] def listG : List PyData → Option Rv
  | [.tuple ds] => some (.fr ds)
  | [.list ds] => some (.fr ds)
  | _ => none
@[simp] def tupleG : List PyData → Option Rv
  | [.tuple ds] => some (.sh (.tuple ds))
  | [.list ds] => some (.sh (.tuple ds))
  | _ => none
section
variable {K : PySem.W.Frag} {H G : Hp}
theorem pks1 {vs : List V} {d : PyData} (h : Pks K H G vs [d]) : ∃ v, vs = [v] ∧ Pk K H G v d := by
  match vs, h with
  | [v], h => exact ⟨v, rfl, h.1⟩
  | [], h => exact h.elim
  | _ :: _ :: _, h => exact h.2.elim
theorem pks2 {vs : List V} {d e : PyData} (h : Pks K H G vs [d, e]) : ∃ v u, vs = [v, u] ∧ Pk K H G v d ∧ Pk K H G u e := by
  match vs, h with
  | [v, u], h => exact ⟨v, u, rfl, h.1, h.2.1⟩
  | [], h => exact h.elim
  | [_], h => exact h.2.elim
  | _ :: _ :: _ :: _, h => exact h.2.2.elim
end
section
variable {X : Cx}
theorem opN_len : OpN X (.builtin "len") lenG := by
  refine ⟨_, call_len_seq.or call_len_str, fun vs H G ds res Q s p e q => ?_⟩
  match ds, e with
  | [.tuple ds], e =>
    cases e
    obtain ⟨v, rfl, p1⟩ := pks1 p
    obtain ⟨a, xs, rfl, h1, h2⟩ := dq_tup p1
    exact .inl ⟨a, xs, rfl, .inr (s.sqT h1), by rw [h2.length]; exact q H G _ (.refl s) (.int _)⟩
  | [.list ds], e =>
    cases e
    obtain ⟨v, rfl, p1⟩ := pks1 p
    obtain ⟨a, xs, rfl, h1, h2⟩ := p1
    exact .inl ⟨a, xs, rfl, .inl (.of h1), by rw [h2.length]; exact q H G _ (.refl s) (.int _)⟩
  | [.dict [(.none, .list ds)]], e =>
    cases e
    obtain ⟨v, rfl, p1⟩ := pks1 p
    cases (show Dq X.K G v _ from p1) with
    | scr h1 h2 => exact .inl ⟨_, _, rfl, .inl (s.sqL h1), by rw [h2.length]; exact q H G _ (.refl s) (.int _)⟩
  | [.str x], e =>
    simp only [lenG] at e
    split at e
    · rename_i hz
      cases e
      obtain ⟨v, rfl, p1⟩ := pks1 p
      exact .inr ⟨x, by rw [dq_str p1], hz, q H G _ (.refl s) (.int _)⟩
    · cases e
theorem opN_abs : OpN X (.builtin "abs") absG := by
  refine ⟨_, call_abs, fun vs H G ds res Q s p e q => ?_⟩
  match ds, e with
  | [.int i], e =>
    cases e
    obtain ⟨v, rfl, p1⟩ := pks1 p
    refine ⟨i, by rw [dq_int p1], ?_⟩
    have z : (if i < 0 then -i else i) = (i.natAbs : Int) := by split <;> omega
    rw [z]
    exact q H G _ (.refl s) (.int _)
theorem opN_min2 (hc : X.calm = true) : OpN X (.builtin "min") min2G := by
  refine ⟨_, call_min2 hc, fun vs H G ds res Q s p e q => ?_⟩
  match ds, e with
  | [.int i, .int j], e =>
    cases e
    obtain ⟨v, u, rfl, p1, p2⟩ := pks2 p
    refine ⟨i, j, by rw [dq_int p1, dq_int p2], ?_⟩
    have z : (if j < i then j else i) = min i j := by omega
    rw [z]
    exact q H G _ (.refl s) (.int _)
theorem opN_max2 (hc : X.calm = true) : OpN X (.builtin "max") max2G := by
  refine ⟨_, call_max2 hc, fun vs H G ds res Q s p e q => ?_⟩
  match ds, e with
  | [.int i, .int j], e =>
    cases e
    obtain ⟨v, u, rfl, p1, p2⟩ := pks2 p
    refine ⟨i, j, by rw [dq_int p1, dq_int p2], ?_⟩
    have z : (if j > i then j else i) = max i j := by omega
    rw [z]
    exact q H G _ (.refl s) (.int _)
theorem opN_int : OpN X (.type "int") intG := by
  refine ⟨_, call_int1, fun vs H G ds res Q s p e q => ?_⟩
  match ds, e with
  | [.int i], e =>
    cases e
    obtain ⟨v, rfl, p1⟩ := pks1 p
    exact .inl ⟨i, by rw [dq_int p1], q H G _ (.refl s) (.int _)⟩
  | [.bool b], e =>
    cases e
    obtain ⟨v, rfl, p1⟩ := pks1 p
    exact .inr ⟨b, by rw [dq_bl p1], q H G _ (.refl s) (.int _)⟩
theorem opN_list : OpN X (.type "list") listG := by
  refine ⟨_, call_list_of, fun vs H G ds res Q s p e q => ?_⟩
  match ds, e with
  | [.tuple ds], e =>
    cases e
    obtain ⟨v, rfl, p1⟩ := pks1 p
    obtain ⟨a, xs, rfl, h1, h2⟩ := dq_tup p1
    refine ⟨a, xs, rfl, .inr (s.sqT h1), fun l hl => ?_⟩
    have := rvFresh s hl h2
    exact q _ _ _ this.1 this.2
  | [.list ds], e =>
    cases e
    obtain ⟨v, rfl, p1⟩ := pks1 p
    obtain ⟨a, xs, rfl, h1, h2⟩ := p1
    refine ⟨a, xs, rfl, .inl (.of h1), fun l hl => ?_⟩
    have := rvFresh s hl h2
    exact q _ _ _ this.1 this.2
theorem opN_tuple : OpN X (.type "tuple") tupleG := by
  refine ⟨_, call_tuple_of, fun vs H G ds res Q s p e q => ?_⟩
  match ds, e with
  | [.tuple ds], e =>
    cases e
    obtain ⟨v, rfl, p1⟩ := pks1 p
    obtain ⟨a, xs, rfl, h1, h2⟩ := dq_tup p1
    exact ⟨a, xs, rfl, .inr ⟨s.sqT h1, q H G _ (.refl s) (.tup h1 h2)⟩⟩
  | [.list ds], e =>
    cases e
    obtain ⟨v, rfl, p1⟩ := pks1 p
    obtain ⟨a, xs, rfl, h1, h2⟩ := p1
    refine ⟨a, xs, rfl, .inl ⟨.of h1, fun l hl => ?_⟩⟩
    have := rvTup s hl h2
    exact q _ _ _ this.1 this.2
end

/-! ### isinstance -/
@[simp] def tyName : PyData → String
  | .none => "NoneType"
  | .bool _ => "bool"
  | .int _ => "int"
  | .str _ => "str"
  | .list _ => "list"
  | .tuple _ => "tuple"
  | .dict _ => "list"
@[simp] def isTy (T : String) (d : PyData) : Bool := tyName d == T || (T == "int" && tyName d == "bool")
theorem kit_isTy {T : String} (h : T ∈ ["int", "bool", "str", "list", "tuple"]) (d : PyData) : kitB (tyName d) T = some (isTy T d) := by
  simp only [List.mem_cons, List.not_mem_nil, or_false] at h
  rcases h with rfl | rfl | rfl | rfl | rfl <;> cases d <;> (simp only [isTy, tyName]; decide +kernel)
theorem ty_pk {K : PySem.W.Frag} {H G : Hp} {v : V} {d : PyData} (s : Sub G H) (h : Pk K H G v d) : TyX K H v (.type (tyName d)) := by
  cases d with
  | none => cases dq_non h; exact .base .non
  | bool b => cases dq_bl h; exact .base (.bl b)
  | int b => cases dq_int h; exact .base (.int b)
  | str b => cases dq_str h; exact .base (.str b)
  | list ds => obtain ⟨a, xs, rfl, h1, _⟩ := h; exact .base (.lst h1)
  | tuple ds =>
    obtain ⟨a, xs, rfl, h1, _⟩ := dq_tup h
    rcases s.sqT h1 with (h1 | ⟨o, h1⟩) | ⟨o, its, n, h1, h2, _⟩
    · exact .base (.tup h1)
    · exact .fTuple h1
    · exact .kTuple h1 h2
  | dict kvs =>
    cases (show Dq K G v (.dict kvs) from h) with
    | scr h1 h2 =>
      rcases s.sqL h1 with (h1 | ⟨o, h1⟩) | ⟨o, its, n, h1, h2, _⟩
      · exact .base (.lst h1)
      · exact .base (.frz h1)
      · exact .kList h1 h2
def isF (T : String) (F : Mo Rv) : Mo Bool := do
  let r ← F
  let d ← peek r
  pure (isTy T d)
section
variable {X : Cx} {fr : Fr} {e : Expr} {F : Mo Rv} {p pt pos : Pos} {x : Str} {T : String}
theorem eb_is (hT : T ∈ ["int", "bool", "str", "list", "tuple"]) (hg : Gl X "isinstance") (hm : X.mg "isinstance" = none) (hgT : Gl X x) (hmT : X.mg x = none) (hv : bootBuiltins x = some (.type T)) (he : PEv X fr e F)
    (hs : starEach [e, .Name x pt] X.env = (false, eval e X.env) :: starEach [.Name x pt] X.env := by rfl) (hs1 : starEach [.Name x pt] X.env = (false, eval (.Name x pt) X.env) :: starEach [] X.env := by rfl)
    (hpl : (backTo pos (starEach [.Name x pt] X.env)).any (·.1) = false := by rfl) (hn : x ≠ "__name__" := by decide) (hd : (x == ("__debug__" : Str)) = false := by decide) (hvi : bootBuiltins "isinstance" = some (.builtin "isinstance") := by decide +kernel) :
    PBv X fr (.Call (.Name "isinstance" p) [e, .Name x pt] [] pos) (isF T F) :=
  weakE (pe_callB call_isi hg hm hvi (pa_cons he (pa_cons (pe_bltn (v := .ty T) hgT hmT hv rfl hn hd) pa_nil hs1) hs) (by decide) (by decide) hs hpl) fun σ H Q ⟨env, G, h, w⟩ => by
    unfold ofB isF at w
    rw [wpM_bind, wpM_bind] at w
    refine ⟨env, G, h, wpM_mono w (fun r env1 w1 H1 G1 v h1 s1 q1 => ?_) fun c e1 E1 H1 G1 h1 s1 => E1 H1 G1 h1 s1⟩
    obtain ⟨d, p1, w2⟩ := peek_ok h1 q1 (wpM_bind.mp w1)
    exact ⟨v, .ty T, .type (tyName d), .type T, isTy T d, rfl, .ty T, ty_pk h1.sub p1, kit_ty (kit_isTy hT d), w2 H1 G1 _ h1 s1 (.bl _)⟩
end
end Cf
/-! Cf, part F: slots that change, statements. -/
namespace Cf
open PySem PySem.Spec PyProof.Rows L2

section
variable {K : PySem.W.Frag} {fr : Fr} {env : Fv} {σ : L2.St} {H G : Hp} {i : Nat}
/-- a slot takes a datum that stands still -/
theorem SR.setSh (h : SR K fr env σ H G) {v : V} {d : PyData} (q : Dq K G v d) : SR K fr (env.set i (.sh d)) (σ.set i (some v)) H G := by
  have hlen := h.len
  refine ⟨h.sub, h.prot, h.dj, h.tab, h.pt, h.lent, by simpa using h.len, fun j sl e => ?_, fun j k t t' es es' b hjk ej ek => ?_⟩
  · by_cases hj : j = i
    · subst hj
      by_cases hl : j < env.length
      · rw [List.getElem?_set_self hl] at e
        cases e
        rw [List.getElem?_set_self (by omega)]
        exact ⟨v, rfl, q⟩
      · rw [List.getElem?_eq_none (by simpa using hl)] at e; cases e
    · rw [List.getElem?_set_ne (Ne.symm hj)] at e ⊢
      exact h.slots j sl e
  · have n : ∀ (m : Nat) (t : Option Nat) (es : List PyData), (env.set i (.sh d))[m]? = some (.own t es) → m ≠ i ∧ env[m]? = some (.own t es) := fun m t es e => by
      by_cases hm : m = i
      · subst hm
        by_cases hl : m < env.length
        · rw [List.getElem?_set_self hl] at e; cases e
        · rw [List.getElem?_eq_none (by simpa using hl)] at e; cases e
      · rw [List.getElem?_set_ne (Ne.symm hm)] at e; exact ⟨hm, e⟩
    obtain ⟨n1, e1⟩ := n _ _ _ ej
    obtain ⟨n2, e2⟩ := n _ _ _ ek
    rw [List.getElem?_set_ne (Ne.symm n1), List.getElem?_set_ne (Ne.symm n2)]
    exact h.dist j k t t' es es' b hjk e1 e2
/-- a slot takes a new list -/
theorem SR.setOwn (h : SR K fr env σ H G) {v : V} {ds : List PyData} (q : RvOk K fr env σ H G v (.fr ds)) : SR K fr (env.set i (.own none ds)) (σ.set i (some v)) H G := by
  obtain ⟨a, xs, rfl, k1, k2, k3, k4, k5, k6⟩ := q
  have hlen := h.len
  have n : ∀ (m : Nat) (t : Option Nat) (es : List PyData), (env.set i (.own none ds))[m]? = some (.own t es) → m = i ∧ m < env.length ∨ m ≠ i ∧ env[m]? = some (.own t es) := fun m t es e => by
    by_cases hm : m = i
    · subst hm
      by_cases hl : m < env.length
      · exact .inl ⟨rfl, hl⟩
      · rw [List.getElem?_eq_none (by simpa using hl)] at e; cases e
    · rw [List.getElem?_set_ne (Ne.symm hm)] at e; exact .inr ⟨hm, e⟩
  refine ⟨h.sub, h.prot, h.dj, h.tab, h.pt, h.lent, by simpa using h.len, fun j sl e => ?_, fun j k t t' es es' b hjk ej ek => ?_⟩
  · by_cases hj : j = i
    · subst hj
      by_cases hl : j < env.length
      · rw [List.getElem?_set_self hl] at e
        cases e
        rw [List.getElem?_set_self (by omega)]
        exact ⟨a, xs, rfl, k1, k2, k3, k4, k5⟩
      · rw [List.getElem?_eq_none (by simpa using hl)] at e; cases e
    · rw [List.getElem?_set_ne (Ne.symm hj)] at e ⊢
      exact h.slots j sl e
  · rcases n _ _ _ ej with ⟨rfl, l1⟩ | ⟨n1, e1⟩
    · rcases n _ _ _ ek with ⟨rfl, l2⟩ | ⟨n2, e2⟩
      · exact absurd rfl hjk
      · rw [List.getElem?_set_self (by omega), List.getElem?_set_ne (Ne.symm n2)]
        intro z
        cases z
        exact k6 _ _ _ e2
    · rcases n _ _ _ ek with ⟨rfl, l2⟩ | ⟨n2, e2⟩
      · rw [List.getElem?_set_ne (Ne.symm n1), List.getElem?_set_self (by omega)]
        intro z y
        cases y
        exact k6 _ _ _ e1 z
      · rw [List.getElem?_set_ne (Ne.symm n1), List.getElem?_set_ne (Ne.symm n2)]
        exact h.dist j k t t' es es' b hjk e1 e2
/-- a slot's own list is changed -/
theorem SR.write (h : SR K fr env σ H G) {t : Option Nat} {ds ds' : List PyData} {a : Addr} {xs' : List V} (e : env[i]? = some (.own t ds)) (ha : σ[i]? = some (some (.ref a))) (q : DqAll K G xs' ds') :
    SR K fr (env.set i (.own t ds')) σ (upd H a (.lst xs')) G := by
  obtain ⟨a', xs, e1, k1, k2, k3, k4, k5⟩ := h.ownAt e
  rw [ha] at e1
  cases e1
  have hi : i < env.length := (List.getElem?_eq_some_iff.mp e).1
  have n : ∀ (m : Nat) (t1 : Option Nat) (es : List PyData), (env.set i (.own t ds'))[m]? = some (.own t1 es) → ∃ t2 es2, env[m]? = some (.own t2 es2) := fun m t1 es em => by
    by_cases hm : m = i
    · subst hm; exact ⟨_, _, e⟩
    · rw [List.getElem?_set_ne (Ne.symm hm)] at em; exact ⟨_, _, em⟩
  refine ⟨fun b o q => ?_, fun b o q => ?_, h.dj, fun P hP => ?_, h.pt, fun b hb => ?_, by simpa using h.len, fun j sl ej => ?_, fun j k t1 t2 es es' b hjk ej ek => ?_⟩
  · rw [upd_ne (ne_of_none q k3)]; exact h.sub b o q
  · rw [upd_ne (ne_of_none q k4)]; exact h.prot b o q
  · obtain ⟨⟨ps, e2, r⟩, g⟩ := h.tab P hP
    have : P ≠ a := fun z => by rw [z, k1] at e2; cases e2
    exact ⟨⟨ps, by rw [upd_ne this]; exact e2, r⟩, g⟩
  · by_cases hb' : b = a
    · rw [hb', upd_same]; simp
    · rw [upd_ne hb']; exact h.lent b hb
  · by_cases hj : j = i
    · subst hj
      rw [List.getElem?_set_self hi] at ej
      cases ej
      exact ⟨a, xs', by rw [ha]; rfl, upd_same, q, k3, k4, k5⟩
    · rw [List.getElem?_set_ne (Ne.symm hj)] at ej
      have z := h.slots j sl ej
      cases sl with
      | un => trivial
      | sh d => exact z
      | own t1 es =>
        obtain ⟨b, ys, e1, m1, m2⟩ := h.ownAt ej
        have hb : b ≠ a := fun z => h.dist i j t t1 ds es a (Ne.symm hj) e ej ha (by rw [← z]; exact e1)
        exact ⟨b, ys, by rw [e1]; rfl, by rw [upd_ne hb]; exact m1, m2⟩
  · obtain ⟨t3, es3, e3⟩ := n _ _ _ ej
    obtain ⟨t4, es4, e4⟩ := n _ _ _ ek
    exact h.dist j k t3 t4 es3 es4 b hjk e3 e4
end

/-! ### changing a list of our own -/
def getOwn (i : Nat) : Mo (List PyData) := fun e => match e[i]? with
  | some (.own _ ds) => .ok ds e
  | _ => .stuck
def putOwn (i : Nat) (ds : List PyData) : Mo Unit := fun e => match e[i]? with
  | some (.own t _) => .ok () (e.set i (.own t ds))
  | _ => .stuck
def needOwn (i : Nat) : Mo Unit := fun e => match e[i]? with
  | some (.own _ _) => .ok () e
  | _ => .stuck
/-- x.append(e) -/
def appendF (i : Nat) (F : Mo Rv) : Mo Rv := do
  needOwn i
  let r ← F
  let d ← force r
  let ds ← getOwn i
  if ds.length < sizeLine then do
    putOwn i (ds ++ [d])
    pure (.sh .none)
  else stuckM
/-- x.pop() -/
def popF (i : Nat) : Mo Rv := do
  let ds ← getOwn i
  match ds.getLast? with
  | some d => do
    putOwn i ds.dropLast
    pure (.sh d)
  | none => stuckM
section
variable {X : Cx} {fr : Fr}
theorem wpM_own {α : Type} {i : Nat} {m : List PyData → Mo α} {env : Fv} {Q : α → Fv → Prop} {E : Nat → Fv → Prop} (w : wpM (getOwn i >>= m) env Q E) : ∃ t ds, env[i]? = some (.own t ds) ∧ wpM (m ds) env Q E := by
  rw [wpM_bind] at w
  unfold wpM getOwn at w
  cases e : env[i]? with
  | none => simp [e] at w
  | some sl =>
    cases sl with
    | un => simp [e] at w
    | sh d => simp [e] at w
    | own t ds =>
      simp only [e] at w
      exact ⟨t, ds, rfl, w⟩
theorem wpM_need {α : Type} {i : Nat} {m : Mo α} {env : Fv} {Q : α → Fv → Prop} {E : Nat → Fv → Prop} (w : wpM (needOwn i >>= fun _ => m) env Q E) : ∃ t ds, env[i]? = some (.own t ds) ∧ wpM m env Q E := by
  rw [wpM_bind] at w
  unfold wpM needOwn at w
  cases e : env[i]? with
  | none => simp [e] at w
  | some sl =>
    cases sl with
    | un => simp [e] at w
    | sh d => simp [e] at w
    | own t ds =>
      simp only [e] at w
      exact ⟨t, ds, rfl, w⟩
theorem wpM_put {α : Type} {i : Nat} {es : List PyData} {m : Mo α} {env : Fv} {Q : α → Fv → Prop} {E : Nat → Fv → Prop} {t : Option Nat} {ds : List PyData} (he : env[i]? = some (.own t ds)) (w : wpM (putOwn i es >>= fun _ => m) env Q E) : wpM m (env.set i (.own t es)) Q E := by
  rw [wpM_bind] at w
  unfold wpM putOwn at w
  simp only [he] at w
  exact w
variable {o e : Expr} {i : Nat} {F : Mo Rv} {apos cpos : Pos}
theorem tE_read {env : Fv} {G H : Hp} {σ : L2.St} {Q : VK} (h : SR X.K fr env σ H G) {t : Option Nat} {ds : List PyData} (e : env[i]? = some (.own t ds))
    (q : ∀ a H1 G1 xs, SR X.K fr env σ H1 G1 → Sub G G1 → σ[i]? = some (some (.ref a)) → H1 a = some (.lst xs) → DqAll X.K G1 xs ds → Q (.ref a) H1) : tE X.K fr (readF i) σ H Q := by
  refine ⟨env, G, h, ?_⟩
  unfold wpM readF
  simp only [e]
  intro H1 G1 v h1 s1 r
  obtain ⟨a, xs, e1, k1, k2, _⟩ := h1.ownAt e
  have r' : σ[i]? = some (some v) := r
  rw [e1] at r'
  cases r'
  exact q a H1 G1 xs h1 s1 e1 k1 k2
theorem ev_append (ho : PEv X fr o (readF i)) (ha : PEv X fr e F) (hbase : attributeBase o "append" X.env (eval o X.env) = eval o X.env := by rfl)
    (hfew : ((backTo cpos (starEach [e] X.env)).all (fun x => !x.1) && (backToKw cpos (keywordEach [] X.env)).all (fun x => x.1.isSome) && decide ([e].length + ([] : List Keyword).length + (if ([] : List Keyword).isEmpty then 0 else 1) < 30)) = true := by rfl)
    (hline : (apos.endLine == cpos.line) = true := by rfl) (hs : starEach [e] X.env = (false, eval e X.env) :: starEach [] X.env := by rfl) : PEv X fr (.Call (.Attribute o "append" apos) [e] [] cpos) (appendF i F) :=
  weakE (pe_bm PySem.F.plainAttrs_list PySem.F.slot_list_append PySem.F.type_list_append mt_append ho (pa_cons ha pa_nil hs) hbase hfew hline hs rfl) fun σ H Q ⟨env, G, h, w⟩ => by
    unfold appendF at w
    obtain ⟨t, ds, e0, w1⟩ := wpM_need w
    refine tE_read h e0 fun a H1 G1 xs h1 s1 e1 k1 k2 => ⟨.inl ⟨rfl, xs, .of k1⟩, ?_⟩
    refine tE_then h1 w1 (fun r env2 H2 G2 v h2 s2 q2 w2 => ?_) fun c e1 E1 H2 G2 h2 s2 => E1 H2 G2 h2 (s1.trans s2)
    obtain ⟨d, env3, G3, h3, s3, d3, w3⟩ := force_ok h2 q2 (wpM_bind.mp w2)
    obtain ⟨t4, ds4, e4, w4⟩ := wpM_own w3
    obtain ⟨a4, xs4, z4, m1, m2, _⟩ := h3.ownAt e4
    rw [e1] at z4
    cases z4
    split at w4
    · rename_i hz
      have w5 := wpM_put e4 w4
      have h5 := h3.write e4 e1 (m2.append (.cons d3 .nil))
      exact ⟨a, xs4, v, rfl, rfl, m1, by rw [m2.length]; exact hz, w5 _ _ _ h5 ((s1.trans s2).trans s3) .non⟩
    · exact w4.elim
theorem ev_pop (ho : PEv X fr o (readF i)) (hbase : attributeBase o "pop" X.env (eval o X.env) = eval o X.env := by rfl) (hline : (apos.endLine == cpos.line) = true := by rfl) : PEv X fr (.Call (.Attribute o "pop" apos) [] [] cpos) (popF i) :=
  weakE (pe_bm0 PySem.F.plainAttrs_list PySem.F.slot_list_pop PySem.F.type_list_pop mt_pop ho hbase hline) fun σ H Q ⟨env, G, h, w⟩ => by
    unfold popF at w
    obtain ⟨t, ds, e0, w1⟩ := wpM_own w
    refine tE_read h e0 fun a H1 G1 xs h1 s1 e1 k1 k2 => ⟨.inl ⟨rfl, xs, .of k1⟩, ?_⟩
    cases z : ds.getLast? with
    | none => rw [z] at w1; exact w1.elim
    | some d =>
      rw [z] at w1
      have w2 := wpM_put e0 w1
      have zi : ds[ds.length - 1]? = some d := by rw [← List.getLast?_eq_getElem?]; exact z
      obtain ⟨v, y, hv⟩ := k2.get zi
      have hl := k2.length
      rw [← hl] at y
      exact ⟨a, xs, v, rfl, rfl, k1, y, w2 _ _ _ (h1.write e0 e1 k2.dropLast) s1 hv⟩
end

/-! ### statements -/
inductive Out where
  | nx | bk | ct
  | rt (r : Rv)
/-- what is asked behind a statement that began at G -/
def SPost (K : PySem.W.Frag) (fr : Fr) (D : Ends) (G : Hp) (o : Out) (env' : Fv) : Prop := match o with
  | .nx => ∀ σ' H' G', SR K fr env' σ' H' G' → Sub G G' → D.nx σ' H'
  | .bk => ∀ σ' H' G', SR K fr env' σ' H' G' → Sub G G' → D.bk σ' H'
  | .ct => ∀ σ' H' G', SR K fr env' σ' H' G' → Sub G G' → D.ct σ' H'
  | .rt r => ∀ σ' H' G' v, SR K fr env' σ' H' G' → Sub G G' → RvOk K fr env' σ' H' G' v r → D.rt v H'
def SExc (K : PySem.W.Frag) (fr : Fr) (G : Hp) (c : Nat) (env' : Fv) : Prop := ∀ σ' H' G', SR K fr env' σ' H' G' → Sub G G' → fr.W c H'
theorem SPost.mono {K : PySem.W.Frag} {fr : Fr} {D : Ends} {G G1 : Hp} {o : Out} {env' : Fv} (s : Sub G G1) (h : SPost K fr D G o env') : SPost K fr D G1 o env' := by
  cases o with
  | rt r => exact fun σ' H' G' v h1 s1 => h σ' H' G' v h1 (s.trans s1)
  | _ => exact fun σ' H' G' h1 s1 => h σ' H' G' h1 (s.trans s1)
theorem SExc.mono {K : PySem.W.Frag} {fr : Fr} {G G1 : Hp} {c : Nat} {env' : Fv} (s : Sub G G1) (h : SExc K fr G c env') : SExc K fr G1 c env' := fun σ' H' G' h1 s1 => h σ' H' G' h1 (s.trans s1)
def tS (K : PySem.W.Frag) (fr : Fr) (F : Mo Out) : TS := fun D σ H => ∃ env G, SR K fr env σ H G ∧ wpM F env (SPost K fr D G) (SExc K fr G)
theorem tS_of {K : PySem.W.Frag} {fr : Fr} {F : Mo Out} {D : Ends} {σ : L2.St} {H G G1 : Hp} {env : Fv} (h : SR K fr env σ H G1) (s : Sub G G1) (w : wpM F env (SPost K fr D G) (SExc K fr G)) : tS K fr F D σ H :=
  ⟨env, G1, h, wpM_mono w (fun _ _ q => q.mono s) fun _ _ q => q.mono s⟩
def PSv (X : Cx) (fr : Fr) (st : Stmt) (F : Mo Out) : Prop := PS X st (tS X.K fr F)
def PBs (X : Cx) (fr : Fr) (st : List Stmt) (F : Mo Out) : Prop := PSs X st (tS X.K fr F)
theorem weakS {X : Cx} {st : Stmt} {t t' : TS} (h : PS X st t) (w : ∀ D σ H, t' D σ H → t D σ H) : PS X st t' := ⟨fun pins s σ H D I q => h.run pins s σ H D I (w D σ H q)⟩
theorem weakB {X : Cx} {st : List Stmt} {t t' : TS} (h : PSs X st t) (w : ∀ D σ H, t' D σ H → t D σ H) : PSs X st t' := ⟨fun pins s σ H D I q => h.run pins s σ H D I (w D σ H q)⟩
def skipF : Mo Out := pure .nx
def seqF (F1 F2 : Mo Out) : Mo Out := do
  match ← F1 with
  | .nx => F2
  | o => pure o
/-- the slot takes the value -/
def storeF (i : Nat) (r : Rv) : Mo Unit := fun e => match r with
  | .sh d => .ok () (e.set i (.sh d))
  | .fr ds => .ok () (e.set i (.own none ds))
  | .sl j => match e[j]? with
    | some (.sh d) => .ok () (e.set i (.sh d))
    | some (.own none ds) => .ok () ((e.set j (.sh (.list ds))).set i (.sh (.list ds)))
    | _ => .stuck
def setF (i : Nat) (F : Mo Rv) : Mo Out := do
  let r ← F
  storeF i r
  pure .nx
def dropF (F : Mo Rv) : Mo Out := do
  let _ ← F
  pure .nx
def retF (F : Mo Rv) : Mo Out := do
  let r ← F
  pure (.rt r)
section
variable {X : Cx} {fr : Fr} {st : Stmt} {rest : List Stmt} {e : Expr} {F : Mo Rv} {pos : Pos}
theorem store_ok3 {K : PySem.W.Frag} {env : Fv} {σ : L2.St} {H G : Hp} {v : V} {r : Rv} {i : Nat} (h : SR K fr env σ H G) (q : RvOk K fr env σ H G v r) {Q : Unit → Fv → Prop} {E : Nat → Fv → Prop} (w : wpM (storeF i r) env Q E) :
    ∃ env' G', SR K fr env' (σ.set i (some v)) H G' ∧ Sub G G' ∧ Q () env' := by
  cases r with
  | sh d => exact ⟨_, G, h.setSh q, .refl, w⟩
  | fr ds => exact ⟨_, G, h.setOwn q, .refl, w⟩
  | sl j =>
    unfold wpM storeF at w
    have q' : σ[j]? = some (some v) := q
    cases e : env[j]? with
    | none => simp [e] at w
    | some sl =>
      cases sl with
      | un => simp [e] at w
      | sh d =>
        simp only [e] at w
        obtain ⟨x, e1, e2⟩ := h.shAt e
        rw [q'] at e1
        cases e1
        exact ⟨_, G, h.setSh e2, .refl, w⟩
      | own t ds =>
        cases t with
        | some k => simp [e] at w
        | none =>
          simp only [e] at w
          obtain ⟨G', h1, s1, k1⟩ := freeze h e
          exact ⟨_, G', h1.setSh (k1 v q'), s1, w⟩
theorem es_nil : PBs X fr [] skipF := weakB pss_nil fun D σ H ⟨env, G, h, w⟩ => w σ H G h .refl
theorem es_pass : PSv X fr (.Pass pos) skipF := weakS ps_pass fun D σ H ⟨env, G, h, w⟩ => w σ H G h .refl
theorem es_break : PSv X fr (.Break pos) (pure .bk) := weakS ps_break fun D σ H ⟨env, G, h, w⟩ => w σ H G h .refl
theorem es_continue : PSv X fr (.Continue pos) (pure .ct) := weakS ps_continue fun D σ H ⟨env, G, h, w⟩ => w σ H G h .refl
theorem es_one {F1 : Mo Out} (h1 : PSv X fr st F1) : PBs X fr [st] F1 := pss_one h1
theorem es_cons {F1 F2 : Mo Out} (h1 : PSv X fr st F1) (h2 : PBs X fr rest F2) : PBs X fr (st :: rest) (seqF F1 F2) :=
  weakB (pss_cons h1 h2) fun D σ H ⟨env, G, h, w⟩ => by
    unfold seqF at w
    refine ⟨env, G, h, wpM_mono (wpM_bind.mp w) (fun o env' w' => ?_) fun c env' w' => w'⟩
    cases o with
    | nx => exact fun σ' H' G' h' s' => tS_of h' s' w'
    | bk => exact w'
    | ct => exact w'
    | rt r => exact w'
theorem es_drop (he : PEv X fr e F) (hs : swapsWith e none pos.line X.env = pure false := by rfl) : PSv X fr (.Expr e pos) (dropF F) :=
  weakS (ps_expr he hs) fun D σ H ⟨env, G, h, w⟩ => by
    unfold dropF at w
    exact tE_then h w (fun r env1 H1 G1 v h1 s1 q1 w1 => w1 σ H1 G1 h1 s1) fun c e1 E1 H1 G1 h1 s1 => E1 σ H1 G1 h1 s1
theorem es_ret (he : PEv X fr e F) : PSv X fr (.Return (some e) pos) (retF F) :=
  weakS (ps_ret he) fun D σ H ⟨env, G, h, w⟩ => by
    unfold retF at w
    exact tE_then h w (fun r env1 H1 G1 v h1 s1 q1 w1 => w1 σ H1 G1 v h1 s1 q1) fun c e1 E1 H1 G1 h1 s1 => E1 σ H1 G1 h1 s1
theorem es_if {c : Expr} {a b : List Stmt} {T : Mo Bool} {F1 F2 : Mo Out} (hc : PTv X fr c T) (ha : PBs X fr a F1) (hb : PBs X fr b F2) : PSv X fr (.If c a b pos) (ifF T F1 F2) :=
  weakS (ps_if hc ha hb) fun D σ H ⟨env, G, h, w⟩ => by
    unfold ifF at w
    refine tT_then h w (fun c env1 H1 G1 h1 s1 w1 => ?_) fun c e1 E1 H1 G1 h1 s1 => E1 σ H1 G1 h1 s1
    cases c with
    | true => rw [if_pos rfl] at w1 ⊢; exact tS_of h1 s1 w1
    | false => rw [if_neg Bool.false_ne_true] at w1 ⊢; exact tS_of h1 s1 w1
theorem es_set {i : Nat} {x : Str} {pos' : Pos} (hN : X.N.Nodup) (hi : X.N[i]? = some x) (hx : Loc X.env.scope x) (he : PEv X fr e F) (hs : swapsWith e (some (.Name x pos')) pos.line X.env = pure false := by rfl) (hf : X.fn x = true ∨ X.env.scope.names.lookup x = some .local := by first | exact .inl rfl | exact .inr rfl | assumption) :
    PSv X fr (.Assign [.Name x pos'] e pos) (setF i F) :=
  weakS (ps_set hN hi hx he hs hf) fun D σ H ⟨env, G, h, w⟩ => by
    unfold setF at w
    refine tE_then h w (fun r env1 H1 G1 v h1 s1 q1 w1 => ?_) fun c e1 E1 H1 G1 h1 s1 => E1 σ H1 G1 h1 s1
    obtain ⟨env2, G2, h2, s2, w2⟩ := store_ok3 h1 q1 (wpM_bind.mp w1)
    exact w2 _ H1 G2 h2 (s1.trans s2)
/-- x op= e, on numbers and texts -/
def augF (i : Nat) (g : PyData → PyData → Option Rv) (F : Mo Rv) : Mo Out := do
  let r ← readF i
  let r2 ← F
  let d1 ← peek r
  let d2 ← peek r2
  let res ← liftO (g d1 d2)
  storeF i res
  pure .nx
theorem es_aug {i : Nat} {x : Str} {op : Operator} {g : PyData → PyData → Option Rv} {pos' : Pos} (hN : X.N.Nodup) (hi : X.N[i]? = some x) (hx : Loc X.env.scope x) (he : PEv X fr e F) (ho : Op2 X (inplaceOp op) g) (hf : X.fn x = true ∨ X.env.scope.names.lookup x = some .local := by first | exact .inl rfl | exact .inr rfl | assumption) :
    PSv X fr (.AugAssign (.Name x pos') op e pos) (augF i g F) := by
  obtain ⟨r, hr, hg⟩ := ho
  refine weakS (ps_aug hN hi hx he (fun pins s σ H x y v u Q I rx ry h => hr pins s σ H x y v u Q I rx ry h) hf) fun D σ H ⟨env, G, h, w⟩ => ?_
  unfold augF at w
  rw [wpM_bind] at w
  have rd : ∃ v r1, σ[i]? = some (some v) ∧ HeldOk X.K σ G v r1 ∧ wpM (F >>= fun r2 => peek r1 >>= fun d1 => peek r2 >>= fun d2 => liftO (g d1 d2) >>= fun res => storeF i res >>= fun _ => pure Out.nx) env (SPost X.K fr D G) (SExc X.K fr G) := by
    unfold wpM readF at w
    cases e0 : env[i]? with
    | none => simp [e0] at w
    | some sl =>
      cases sl with
      | un => simp [e0] at w
      | sh d =>
        simp only [e0] at w
        obtain ⟨v, z1, z2⟩ := h.shAt e0
        exact ⟨v, .sh d, z1, z2, w⟩
      | own t ds =>
        simp only [e0] at w
        obtain ⟨a, xs, z1, _⟩ := h.ownAt e0
        exact ⟨_, .sl i, z1, z1, w⟩
  obtain ⟨v, r1, z1, z2, w1⟩ := rd
  refine ⟨v, z1, ?_⟩
  refine tE_then h w1 (fun r2 env2 H2 G2 v2 h2 s2 q2 w2 => ?_) fun c e1 E1 H1 G1 h1 s1 => E1 σ H1 G1 h1 s1
  obtain ⟨d1, p1, w3⟩ := peek_ok h2 (HeldOk.ok (z2.mono s2)) (wpM_bind.mp w2)
  obtain ⟨d2, p2, w4⟩ := peek_ok h2 q2 (wpM_bind.mp w3)
  obtain ⟨res, e, w5⟩ := wpM_lift (wpM_bind.mp w4)
  refine hg v v2 H2 G2 d1 d2 res _ h2.sub p1 p2 e fun H' G' z st rn => ?_
  obtain ⟨env6, G6, h6, s6, w6⟩ := store_ok3 (h2.stp st) (rn.ok h2) (wpM_bind.mp w5)
  exact w6 _ H' G6 h6 ((s2.trans st.mono).trans s6)
@[simp] def iaddG : PyData → PyData → Option Rv
  | .int i, .int j => some (.sh (.int (i + j)))
  | _, _ => none
theorem op2_iadd : Op2 X (inplaceOp .Add) iaddG := op2_int0 iop_add (fun _ _ _ _ => .int _) fun a b r e => by
  cases a <;> cases b <;> simp_all [iaddG]
theorem op2_isub : Op2 X (inplaceOp .Sub) subG := op2_int0 iop_sub (fun _ _ _ _ => .int _) fun a b r e => by
  cases a <;> cases b <;> simp_all [subG]
end
end Cf
/-! Cf, part G: targets, loops. -/
namespace Cf
open PySem PySem.Spec PyProof.Rows L2

/-! ### targets -/
/-- only the slots of ws differ -/
def Off (ws : List Nat) (σ σ' : L2.St) : Prop := σ'.length = σ.length ∧ ∀ i : Nat, i ∉ ws → σ'[i]? = σ[i]?
theorem Off.refl {ws : List Nat} {σ : L2.St} : Off ws σ σ := ⟨rfl, fun _ _ => rfl⟩
theorem Off.trans {ws ws' : List Nat} {σ σ1 σ2 : L2.St} (a : Off ws σ σ1) (b : Off ws' σ1 σ2) : Off (ws ++ ws') σ σ2 :=
  ⟨b.1.trans a.1, fun i hi => (b.2 i fun z => hi (List.mem_append_right _ z)).trans (a.2 i fun z => hi (List.mem_append_left _ z))⟩
def tG (K : PySem.W.Frag) (fr : Fr) (ws : List Nat) (T : PyData → Mo Unit) : TG := fun v σ H Q => ∃ env G d, SR K fr env σ H G ∧ Dq K G v d ∧
  wpM (T d) env (fun _ env' => ∀ σ' G', Off ws σ σ' → SR K fr env' σ' H G' → Sub G G' → Q σ' H) (fun _ _ => False)
def PGv (X : Cx) (fr : Fr) (tg : Expr) (ws : List Nat) (T : PyData → Mo Unit) : Prop := PG X tg (tG X.K fr ws T)
def tGs (K : PySem.W.Frag) (fr : Fr) (ws : List Nat) (T : List PyData → Mo Unit) : TGs := fun vs σ H Q => ∃ env G ds, SR K fr env σ H G ∧ DqAll K G vs ds ∧
  wpM (T ds) env (fun _ env' => ∀ σ' G', Off ws σ σ' → SR K fr env' σ' H G' → Sub G G' → Q σ' H) (fun _ _ => False)
def PGsv (X : Cx) (fr : Fr) (tgs : List Expr) (ws : List Nat) (T : List PyData → Mo Unit) : Prop := PGs X tgs (tGs X.K fr ws T)
theorem weakG {X : Cx} {e : Expr} {t t' : TG} (h : PG X e t) (w : ∀ v σ H Q, t' v σ H Q → t v σ H Q) : PG X e t' := ⟨fun pins s σ H v u Q I r q => h.run pins s σ H v u Q I r (w v σ H Q q)⟩
theorem weakGs {X : Cx} {e : List Expr} {t t' : TGs} (h : PGs X e t) (w : ∀ v σ H Q, t' v σ H Q → t v σ H Q) : PGs X e t' := ⟨fun pins s σ H v u Q I r q => h.run pins s σ H v u Q I r (w v σ H Q q)⟩
def toSlot (i : Nat) (d : PyData) : Mo Unit := storeF i (.sh d)
def toNil (ds : List PyData) : Mo Unit := match ds with
  | [] => pure ()
  | _ => stuckM
def toCons (T : PyData → Mo Unit) (Ts : List PyData → Mo Unit) (ds : List PyData) : Mo Unit := match ds with
  | d :: r => do
    T d
    Ts r
  | [] => stuckM
def toTup (n : Nat) (Ts : List PyData → Mo Unit) (d : PyData) : Mo Unit := match d with
  | .tuple ds => if ds.length = n then Ts ds else stuckM
  | _ => stuckM
section
variable {X : Cx} {fr : Fr} {pos : Pos}
theorem eg_name {i : Nat} {x : Str} (hN : X.N.Nodup) (hi : X.N[i]? = some x) (hx : Loc X.env.scope x) (hf : X.fn x = true ∨ X.env.scope.names.lookup x = some .local := by first | exact .inl rfl | exact .inr rfl | assumption) : PGv X fr (.Name x pos) [i] (toSlot i) :=
  weakG (pg_name hN hi hx hf) fun v σ H Q ⟨env, G, d, h, q, w⟩ => w _ G ⟨by simp, fun j hj => List.getElem?_set_ne (fun z => hj (by simp [z]))⟩ (h.setSh q) .refl
theorem egs_nil : PGsv X fr [] [] toNil := weakGs pgs_nil fun vs σ H Q ⟨env, G, ds, h, q, w⟩ => by
  cases q with
  | nil => exact ⟨rfl, w σ G .refl h .refl⟩
  | cons _ _ => exact w.elim
theorem egs_cons {e : Expr} {es : List Expr} {ws ws' : List Nat} {T : PyData → Mo Unit} {Ts : List PyData → Mo Unit} (h1 : PGv X fr e ws T) (h2 : PGsv X fr es ws' Ts)
    (hs : (assignEach (e :: es) X.env).map (·.2) = assign e X.env :: (assignEach es X.env).map (·.2) := by rfl) : PGsv X fr (e :: es) (ws ++ ws') (toCons T Ts) :=
  weakGs (pgs_cons h1 h2 hs) fun vs σ H Q ⟨env, G, ds, h, q, w⟩ => by
    cases q with
    | nil => exact w.elim
    | cons q1 q2 =>
      refine ⟨_, _, rfl, env, G, _, h, q1, wpM_mono (wpM_bind.mp w) (fun _ env1 w1 σ1 G1 o1 h1 s1 => ?_) fun _ _ z => z⟩
      exact ⟨env1, G1, _, h1, Sub.dqAll s1 _ _ q2, wpM_mono w1 (fun _ env2 w2 σ2 G2 o2 h2 s2 => w2 σ2 G2 (o1.trans o2) h2 (s1.trans s2)) fun _ _ z => z⟩
theorem eg_tup {es : List Expr} {k : Nat} {ws : List Nat} {Ts : List PyData → Mo Unit} {n : Nat} (hc : X.calm = true) (h : PGsv X fr es ws Ts)
    (hn : (assignEach es X.env).length = n := by rfl) (hst : (assignEach es X.env).findIdx? (·.1) = none := by rfl) : PGv X fr (.Tuple es k pos) ws (toTup n Ts) :=
  weakG (pg_tup hc h hn hst) fun v σ H Q ⟨env, G, d, h, q, w⟩ => by
    cases d <;> try exact w.elim
    unfold toTup at w
    simp only at w
    split at w
    · rename_i hz
      obtain ⟨a, xs, rfl, k1, k2⟩ := dq_tup q
      exact ⟨a, xs, rfl, h.sub.sqT k1, by rw [k2.length]; exact hz, env, G, _, h, k2, w⟩
    · exact w.elim
end

/-! ### target = value -/
/-- a store, which raises nothing, then k -/
def thenU {α : Type} (T : Mo Unit) (k : Mo α) : Mo α := fun e => match T e with
  | .ok _ e' => k e'
  | .exc _ _ => .stuck
  | .stuck => .stuck
def setT (T : PyData → Mo Unit) (F : Mo Rv) : Mo Out := do
  let r ← F
  let d ← force r
  thenU (T d) (pure .nx)
theorem wpM_T {T : Mo Unit} {α : Type} {k : Mo α} {env : Fv} {Q : α → Fv → Prop} {E : Nat → Fv → Prop} (w : wpM (thenU T k) env Q E) : wpM T env (fun _ env' => wpM k env' Q E) (fun _ _ => False) := by
  unfold wpM thenU at w
  unfold wpM
  cases q : (T env : Res Unit) <;> simp only [q] at w ⊢
  exact w
section
variable {X : Cx} {fr : Fr} {tg e : Expr} {F : Mo Rv} {T : PyData → Mo Unit} {ws : List Nat} {pos : Pos}
theorem es_asg (he : PEv X fr e F) (hg : PGv X fr tg ws T) (hs : swapsWithSole [tg] e pos.line X.env = pure false := by rfl) (hw : swappedStores [tg] e X.env = pure none := by rfl)
    (h1 : (assignEach [tg] X.env).map (·.2) = [assign tg X.env] := by rfl) : PSv X fr (.Assign [tg] e pos) (setT T F) :=
  weakS (ps_asg he hg hs hw h1) fun D σ H ⟨env, G, h, w⟩ => by
    unfold setT at w
    refine tE_then h w (fun r env1 H1 G1 v h1 s1 q1 w1 => ?_) fun c e1 E1 H1 G1 h1 s1 => E1 σ H1 G1 h1 s1
    obtain ⟨d, env2, G2, h2, s2, d2, w2⟩ := force_ok h1 q1 (wpM_bind.mp w1)
    refine ⟨env2, G2, d, h2, d2, wpM_mono (wpM_T (k := pure Out.nx) w2) (fun _ env3 w3 σ3 G3 _ h3 s3 => ?_) fun _ _ z => z⟩
    exact w3 σ3 H1 G3 h3 ((s1.trans s2).trans s3)
end

/-! ### what a loop walks -/
structure ItOk (K : PySem.W.Frag) (J : It) (G0 : Hp) (ds : List PyData) : Prop where
  go : ∀ i H G, Sub G0 G → Sub G H → i < ds.length → J.go i H
  stop : ∀ H G, Sub G0 G → Sub G H → J.stop ds.length H
  yld : ∀ i H G x H', Sub G0 G → Sub G H → i < ds.length → J.yld i H x H' → ∃ G' d, ds[i]? = some d ∧ Stp H G H' G' ∧ Dq K G' x d
def tI (K : PySem.W.Frag) (fr : Fr) (I : Mo (List PyData)) : TI := fun σ H R => ∃ env G, SR K fr env σ H G ∧
  wpM I env (fun ds env' => ∀ H' G' J, SR K fr env' σ H' G' → Sub G G' → ItOk K J G' ds → R J H') (fun c env' => ∀ H' G', SR K fr env' σ H' G' → Sub G G' → fr.W c H')
def PIv (X : Cx) (fr : Fr) (tg iter : Expr) (I : Mo (List PyData)) : Prop := PI X tg iter (tI X.K fr I)
theorem weakI {X : Cx} {tg e : Expr} {t t' : TI} (h : PI X tg e t) (w : ∀ σ H R, t' σ H R → t σ H R) : PI X tg e t' := ⟨fun pins s σ H R I q => h.run pins s σ H R I (w σ H R q)⟩
/-- the items of a list or tuple -/
@[simp] def itemsG : PyData → Option (List PyData)
  | .list ds => some ds
  | .tuple ds => some ds
  | .dict [(.none, .list ds)] => some ds
  | _ => none
def seqI (F : Mo Rv) : Mo (List PyData) := do
  let r ← F
  let d ← force r
  liftO (itemsG d)
def rangeD (lo : Int) (n : Nat) : List PyData := (List.range n).map fun (i : Nat) => .int (lo + i)
/-- a bound that range can take -/
noncomputable def rangeOk (j : Int) : Bool := hide (decide (-(2 ^ 62) ≤ j ∧ j < 2 ^ 62))
theorem rangeOk_iff {j : Int} : rangeOk j = true ↔ -(2 ^ 62) ≤ j ∧ j < 2 ^ 62 := by
  unfold rangeOk
  rw [hide_eq, decide_eq_true_eq]
noncomputable def range1I (Fs : Mo (List Rv)) : Mo (List PyData) := do
  let rs ← Fs
  match rs with
  | [.sh (.int j)] => if rangeOk j = true then pure (rangeD 0 j.toNat) else stuckM
  | _ => stuckM
noncomputable def range2I (Fs : Mo (List Rv)) : Mo (List PyData) := do
  let rs ← Fs
  match rs with
  | [.sh (.int i), .sh (.int j)] => if rangeOk i = true ∧ rangeOk j = true then pure (rangeD i (j - i).toNat) else stuckM
  | _ => stuckM
section
variable {X : Cx} {fr : Fr} {tg : Expr}
theorem itOk_list {K : PySem.W.Frag} {G : Hp} {a : Addr} {xs : List V} {ds : List PyData} (h : SqL K G a xs) (q : DqAll K G xs ds) : ItOk K (Itl K a) G ds := by
  have hl := q.length
  refine ⟨fun i H G1 s1 s2 hi => ?_, fun H G1 s1 s2 => ⟨xs, s2.sqL (s1.sqL h), by omega⟩, fun i H G1 x H' s1 s2 hi y => ?_⟩
  · exact ⟨xs, xs[i], s2.sqL (s1.sqL h), by simp⟩
  · obtain ⟨rfl, y⟩ := y
    obtain ⟨d, e1, e2⟩ := q.getV (y xs (s2.sqL (s1.sqL h)))
    exact ⟨G1, d, e1, .refl s2, Sub.dq s1 _ _ e2⟩
theorem itOk_tup {K : PySem.W.Frag} {G : Hp} {a : Addr} {xs : List V} {ds : List PyData} (h : SqT K G a xs) (q : DqAll K G xs ds) : ItOk K (Itt K a) G ds := by
  have hl := q.length
  refine ⟨fun i H G1 s1 s2 hi => ?_, fun H G1 s1 s2 => ⟨xs, s2.sqT (s1.sqT h), by omega⟩, fun i H G1 x H' s1 s2 hi y => ?_⟩
  · exact ⟨xs, xs[i], s2.sqT (s1.sqT h), by simp⟩
  · obtain ⟨rfl, y⟩ := y
    obtain ⟨d, e1, e2⟩ := q.getV (y xs (s2.sqT (s1.sqT h)))
    exact ⟨G1, d, e1, .refl s2, Sub.dq s1 _ _ e2⟩
theorem itOk_range {K : PySem.W.Frag} {G : Hp} {lo : Int} {n : Nat} : ItOk K (Itr lo n) G (rangeD lo n) := by
  have hl : (rangeD lo n).length = n := by simp [rangeD]
  refine ⟨fun i H G1 s1 s2 hi => ?_, fun H G1 s1 s2 => ?_, fun i H G1 x H' s1 s2 hi y => ?_⟩
  · show i < n; omega
  · show n ≤ (rangeD lo n).length; omega
  · obtain ⟨rfl, rfl⟩ := y
    rw [hl] at hi
    exact ⟨G1, .int (lo + i), by simp [rangeD, hi], .refl s2, .int _⟩
/-- a list or a tuple, whichever comes -/
theorem ei_seq {l : Expr} {F : Mo Rv} (hl : PEv X fr l F) : PIv X fr tg l (seqI F) := by
  refine ⟨fun pins s σ H R I ⟨env, G, h, w⟩ => ?_⟩
  unfold seqI at w
  have hE : tE X.K fr F σ H fun v H1 => ∃ a, v = .ref a ∧ (((∃ xs, SqL X.K H1 a xs) ∧ R (Itl X.K a) H1) ∨ ((∃ xs, SqT X.K H1 a xs) ∧ R (Itt X.K a) H1)) := by
    refine tE_then h w (fun r env1 H1 G1 v h1 s1 q1 w1 => ?_) fun c e1 E1 H1 G1 h1 s1 => E1 H1 G1 h1 s1
    obtain ⟨d, env2, G2, h2, s2, d2, w2⟩ := force_ok h1 q1 (wpM_bind.mp w1)
    obtain ⟨ds, e, w3⟩ := wpM_lift w2
    cases d2 with
    | lst k1 k2 => cases e; exact ⟨_, rfl, .inl ⟨⟨_, .of (h2.sub _ _ k1)⟩, w3 H1 G2 _ h2 (s1.trans s2) (itOk_list (.of k1) k2)⟩⟩
    | tup k1 k2 => cases e; exact ⟨_, rfl, .inr ⟨⟨_, h2.sub.sqT k1⟩, w3 H1 G2 _ h2 (s1.trans s2) (itOk_tup k1 k2)⟩⟩
    | scr k1 k2 => cases e; exact ⟨_, rfl, .inl ⟨⟨_, h2.sub.sqL k1⟩, w3 H1 G2 _ h2 (s1.trans s2) (itOk_list k1 k2)⟩⟩
    | _ => cases e
  refine thn (hl.run pins s σ H _ I hE) fun u s1 ⟨v, H1, I1, r1, a, e, alt⟩ => ?_
  subst e
  cases r1
  have new : ∀ b ∈ [s1.heap.objs.size], FpOk X pins H1 b := fun b hb => by
    rw [List.mem_singleton.mp hb]
    exact I1.fpOk (Nat.le_refl _) (I1.hok.fresh (Nat.le_refl _))
  rcases alt with ⟨⟨xs, hq⟩, q⟩ | ⟨⟨xs, hq⟩, q⟩
  · obtain ⟨its, _, pl, _⟩ := I1.list hq
    exact wpAny_pyIter_list pl.isList ⟨_, _, _, _, H1, rfl, I1.kept (t' := s1.toks) fun b o z => Heap.get?_push_of_some _ z, turn_list a _, ⟨_, Heap.get?_push_size _ rfl, rfl, rfl⟩, new, q⟩
  · obtain ⟨its, _, pl, _⟩ := I1.tuple hq
    exact wpAny_pyIter_tuple (show s1.heap.IsTuple a its.toArray from pl) ⟨_, _, _, _, H1, rfl, I1.kept (t' := s1.toks) fun b o z => Heap.get?_push_of_some _ z, turn_tuple a _, ⟨_, Heap.get?_push_size _ rfl, rfl, rfl⟩, new, q⟩
theorem ei_range1 {a : Expr} {Fs : Mo (List Rv)} {p pos : Pos} (hg : Gl X "range") (hm : X.mg "range" = none) (ha : PAv X fr [a] Fs) (hs : starEach [a] X.env = [(false, eval a X.env)] := by rfl) : PIv X fr tg (.Call (.Name "range" p) [a] [] pos) (range1I Fs) :=
  weakI (pi_range1 hg hm ha hs) fun σ H R ⟨env, G, h, w⟩ => by
    unfold range1I at w
    refine tA_then h w (fun rs env1 H1 G1 vs h1 s1 q1 w1 => ?_) fun c e1 E1 H1 G1 h1 s1 => E1 H1 G1 h1 s1
    split at w1
    · rename_i j
      split at w1
      · rename_i hz
        replace hz := rangeOk_iff.mp hz
        match vs, q1 with
        | [v], q1 =>
          have e := dq_int (show Dq X.K G1 v (.int j) from q1.1)
          subst e
          exact ⟨j, rfl, hz.1, hz.2, w1 H1 G1 _ h1 s1 itOk_range⟩
        | _ :: _ :: _, q1 => exact q1.2.elim
      · exact w1.elim
    · exact w1.elim
theorem ei_range2 {a b : Expr} {Fs : Mo (List Rv)} {p pos : Pos} (hg : Gl X "range") (hm : X.mg "range" = none) (ha : PAv X fr [a, b] Fs) (hs : starEach [a, b] X.env = [(false, eval a X.env), (false, eval b X.env)] := by rfl) (hs2 : starEach [b] X.env = [(false, eval b X.env)] := by rfl) :
    PIv X fr tg (.Call (.Name "range" p) [a, b] [] pos) (range2I Fs) :=
  weakI (pi_range2 hg hm ha hs hs2) fun σ H R ⟨env, G, h, w⟩ => by
    unfold range2I at w
    refine tA_then h w (fun rs env1 H1 G1 vs h1 s1 q1 w1 => ?_) fun c e1 E1 H1 G1 h1 s1 => E1 H1 G1 h1 s1
    split at w1
    · rename_i i j
      split at w1
      · rename_i hz
        replace hz := And.intro (rangeOk_iff.mp hz.1).1 (And.intro (rangeOk_iff.mp hz.1).2 (rangeOk_iff.mp hz.2))
        match vs, q1 with
        | [v, u], q1 =>
          have e := dq_int (show Dq X.K G1 v (.int i) from q1.1)
          have e' := dq_int (show Dq X.K G1 u (.int j) from q1.2.1)
          subst e e'
          exact ⟨i, j, rfl, hz, w1 H1 G1 _ h1 s1 itOk_range⟩
        | [_], q1 => exact q1.2.elim
        | _ :: _ :: _ :: _, q1 => exact q1.2.2.elim
      · exact w1.elim
    · exact w1.elim
end

/-! ### for, while -/
def loopF (T : PyData → Mo Unit) (B : Mo Out) : List PyData → Mo Out
  | [] => pure .nx
  | d :: ds => thenU (T d) do
    match ← B with
    | .nx => loopF T B ds
    | .ct => loopF T B ds
    | .bk => pure .nx
    | .rt r => pure (.rt r)
def forF (I : Mo (List PyData)) (T : PyData → Mo Unit) (B : Mo Out) : Mo Out := do
  let ds ← I
  loopF T B ds
section
variable {X : Cx} {fr : Fr} {tg iter : Expr} {body : List Stmt} {I : Mo (List PyData)} {T : PyData → Mo Unit} {B : Mo Out} {ws : List Nat} {pos : Pos}
theorem es_for (hp : PassesOwn (model X.prog X.w) X.A X.env X.xe) (hc : X.calm = true) (hi : PIv X fr tg iter I) (hg : PGv X fr tg ws T) (hb : PBs X fr body B)
    (hs : ∀ x, foldedSetIterable iter X.env x = pure x := by intro _; rfl) : PSv X fr (.For tg iter body [] pos) (forF I T B) :=
  weakS (ps_for hp hc hi hg hb hs) fun D σ H ⟨env, G, h, w⟩ => by
    unfold forF at w
    refine ⟨env, G, h, wpM_mono (wpM_bind.mp w) (fun ds env1 w1 H1 G1 J h1 s1 io => ?_) fun c e1 E1 H1 G1 h1 s1 => E1 σ H1 G1 h1 s1⟩
    refine ⟨fun i m σ H => ∃ env' G', SR X.K fr env' σ H G' ∧ Sub G1 G' ∧ m = ds.length - i ∧ i ≤ ds.length ∧ wpM (loopF T B (ds.drop i)) env' (SPost X.K fr D G') (SExc X.K fr G'), ⟨ds.length, env1, G1, h1, .refl, by omega, by omega, wpM_mono w1 (fun _ _ q => q.mono s1) fun _ _ q => q.mono s1⟩, ?_⟩
    rintro i m σ2 H2 ⟨env2, G2, h2, s2, rfl, hi2, w2⟩
    by_cases hlt : i < ds.length
    · have hd : ds.drop i = ds[i] :: ds.drop (i + 1) := by rw [List.drop_eq_getElem_cons hlt]
      rw [hd] at w2
      unfold loopF at w2
      refine .inr ⟨io.go i H2 G2 s2 h2.sub hlt, fun σ3 H3 => ∃ env' G', SR X.K fr env' σ3 H3 G' ∧ Sub G1 G' ∧ wpM (loopF T B (ds.drop (i + 1))) env' (SPost X.K fr D G') (SExc X.K fr G'), ?_, fun x H' y => ?_⟩
      · rintro σ3 H3 ⟨env3, G3, h3, s3, w3⟩
        exact ⟨ds.length - (i + 1), by omega, env3, G3, h3, s3, rfl, by omega, w3⟩
      · obtain ⟨G3, d, e3, st, q3⟩ := io.yld i H2 G2 x H' s2 h2.sub hlt y
        rw [List.getElem?_eq_getElem hlt] at e3
        cases e3
        refine ⟨env2, G3, _, h2.stp st, q3, wpM_mono (wpM_T w2) (fun _ env4 w4 σ4 G4 _ h4 s4 => ?_) fun _ _ z => z⟩
        have s24 := st.mono.trans s4
        refine ⟨env4, G4, h4, wpM_mono (wpM_bind.mp w4) (fun o env5 w5 => ?_) fun c env5 w5 σ5 H5 G5 h5 s5 => w5 σ5 H5 G5 h5 (s24.trans s5)⟩
        have again : wpM (loopF T B (ds.drop (i + 1))) env5 (SPost X.K fr D G2) (SExc X.K fr G2) → ∀ σ' H' G', SR X.K fr env5 σ' H' G' → Sub G4 G' →
            ∃ env' G', SR X.K fr env' σ' H' G' ∧ Sub G1 G' ∧ wpM (loopF T B (ds.drop (i + 1))) env' (SPost X.K fr D G') (SExc X.K fr G') := fun w6 σ' H' G' h6 s6 =>
          ⟨env5, G', h6, s2.trans (s24.trans s6), wpM_mono w6 (fun _ _ q => q.mono (s24.trans s6)) fun _ _ q => q.mono (s24.trans s6)⟩
        cases o with
        | nx => exact again w5
        | ct => exact again w5
        | bk => exact fun σ' H' G' h6 s6 => w5 σ' H' G' h6 (s24.trans s6)
        | rt r => exact fun σ' H' G' v h6 s6 q6 => w5 σ' H' G' v h6 (s24.trans s6) q6
    · have e : i = ds.length := by omega
      subst e
      rw [List.drop_length] at w2
      exact .inl ⟨io.stop H2 G2 s2 h2.sub, w2 σ2 H2 G2 h2 .refl⟩
/-- at most n turns -/
def whileN (C : Mo Bool) (B : Mo Out) : Nat → Mo Out
  | 0 => stuckM
  | n + 1 => do
    let b ← C
    if b = true then
      match ← B with
      | .nx => whileN C B n
      | .ct => whileN C B n
      | .bk => pure .nx
      | .rt r => pure (.rt r)
    else pure .nx
theorem es_while {c : Expr} {C : Mo Bool} (n : Nat) (hp : PassesOwn (model X.prog X.w) X.A X.env X.xe) (hc : PTv X fr c C) (hb : PBs X fr body B) : PSv X fr (.While c body [] pos) (whileN C B n) :=
  weakS (ps_while hp hc hb) fun D σ H ⟨env, G, h, w⟩ => by
    refine ⟨fun m σ H => ∃ env' G', SR X.K fr env' σ H G' ∧ wpM (whileN C B m) env' (SPost X.K fr D G') (SExc X.K fr G'), ⟨n, env, G, h, w⟩, ?_⟩
    rintro m σ2 H2 ⟨env2, G2, h2, w2⟩
    cases m with
    | zero => exact w2.elim
    | succ m =>
      unfold whileN at w2
      refine tT_then h2 w2 (fun b env3 H3 G3 h3 s3 w3 => ?_) fun c e1 E1 H1 G1 h1 s1 => E1 σ2 H1 G1 h1 s1
      cases b with
      | false =>
        rw [if_neg Bool.false_ne_true] at w3 ⊢
        exact w3 σ2 H3 G3 h3 s3
      | true =>
        rw [if_pos rfl] at w3 ⊢
        refine ⟨fun σ4 H4 => ∃ env' G', SR X.K fr env' σ4 H4 G' ∧ wpM (whileN C B m) env' (SPost X.K fr D G') (SExc X.K fr G'), fun σ4 H4 q => ⟨m, Nat.lt_succ_self m, q⟩, ?_⟩
        refine ⟨env3, G3, h3, wpM_mono (wpM_bind.mp w3) (fun o env5 w5 => ?_) fun c env5 w5 σ5 H5 G5 h5 s5 => w5 σ5 H5 G5 h5 (s3.trans s5)⟩
        have again : wpM (whileN C B m) env5 (SPost X.K fr D G2) (SExc X.K fr G2) → ∀ σ' H' G', SR X.K fr env5 σ' H' G' → Sub G3 G' →
            ∃ env' G', SR X.K fr env' σ' H' G' ∧ wpM (whileN C B m) env' (SPost X.K fr D G') (SExc X.K fr G') := fun w6 σ' H' G' h6 s6 =>
          ⟨env5, G', h6, wpM_mono w6 (fun _ _ q => q.mono (s3.trans s6)) fun _ _ q => q.mono (s3.trans s6)⟩
        cases o with
        | nx => exact again w5
        | ct => exact again w5
        | bk => exact fun σ' H' G' h6 s6 => w5 σ' H' G' h6 (s3.trans s6)
        | rt r => exact fun σ' H' G' v h6 s6 q6 => w5 σ' H' G' v h6 (s3.trans s6) q6
end
end Cf
/-! Cf, part H: defs and calls. -/
namespace Cf
open PySem PySem.Spec PyProof.Rows L2

/-- what a def's run comes to -/
inductive FnR where
  | ok (r : Rv)
  | exc (c : Nat)
  | stuck
/-- .. of a def whose first parameter is a list that it may change -/
inductive FnL where
  | ok (r : Rv) (out : List PyData)
  | stuck
/-- the value handed back -/
@[simp] def retV (r : Rv) (e : Fv) : Option Rv := match r with
  | .sh d => some (.sh d)
  | .fr ds => some (.fr ds)
  | .sl i => match e[i]? with
    | some (.sh d) => some (.sh d)
    | some (.own none ds) => some (.fr ds)
    | _ => none
@[simp] def outV (o : Out) (e : Fv) : Option Rv := match o with
  | .rt r => retV r e
  | .nx => some (.sh .none)
  | _ => none
@[simp] def env0 (n : Nat) (sls : List Sl) : Fv := sls ++ List.replicate (n - sls.length) .un
@[simp] def finF : Res Out → FnR
  | .ok o e => match outV o e with
    | some r => .ok r
    | none => .stuck
  | .exc c _ => .exc c
  | .stuck => .stuck
@[simp] def finL : Res Out → FnL
  | .ok o e => match outV o e, (e[0]? : Option Sl) with
    | some r, some (.own (some 0) out) => .ok r out
    | _, _ => .stuck
  | _ => .stuck
def runF (n : Nat) (B : Mo Out) (ds : List PyData) : FnR := finF (B (env0 n (ds.map .sh)))
def runL (n : Nat) (B : Mo Out) (es : List PyData) (ds : List PyData) : FnL := finL (B (env0 n (.own (some 0) es :: ds.map .sh)))

/-- what was private of the callers is as it was -/
def Kept (tabs : List Addr) (ex : Addr → Prop) (H G H' G' : Hp) : Prop := ∀ b o, H b = some o → G b = none → b ∉ tabs → ¬ ex b → H' b = some o ∧ G' b = none
def RetOk (K : PySem.W.Frag) (H H' G' : Hp) (v : V) : Rv → Prop := RvNew K H H' G' v
def Tabs (tabs : List Addr) (H G : Hp) : Prop := ∀ P ∈ tabs, TabOk H P ∧ G P = none
def sp0 (K : PySem.W.Frag) (tabs : List Addr) (n : Nat) (g : List PyData → FnR) : Sp := fun vs H Q _ => ∃ G ds, Sub G H ∧ Tabs tabs H G ∧ ds.length = n ∧ DqAll K G vs ds ∧
  ∃ r, g ds = .ok r ∧ ∀ H' G' v, Sub G G' → Sub G' H' → Tabs tabs H' G' → Kept tabs (fun _ => False) H G H' G' → RetOk K H H' G' v r → Q v H'
def spL (K : PySem.W.Frag) (tabs : List Addr) (n : Nat) (g : List PyData → List PyData → FnL) : Sp := fun vs H Q _ => ∃ G m us xs es ds, vs = .ref m :: us ∧ Sub G H ∧ Tabs tabs H G ∧ ds.length + 1 = n ∧
  H m = some (.lst xs) ∧ G m = none ∧ DqAll K G xs es ∧ DqAll K G us ds ∧
  ∃ r out, g es ds = .ok r out ∧ ∀ H' G' v ys, Sub G G' → Sub G' H' → Tabs tabs H' G' → Kept tabs (fun b => b = m) H G H' G' → H' m = some (.lst ys) → G' m = none → DqAll K G' ys out → RetOk K H H' G' v r → Q v H'

section
variable {K : PySem.W.Frag} {fr : Fr} {env : Fv} {σ : L2.St} {H G : Hp}
theorem retV_ok {H0 : Hp} {v : V} {r r' : Rv} (h : SR K fr env σ H G) (q : RvOk K fr env σ H G v r) (e : retV r env = some r') (new : ∀ a xs, H a = some (.lst xs) → G a = none → fr.prot a = none → a ∉ fr.muts → H0 a = none) : RetOk K H0 H G v r' := by
  cases r with
  | sh d => cases e; exact q
  | fr ds =>
    cases e
    obtain ⟨a, xs, rfl, k1, k2, k3, k4, k5, _⟩ := q
    exact ⟨a, xs, rfl, k1, k2, k3, new a xs k1 k3 k4 k5⟩
  | sl i =>
    unfold retV at e
    have q' : σ[i]? = some (some v) := q
    cases z : env[i]? with
    | none => simp [z] at e
    | some sl =>
      cases sl with
      | un => simp [z] at e
      | sh d =>
        simp only [z, Option.some.injEq] at e
        subst e
        obtain ⟨x, e1, e2⟩ := h.shAt z
        rw [q'] at e1
        cases e1
        exact e2
      | own t ds =>
        cases t with
        | some k => simp [z] at e
        | none =>
          simp only [z, Option.some.injEq] at e
          subst e
          obtain ⟨a, xs, e1, k1, k2, k3, k4, k5⟩ := h.ownAt z
          rw [q'] at e1
          cases e1
          exact ⟨a, xs, rfl, k1, k2, k3, new a xs k1 k3 k4 k5⟩
end

/-! ### a def's body keeps its promise -/
theorem start_get {N : List Str} {vs : List V} {i : Nat} (h : vs.length ≤ N.length) : (L2.start N vs)[i]? = if i < vs.length then (vs[i]?).map some else if i < N.length then some none else none := by
  unfold L2.start
  by_cases h1 : i < vs.length
  · rw [if_pos h1, List.getElem?_append_left (by simpa using h1), List.getElem?_map]
  · rw [if_neg h1, List.getElem?_append_right (by simp; omega)]
    simp only [List.length_map, List.getElem?_replicate]
    by_cases h2 : i < N.length
    · rw [if_pos h2, if_pos (by omega)]
    · rw [if_neg h2, if_neg (by omega)]
theorem env0_get {n : Nat} {sls : List Sl} {i : Nat} (h : sls.length ≤ n) : (env0 n sls)[i]? = if i < sls.length then sls[i]? else if i < n then some .un else none := by
  unfold env0
  by_cases h1 : i < sls.length
  · rw [if_pos h1, List.getElem?_append_left h1]
  · rw [if_neg h1, List.getElem?_append_right (by omega)]
    simp only [List.getElem?_replicate]
    by_cases h2 : i < n
    · rw [if_pos h2, if_pos (by omega)]
    · rw [if_neg h2, if_neg (by omega)]
def privOf (tabs : List Addr) (ex : Addr → Prop) [DecidablePred ex] (H G : Hp) : Hp := fun b => if G b = none ∧ b ∉ tabs ∧ ¬ ex b then H b else none
section
variable {P : Program} {w : World} {K : PySem.W.Frag} {mg : Str → Option Value} {base : Heap} {tabs : List Addr}
theorem privOf_some {ex : Addr → Prop} [DecidablePred ex] {H G : Hp} {b : Addr} {o : HO} (h : privOf tabs ex H G b = some o) : H b = some o ∧ G b = none := by
  unfold privOf at h
  split at h
  · rename_i z; exact ⟨h, z.1⟩
  · cases h
theorem privOf_none {ex : Addr → Prop} [DecidablePred ex] {H G : Hp} {b : Addr} (h : privOf tabs ex H G b = none) (h2 : G b = none) (h3 : b ∉ tabs) (h4 : ¬ ex b) : H b = none := by
  unfold privOf at h
  rwa [if_pos ⟨h2, h3, h4⟩] at h
theorem sr_start {N : List Str} {vs : List V} {ds : List PyData} {H G : Hp} {W : Nat → Hp → Prop} (s : Sub G H) (ht : Tabs tabs H G) (q : DqAll K G vs ds) (hn : ds.length ≤ N.length) :
    SR K ⟨privOf tabs (fun _ => False) H G, [], tabs, W⟩ (env0 N.length (ds.map .sh)) (L2.start N vs) H G := by
  have hl := q.length
  have e0 : ∀ (i : Nat) (sl : Sl), (env0 N.length (ds.map Sl.sh))[i]? = some sl → sl = .un ∨ ∃ d, sl = .sh d ∧ ds[i]? = some d := fun i sl e => by
    rw [env0_get (by simpa using hn)] at e
    by_cases h1 : i < ds.length
    · rw [if_pos (by simpa using h1), List.getElem?_map, List.getElem?_eq_getElem h1] at e
      cases e
      exact .inr ⟨_, rfl, List.getElem?_eq_getElem h1⟩
    · rw [if_neg (by simpa using h1)] at e
      split at e <;> cases e
      exact .inl rfl
  refine ⟨s, fun b o e => (privOf_some (tabs := tabs) (ex := fun _ => False) (G := G) e).1, fun b e => ?_, ht, fun P hP => by show privOf tabs (fun _ => False) H G P = none; unfold privOf; rw [if_neg (fun z => z.2.1 hP)], fun a ha => absurd ha (by simp), ?_, fun i sl e => ?_, fun i j t t' es es' a _ ei => ?_⟩
  · cases z : privOf tabs (fun _ => False) H G b with
    | none => exact absurd z e
    | some o => exact (privOf_some (ex := fun _ => False) z).2
  · unfold env0 L2.start
    simp only [List.length_append, List.length_map, List.length_replicate]
    omega
  · rcases e0 i sl e with rfl | ⟨d, rfl, hd⟩
    · trivial
    · obtain ⟨v, e1, e2⟩ := q.get hd
      have hi : i < vs.length := (List.getElem?_eq_some_iff.mp e1).1
      exact ⟨v, by rw [start_get (by omega), if_pos hi, e1]; rfl, e2⟩
  · rcases e0 i _ ei with z | ⟨d, z, _⟩ <;> cases z
theorem sr_startL {N : List Str} {m : Addr} {us : List V} {xs : List V} {es ds : List PyData} {H G : Hp} {W : Nat → Hp → Prop} (s : Sub G H) (ht : Tabs tabs H G) (hm : H m = some (.lst xs)) (gm : G m = none) (q1 : DqAll K G xs es) (q : DqAll K G us ds) (hn : ds.length + 1 ≤ N.length) :
    SR K ⟨privOf tabs (fun b => b = m) H G, [m], tabs, W⟩ (env0 N.length (.own (some 0) es :: ds.map .sh)) (L2.start N (.ref m :: us)) H G := by
  have hl := q.length
  have e0 : ∀ (i : Nat) (sl : Sl), (env0 N.length (.own (some 0) es :: ds.map Sl.sh))[i]? = some sl → sl = .un ∨ (i = 0 ∧ sl = .own (some 0) es) ∨ ∃ j d, i = j + 1 ∧ sl = .sh d ∧ ds[j]? = some d := fun i sl e => by
    rw [env0_get (by simpa using hn)] at e
    by_cases h1 : i < ds.length + 1
    · rw [if_pos (by simpa using h1)] at e
      cases i with
      | zero => cases e; exact .inr (.inl ⟨rfl, rfl⟩)
      | succ j =>
        rw [List.getElem?_cons_succ, List.getElem?_map, List.getElem?_eq_getElem (by omega)] at e
        cases e
        exact .inr (.inr ⟨j, _, rfl, rfl, List.getElem?_eq_getElem (by omega)⟩)
    · rw [if_neg (by simpa using h1)] at e
      split at e <;> cases e
      exact .inl rfl
  refine ⟨s, fun b o e => (privOf_some (tabs := tabs) (ex := fun b => b = m) (G := G) e).1, fun b e => ?_, ht, fun P hP => by show privOf tabs (fun b => b = m) H G P = none; unfold privOf; rw [if_neg (fun z => z.2.1 hP)], fun a ha => ?_, ?_, fun i sl e => ?_, fun i j t t' es1 es' a hij ei ej => ?_⟩
  · cases z : privOf tabs (fun b => b = m) H G b with
    | none => exact absurd z e
    | some o => exact (privOf_some (ex := fun b => b = m) z).2
  · rw [List.mem_singleton.mp ha, hm]; simp
  · unfold env0 L2.start
    simp only [List.length_append, List.length_map, List.length_replicate, List.length_cons]
    omega
  · rcases e0 i sl e with rfl | ⟨rfl, rfl⟩ | ⟨j, d, rfl, rfl, hd⟩
    · trivial
    · refine ⟨m, xs, by rw [start_get (by simp; omega), if_pos (by simp)]; rfl, hm, q1, gm, ?_, rfl⟩
      show privOf tabs (fun b => b = m) H G m = none
      unfold privOf
      rw [if_neg (fun z => z.2.2 rfl)]
    · obtain ⟨v, e1, e2⟩ := q.get hd
      have hi : j < us.length := (List.getElem?_eq_some_iff.mp e1).1
      exact ⟨v, by rw [start_get (by simp; omega), if_pos (by simpa using hi), List.getElem?_cons_succ, e1]; rfl, e2⟩
  · rcases e0 i _ ei with z | ⟨rfl, _⟩ | ⟨_, d, _, z, _⟩
    · cases z
    · rcases e0 j _ ej with z | ⟨rfl, _⟩ | ⟨_, d, _, z, _⟩
      · cases z
      · exact absurd rfl hij
      · cases z
    · cases z
/-- a def without a list that it may change -/
theorem fn0 {x qual : Str} {st : Stmt} {f : Addr} {fd : FuncData} {N ps : List Str} {k : Nat} {B : Mo Out} (F : Fun K x qual st f fd) (S : FnScope N ps (defScope st)) (hp : ps.length ≤ N.length)
    (hbody : ∀ (cdv : Value) (A : Around) (outer : List Env) (s : Shared) (H : Hp) (E : XK) (p : Hp), Room k (A.deeper (envOfC qual (defScope st) s.heap.objs.size f cdv)) →
      PBs (cxOf CX0 P w K mg base N qual (defScope st) f cdv A outer s H E).nox ⟨p, [], tabs, fun _ _ => False⟩ (defBody st) B) : FnOk P w K mg base CX0 (k + 1) f fd ps (sp0 K tabs ps.length (runF N.length B)) := by
  refine F.ok S (fun vs H Q E ⟨G, ds, _, _, h1, h2, _⟩ => h2.length.trans h1) (fun cdv A outer s H vs Q E hr h => ?_)
  obtain ⟨G, ds, h1, h2, h3, h4, r, h5, h6⟩ := h
  refine ⟨_, hbody cdv A outer s H E _ hr, _, G, sr_start (W := fun _ _ => False) h1 h2 h4 (by omega), ?_⟩
  have new : ∀ {H' G' : Hp}, Sub G G' → (∀ P ∈ tabs, TabOk H' P ∧ G' P = none) → ∀ a xs, H' a = some (.lst xs) → G' a = none → privOf tabs (fun _ => False) H G a = none → a ∉ ([] : List Addr) → H a = none := fun sG tb a xs k1 k2 k3 _ => by
    refine privOf_none k3 (sub_none sG k2) (fun z => ?_) id
    obtain ⟨⟨ps', e, _⟩, _⟩ := tb a z
    rw [e] at k1
    cases k1
  have kept : ∀ {env' : Fv} {σ' : L2.St} {H' G' : Hp}, SR K ⟨privOf tabs (fun _ => False) H G, [], tabs, fun _ _ => False⟩ env' σ' H' G' → Kept tabs (fun _ => False) H G H' G' := fun h b o e1 e2 e3 e4 => by
    have e5 : privOf tabs (fun _ => False) H G b = some o := by
      unfold privOf
      rw [if_pos ⟨e2, e3, id⟩]
      exact e1
    exact ⟨h.prot b o e5, h.dj b (ne_none_of e5)⟩
  unfold runF at h5
  unfold wpM
  cases z : (B (env0 N.length (ds.map .sh)) : Res Out) with
  | stuck => rw [z] at h5; cases h5
  | exc c e => rw [z] at h5; cases h5
  | ok o e =>
    rw [z] at h5
    unfold finF at h5
    cases o with
    | nx =>
      cases h5
      exact fun σ' H' G' h s => h6 H' G' .non s h.sub h.tab (kept h) .non
    | rt r1 =>
      have h7 : outV (.rt r1) e = some r := by
        cases y : outV (.rt r1) e with
        | none => simp only [y] at h5; cases h5
        | some r2 => simp only [y] at h5; cases h5; rfl
      exact fun σ' H' G' v h s q => h6 H' G' v s h.sub h.tab (kept h) (retV_ok h q h7 (new s h.tab))
    | bk => cases h5
    | ct => cases h5
/-- a def whose first parameter is a list that it may change -/
theorem fnL {x qual : Str} {st : Stmt} {f : Addr} {fd : FuncData} {N ps : List Str} {k : Nat} {B : Mo Out} (F : Fun K x qual st f fd) (S : FnScope N ps (defScope st)) (hp : ps.length ≤ N.length)
    (hbody : ∀ (cdv : Value) (A : Around) (outer : List Env) (s : Shared) (H : Hp) (E : XK) (p : Hp) (m : Addr), Room k (A.deeper (envOfC qual (defScope st) s.heap.objs.size f cdv)) →
      PBs (cxOf CX0 P w K mg base N qual (defScope st) f cdv A outer s H E).nox ⟨p, [m], tabs, fun _ _ => False⟩ (defBody st) B) : FnOk P w K mg base CX0 (k + 1) f fd ps (spL K tabs ps.length (runL N.length B)) := by
  refine F.ok S (fun vs H Q E ⟨G, m, us, xs, es, ds, e, _, _, h1, _, _, _, h2, _⟩ => by rw [e, ← h1, ← h2.length]; rfl) (fun cdv A outer s H vs Q E hr h => ?_)
  obtain ⟨G, m, us, xs, es, ds, rfl, h1, h2, h3, hm, gm, k1, h4, r, out, h5, h6⟩ := h
  refine ⟨_, hbody cdv A outer s H E _ m hr, _, G, sr_startL (W := fun _ _ => False) h1 h2 hm gm k1 h4 (by omega), ?_⟩
  have new : ∀ {H' G' : Hp}, Sub G G' → (∀ P ∈ tabs, TabOk H' P ∧ G' P = none) → ∀ a xs, H' a = some (.lst xs) → G' a = none → privOf tabs (fun b => b = m) H G a = none → a ∉ [m] → H a = none := fun sG tb a xs k1 k2 k3 k4 => by
    refine privOf_none k3 (sub_none sG k2) (fun z => ?_) fun z => k4 (by simp [z])
    obtain ⟨⟨ps', e, _⟩, _⟩ := tb a z
    rw [e] at k1
    cases k1
  have kept : ∀ {env' : Fv} {σ' : L2.St} {H' G' : Hp}, SR K ⟨privOf tabs (fun b => b = m) H G, [m], tabs, fun _ _ => False⟩ env' σ' H' G' → Kept tabs (fun b => b = m) H G H' G' := fun h b o e1 e2 e3 e4 => by
    have e5 : privOf tabs (fun b => b = m) H G b = some o := by
      unfold privOf
      rw [if_pos ⟨e2, e3, e4⟩]
      exact e1
    exact ⟨h.prot b o e5, h.dj b (ne_none_of e5)⟩
  have lentOut : ∀ {e : Fv} {σ' : L2.St} {H' G' : Hp} {os : List PyData}, SR K ⟨privOf tabs (fun b => b = m) H G, [m], tabs, fun _ _ => False⟩ e σ' H' G' → e[0]? = some (.own (some 0) os) → ∃ ys, H' m = some (.lst ys) ∧ G' m = none ∧ DqAll K G' ys os := fun h e0 => by
    obtain ⟨a, ys, _, z1, z2, z3, _, z4⟩ := h.ownAt e0
    have z4' : [m][0]? = some a := z4
    cases z4'
    exact ⟨ys, z1, z3, z2⟩
  unfold runL at h5
  unfold wpM
  cases z : (B (env0 N.length (.own (some 0) es :: ds.map .sh)) : Res Out) with
  | stuck => rw [z] at h5; cases h5
  | exc c e => rw [z] at h5; cases h5
  | ok o e =>
    rw [z] at h5
    unfold finL at h5
    cases y : outV o e with
    | none => simp only [y] at h5; cases h5
    | some r2 =>
      simp only [y] at h5
      split at h5
      · rename_i r3 os e1 e0
        cases e1
        cases h5
        cases o with
        | nx =>
          cases y
          intro σ' H' G' h s
          obtain ⟨ys, q1, q2, q3⟩ := lentOut h e0
          exact h6 H' G' .non ys s h.sub h.tab (kept h) q1 q2 q3 .non
        | rt r1 =>
          intro σ' H' G' v h s q
          obtain ⟨ys, q1, q2, q3⟩ := lentOut h e0
          exact h6 H' G' v ys s h.sub h.tab (kept h) q1 q2 q3 (retV_ok h q y (new s h.tab))
        | bk => cases y
        | ct => cases y
      · cases h5
end
end Cf
/-! Cf, part I: calls of the program's own defs. -/
namespace Cf
open PySem PySem.Spec PyProof.Rows L2

/-! ### data without lists -/
mutual
def noList : PyData → Bool
  | .list _ => false
  | .tuple ds => noLists ds
  | .dict _ => false
  | _ => true
def noLists : List PyData → Bool
  | [] => true
  | d :: ds => noList d && noLists ds
end
def freeRv : Rv → Bool
  | .sh d => noList d
  | .fr ds => noLists ds
  | .sl _ => false
/-- G without the addresses of A -/
def drop (G : Hp) (A : Addr → Bool) : Hp := fun b => if A b = true then none else G b
def lay (G H : Hp) (A : Addr → Bool) : Hp := fun b => if A b = true then H b else G b
mutual
theorem noList_drop {K : PySem.W.Frag} {G : Hp} {A : Addr → Bool} (hA : ∀ b, A b = true → ∀ xs, Rd G b (.tup xs) → False) : ∀ (d : PyData), noList d = true → ∀ v, Dq K G v d → Dq K (drop G A) v d
  | .none, _, _, h => by cases h; exact .non
  | .bool b, _, _, h => by cases h; exact .bl b
  | .int i, _, _, h => by cases h; exact .int i
  | .str x, _, _, h => by cases h; exact .str x
  | .list ds, c, _, _ => by simp [noList] at c
  | .dict ds, c, _, _ => by simp [noList] at c
  | .tuple ds, c, _, h => by
    cases h with
    | @tup a xs _ h1 h2 =>
      refine .tup ?_ (noLists_drop hA ds (by simpa [noList] using c) _ h2)
      rcases h1 with h1 | h1
      · have : ¬ A a = true := fun z => hA a z xs h1
        rcases h1 with h1 | ⟨o, h1⟩
        · exact .inl (.inl (by unfold drop; rw [if_neg this]; exact h1))
        · exact .inl (.inr ⟨o, by unfold drop; rw [if_neg this]; exact h1⟩)
      · exact .inr h1
theorem noLists_drop {K : PySem.W.Frag} {G : Hp} {A : Addr → Bool} (hA : ∀ b, A b = true → ∀ xs, Rd G b (.tup xs) → False) : ∀ (ds : List PyData), noLists ds = true → ∀ vs, DqAll K G vs ds → DqAll K (drop G A) vs ds
  | [], _, _, h => by cases h; exact .nil
  | d :: ds, c, _, h => by
    simp only [noLists, Bool.and_eq_true] at c
    cases h with
    | cons h1 h2 => exact .cons (noList_drop hA d c.1 _ h1) (noLists_drop hA ds c.2 _ h2)
end

/-! ### a call; lists of ours that are handed over stand still from then on -/
def endF (o : FnR) : Mo Rv := match o with
  | .ok r => pure r
  | .exc _ => stuckM
  | .stuck => stuckM
def callF (n : Nat) (g : List PyData → FnR) (Fs : Mo (List Rv)) : Mo Rv := do
  let rs ← Fs
  let ds ← forces rs
  if ds.length = n then endF (g ds) else stuckM
section
variable {K : PySem.W.Frag} {fr : Fr} {env : Fv} {σ : L2.St} {H G H' G' : Hp}
/-- the relation behind a call that kept what was private -/
theorem SR.kept (h : SR K fr env σ H G) (s : Sub G G') (s' : Sub G' H') (t : Tabs fr.tabs H' G') (k : Kept fr.tabs (fun _ => False) H G H' G') : SR K fr env σ H' G' where
  sub := s'
  prot := fun b o e => (k b o (h.prot b o e) (h.dj b (ne_none_of e)) (fun z => by rw [h.pt b z] at e; cases e) id).1
  dj := fun b e => by
    cases q : fr.prot b with
    | none => exact absurd q e
    | some o => exact (k b o (h.prot b o q) (h.dj b e) (fun z => by rw [h.pt b z] at q; cases q) id).2
  tab := t
  pt := h.pt
  lent := fun a ha z => by
    cases q : H a with
    | none => exact h.lent a ha q
    | some o =>
      cases q2 : G a with
      | some o2 => rw [s' _ _ (s _ _ q2)] at z; cases z
      | none =>
        by_cases hT : a ∈ fr.tabs
        · obtain ⟨⟨ps, e, _⟩, _⟩ := t a hT
          rw [e] at z
          cases z
        · rw [(k a o q q2 hT id).1] at z
          cases z
  len := h.len
  slots := fun i sl e => by
    cases sl with
    | un => trivial
    | sh d =>
      obtain ⟨x, e1, e2⟩ := h.slots i _ e
      exact ⟨x, e1, Sub.dq s _ _ e2⟩
    | own t' ds =>
      obtain ⟨a, xs, e1, k1, k2, k3, k4, k5⟩ := h.slots i _ e
      have nt : a ∉ fr.tabs := fun z => by
        obtain ⟨⟨ps, e, _⟩, _⟩ := h.tab a z
        rw [e] at k1
        cases k1
      obtain ⟨m1, m2⟩ := k a _ k1 k3 nt id
      exact ⟨a, xs, e1, m1, Sub.dqAll s _ _ k2, m2, k4, k5⟩
  dist := h.dist
theorem RetOk.ok {v : V} {r : Rv} (h : SR K fr env σ H G) (q : RetOk K H H' G' v r) : RvOk K fr env σ H' G' v r := RvNew.ok h q
end
section
variable {X : Cx} {fr : Fr} {e : Expr} {es : List Expr} {Fs : Mo (List Rv)} {x : Str} {p pos : Pos} {k n : Nat} {f : Addr} {fd : FuncData} {ps : List Str} {g : List PyData → FnR}
theorem ev_call (F : FnOk X.prog X.w X.K X.mg X.base CX0 k f fd ps (sp0 X.K fr.tabs n g)) (hr : Room k X.A) (hg : Gl X x) (hm : X.mg x = some (.ref f)) (hk : PySem.W.keepIn X.K (.ref f) = true) (hb : Binds X.K fd ps [])
    (ha : PAv X fr (e :: es) Fs) (hdb : (x == ("__debug__" : Str)) = false := by decide) (he : starEach (e :: es) X.env = (false, eval e X.env) :: starEach es X.env := by rfl) (hpl : (backTo pos (starEach es X.env)).any (·.1) = false := by rfl) :
    PEv X fr (.Call (.Name x p) (e :: es) [] pos) (callF n g Fs) :=
  weakE (pe_call F hr hg hm hk hb .nil (pass0) ha hdb he hpl) fun σ H Q ⟨env, G, h, w⟩ => by
    unfold callF at w
    refine tA_then h w (fun rs env1 H1 G1 vs h1 s1 q1 w1 => ?_) fun c e1 E1 H1 G1 h1 s1 => E1 H1 G1 h1 s1
    obtain ⟨ds, env2, G2, h2, s2, d2, w2⟩ := forces_ok h1 q1 (wpM_bind.mp w1)
    rw [List.append_nil]
    split at w2
    · rename_i len
      cases z : g ds with
      | exc c => rw [z] at w2; exact w2.elim
      | stuck => rw [z] at w2; exact w2.elim
      | ok r =>
        rw [z] at w2
        exact ⟨G2, ds, h2.sub, h2.tab, len, d2, r, z, fun H' G' v sG sH t k q => w2 H' G' v (h2.kept sG sH t k) ((s1.trans s2).trans sG) (q.ok h2)⟩
    · exact w2.elim
end

/-! ### a call that lends a list -/
def callL (n : Nat) (g : List PyData → List PyData → FnL) (j : Nat) (Fs : Mo (List Rv)) : Mo Rv := do
  needOwn j
  let rs ← Fs
  let ds ← forces rs
  let es ← getOwn j
  if ds.length + 1 = n then
    match g es ds with
    | .ok r out => do
      putOwn j out
      pure r
    | .stuck => stuckM
  else stuckM
section
variable {K : PySem.W.Frag} {fr : Fr} {env : Fv} {σ : L2.St} {H G H' G' : Hp}
theorem SR.keptL (h : SR K fr env σ H G) {j : Nat} {t0 : Option Nat} {es out : List PyData} {m : Addr} {ys : List V} (ej : env[j]? = some (.own t0 es)) (em : σ[j]? = some (some (.ref m)))
    (s : Sub G G') (s' : Sub G' H') (t : Tabs fr.tabs H' G') (k : Kept fr.tabs (fun b => b = m) H G H' G') (hm : H' m = some (.lst ys)) (gm : G' m = none) (q : DqAll K G' ys out) : SR K fr (env.set j (.own t0 out)) σ H' G' := by
  obtain ⟨m', xs0, z1, z2, z3, z4, z5, z6⟩ := h.ownAt ej
  rw [em] at z1
  cases z1
  have hj : j < env.length := (List.getElem?_eq_some_iff.mp ej).1
  have nm : ∀ b o, fr.prot b = some o → b ≠ m := fun b o e z => by rw [z, z5] at e; cases e
  have n : ∀ (i : Nat) (t1 : Option Nat) (es1 : List PyData), (env.set j (.own t0 out))[i]? = some (.own t1 es1) → ∃ t2 es2, env[i]? = some (.own t2 es2) := fun i t1 es1 e => by
    by_cases hi : i = j
    · subst hi; exact ⟨_, _, ej⟩
    · rw [List.getElem?_set_ne (Ne.symm hi)] at e; exact ⟨_, _, e⟩
  refine ⟨s', fun b o e => (k b o (h.prot b o e) (h.dj b (ne_none_of e)) (fun z => by rw [h.pt b z] at e; cases e) (nm b o e)).1, fun b e => ?_, t, h.pt, fun a ha z => ?_, by simpa using h.len, fun i sl e => ?_, fun i i2 t1 t2 es1 es2 b hii e1 e2 => ?_⟩
  · cases q : fr.prot b with
    | none => exact absurd q e
    | some o => exact (k b o (h.prot b o q) (h.dj b e) (fun z => by rw [h.pt b z] at q; cases q) (nm b o q)).2
  · cases q : H a with
    | none => exact h.lent a ha q
    | some o =>
      cases q2 : G a with
      | some o2 => rw [s' _ _ (s _ _ q2)] at z; cases z
      | none =>
        by_cases hT : a ∈ fr.tabs
        · obtain ⟨⟨ps, e, _⟩, _⟩ := t a hT
          rw [e] at z
          cases z
        · by_cases ham : a = m
          · rw [ham, hm] at z; cases z
          · rw [(k a o q q2 hT ham).1] at z
            cases z
  · by_cases hi : i = j
    · subst hi
      rw [List.getElem?_set_self hj] at e
      cases e
      exact ⟨m, ys, by rw [em]; rfl, hm, q, gm, z5, z6⟩
    · rw [List.getElem?_set_ne (Ne.symm hi)] at e
      cases sl with
      | un => trivial
      | sh d =>
        obtain ⟨x, e1, e2⟩ := h.slots i _ e
        exact ⟨x, e1, Sub.dq s _ _ e2⟩
      | own t' ds =>
        obtain ⟨a, xs, e1, k1, k2, k3, k4, k5⟩ := h.ownAt e
        have nt : a ∉ fr.tabs := fun z => by
          obtain ⟨⟨ps, e, _⟩, _⟩ := h.tab a z
          rw [e] at k1
          cases k1
        have na : a ≠ m := fun z => h.dist j i t0 t' es ds m (Ne.symm hi) ej e em (by rw [← z]; exact e1)
        obtain ⟨m1, m2⟩ := k a _ k1 k3 nt na
        exact ⟨a, xs, by rw [e1]; rfl, m1, Sub.dqAll s _ _ k2, m2, k4, k5⟩
  · obtain ⟨t3, es3, e3⟩ := n _ _ _ e1
    obtain ⟨t4, es4, e4⟩ := n _ _ _ e2
    exact h.dist i i2 t3 t4 es3 es4 b hii e3 e4
end
section
variable {X : Cx} {fr : Fr} {e : Expr} {es : List Expr} {Fs : Mo (List Rv)} {x : Str} {p pos : Pos} {k n j : Nat} {f : Addr} {fd : FuncData} {ps : List Str} {g : List PyData → List PyData → FnL}
theorem ev_callL (F : FnOk X.prog X.w X.K X.mg X.base CX0 k f fd ps (spL X.K fr.tabs n g)) (hr : Room k X.A) (hg : Gl X x) (hm : X.mg x = some (.ref f)) (hk : PySem.W.keepIn X.K (.ref f) = true) (hb : Binds X.K fd ps [])
    (h0 : PEv X fr e (readF j)) (ha : PAv X fr es Fs) (hdb : (x == ("__debug__" : Str)) = false := by decide) (he : starEach (e :: es) X.env = (false, eval e X.env) :: starEach es X.env := by rfl) (hpl : (backTo pos (starEach es X.env)).any (·.1) = false := by rfl) :
    PEv X fr (.Call (.Name x p) (e :: es) [] pos) (callL n g j Fs) :=
  weakE (pe_call F hr hg hm hk hb .nil (pass0) (pa_cons h0 ha he) hdb he hpl) fun σ H Q ⟨env, G, h, w⟩ => by
    unfold callL at w
    obtain ⟨t0, es0, e0, w0⟩ := wpM_need w
    refine tE_read h e0 fun m H0 G0 xs0 h0 s0 em _ _ => ?_
    refine tA_then h0 w0 (fun rs env1 H1 G1 vs h1 s1 q1 w1 => ?_) fun c e1 E1 H1 G1 h1 s1 => E1 H1 G1 h1 (s0.trans s1)
    obtain ⟨ds, env2, G2, h2, s2, d2, w2⟩ := forces_ok h1 q1 (wpM_bind.mp w1)
    obtain ⟨t3, es3, e3, w3⟩ := wpM_own w2
    obtain ⟨m', xs3, z1, z2, z3, z4, z5, z6⟩ := h2.ownAt e3
    rw [em] at z1
    cases z1
    rw [List.append_nil]
    split at w3
    · rename_i len
      cases z : g es3 ds with
      | stuck => rw [z] at w3; exact w3.elim
      | ok r out =>
        rw [z] at w3
        have w4 := wpM_put e3 w3
        exact ⟨G2, m, vs, xs3, es3, ds, rfl, h2.sub, h2.tab, len, z2, z4, z3, d2, r, out, z, fun H' G' v ys sG sH t k hm gm qo q => by
          have h4 := h2.keptL e3 em sG sH t k hm gm qo
          refine w4 H' G' v h4 (((s0.trans s1).trans s2).trans sG) ?_
          cases r with
          | sh d => exact q
          | sl _ => exact q.elim
          | fr ds' =>
            obtain ⟨a, xs, e5, k1, k2, k3, k4⟩ := q
            refine ⟨a, xs, e5, k1, k2, k3, ?_, fun z => h2.lent a z k4, fun i t es' ei => ?_⟩
            · cases z : fr.prot a with
              | none => rfl
              | some o => rw [h2.prot a o z] at k4; cases k4
            · by_cases hi : i = j
              · rw [hi, em]
                intro z
                cases z
                rw [z2] at k4
                cases k4
              · rw [List.getElem?_set_ne (Ne.symm hi)] at ei
                exact h2.notOwn k4 i t es' ei⟩
    · exact w3.elim
end

/-! ### a call that only reads our lists; what it hands back holds none -/
def callB (n : Nat) (g : List PyData → FnR) (Fs : Mo (List Rv)) : Mo Rv := do
  let rs ← Fs
  let ds ← peeks rs
  if ds.length = n then
    match g ds with
    | .ok r => if freeRv r = true then pure r else stuckM
    | _ => stuckM
  else stuckM
/-- the addresses of our own lists -/
noncomputable def ownA (env : Fv) (σ : L2.St) : Addr → Bool := fun b => @decide (∃ (i : Nat) (t : Option Nat) (ds : List PyData), env[i]? = some (.own t ds) ∧ σ[i]? = some (some (.ref b))) (Classical.propDecidable _)
section
variable {K : PySem.W.Frag} {fr : Fr} {env : Fv} {σ : L2.St} {H G H' G' : Hp}
theorem ownA_iff {b : Addr} : ownA env σ b = true ↔ ∃ (i : Nat) (t : Option Nat) (ds : List PyData), env[i]? = some (.own t ds) ∧ σ[i]? = some (some (.ref b)) := by
  unfold ownA
  exact @decide_eq_true_iff _ (Classical.propDecidable _)
theorem SR.ownA_at (h : SR K fr env σ H G) {b : Addr} (hb : ownA env σ b = true) : (∃ xs, H b = some (.lst xs)) ∧ G b = none ∧ fr.prot b = none := by
  obtain ⟨i, t, ds, e1, e2⟩ := ownA_iff.mp hb
  obtain ⟨a, xs, z1, z2, z3, z4, z5, _⟩ := h.ownAt e1
  rw [e2] at z1
  cases z1
  exact ⟨⟨xs, z2⟩, z4, z5⟩
theorem SR.laySub (h : SR K fr env σ H G) : Sub (lay G H (ownA env σ)) H := fun b o e => by
  unfold lay at e
  split at e
  · exact e
  · exact h.sub b o e
theorem SR.subLay (h : SR K fr env σ H G) : Sub G (lay G H (ownA env σ)) := fun b o e => by
  unfold lay
  rw [if_neg (fun z => by rw [(h.ownA_at z).2.1] at e; cases e)]
  exact e
theorem SR.tabLay (h : SR K fr env σ H G) : Tabs fr.tabs H (lay G H (ownA env σ)) := fun P hP => ⟨(h.tab P hP).1, by
  obtain ⟨⟨ps, e, _⟩, g⟩ := h.tab P hP
  unfold lay
  rw [if_neg (fun z => by
    obtain ⟨⟨xs, e2⟩, _⟩ := h.ownA_at z
    rw [e2] at e
    cases e)]
  exact g⟩
theorem peeks_lay (h : SR K fr env σ H G) : ∀ {vs : List V} {rs : List Rv}, RvsOk K σ G vs rs → ∀ {Q : List PyData → Fv → Prop} {E : Nat → Fv → Prop}, wpM (peeks rs) env Q E → ∃ ds, DqAll K (lay G H (ownA env σ)) vs ds ∧ Q ds env
  | [], [], _, _, _, w => ⟨[], .nil, w⟩
  | [], _ :: _, h, _, _, _ => h.elim
  | _ :: _, [], h, _, _, _ => h.elim
  | v :: vs, r :: rs, q, Q, E, w => by
    obtain ⟨q1, q2⟩ := rvsOk_cons.mp q
    unfold peeks at w
    have one : ∃ d, Dq K (lay G H (ownA env σ)) v d ∧ wpM (peeks rs >>= fun ds => pure (d :: ds)) env Q E := by
      have w' := wpM_bind.mp w
      cases r with
      | sh d => exact ⟨d, Sub.dq h.subLay _ _ q1, w'⟩
      | fr ds => exact q1.elim
      | sl i =>
        have q1' : σ[i]? = some (some v) := q1
        unfold wpM peek at w'
        cases e : env[i]? with
        | none => simp [e] at w'
        | some sl =>
          cases sl with
          | un => simp [e] at w'
          | sh d =>
            simp only [e] at w'
            obtain ⟨x, e1, e2⟩ := h.shAt e
            rw [q1'] at e1; cases e1
            exact ⟨d, Sub.dq h.subLay _ _ e2, w'⟩
          | own t ds =>
            simp only [e] at w'
            obtain ⟨a, xs, e1, e2, e3, _⟩ := h.ownAt e
            rw [q1'] at e1; cases e1
            refine ⟨.list ds, .lst ?_ (Sub.dqAll h.subLay _ _ e3), w'⟩
            unfold lay
            rw [if_pos (ownA_iff.mpr ⟨i, t, ds, e, q1'⟩)]
            exact e2
    obtain ⟨d, h1, w1⟩ := one
    obtain ⟨ds, h2, w2⟩ := peeks_lay h q2 (wpM_bind.mp w1)
    exact ⟨d :: ds, .cons h1 h2, w2⟩
theorem SR.keptB (h : SR K fr env σ H G) (s : Sub (lay G H (ownA env σ)) G') (s' : Sub G' H') (t : Tabs fr.tabs H' G') (k : Kept fr.tabs (fun _ => False) H (lay G H (ownA env σ)) H' G') :
    SR K fr env σ H' (drop G' (ownA env σ)) ∧ Sub G (drop G' (ownA env σ)) := by
  have sG : Sub G (drop G' (ownA env σ)) := fun b o e => by
    unfold drop
    rw [if_neg (fun z => by rw [(h.ownA_at z).2.1] at e; cases e)]
    exact s b o (h.subLay b o e)
  have nl : ∀ b o, fr.prot b = some o → lay G H (ownA env σ) b = none := fun b o e => by
    unfold lay
    rw [if_neg (fun z => by rw [(h.ownA_at z).2.2] at e; cases e)]
    exact h.dj b (ne_none_of e)
  refine ⟨⟨fun b o e => ?_, fun b o e => (k b o (h.prot b o e) (nl b o e) (fun z => by rw [h.pt b z] at e; cases e) id).1, fun b e => ?_, fun P hP => ⟨(t P hP).1, by unfold drop; split; rfl; exact (t P hP).2⟩, h.pt, fun a ha z => ?_, h.len, fun i sl e => ?_, h.dist⟩, sG⟩
  · unfold drop at e
    split at e
    · cases e
    · exact s' b o e
  · cases q : fr.prot b with
    | none => exact absurd q e
    | some o =>
      unfold drop
      split
      · rfl
      · exact (k b o (h.prot b o q) (nl b o q) (fun z => by rw [h.pt b z] at q; cases q) id).2
  · cases q : H a with
    | none => exact h.lent a ha q
    | some o =>
      cases q2 : lay G H (ownA env σ) a with
      | some o2 => rw [s' _ _ (s _ _ q2)] at z; cases z
      | none =>
        by_cases hT : a ∈ fr.tabs
        · obtain ⟨⟨ps, e, _⟩, _⟩ := t a hT
          rw [e] at z
          cases z
        · rw [(k a o q q2 hT id).1] at z
          cases z
  · cases sl with
    | un => trivial
    | sh d =>
      obtain ⟨x, e1, e2⟩ := h.slots i _ e
      exact ⟨x, e1, Sub.dq sG _ _ e2⟩
    | own t' ds =>
      obtain ⟨a, xs, e1, k1, k2, k3, k4, k5⟩ := h.ownAt e
      have ha : ownA env σ a = true := ownA_iff.mpr ⟨i, t', ds, e, e1⟩
      have hl : lay G H (ownA env σ) a = some (.lst xs) := by unfold lay; rw [if_pos ha]; exact k1
      exact ⟨a, xs, by rw [e1]; rfl, s' _ _ (s _ _ hl), Sub.dqAll sG _ _ k2, by unfold drop; rw [if_pos ha], k4, k5⟩
theorem keptB_val (h : SR K fr env σ H G) (s : Sub (lay G H (ownA env σ)) G') {v : V} {r : Rv} (hf : freeRv r = true) (q : RetOk K H H' G' v r) : RvOk K fr env σ H' (drop G' (ownA env σ)) v r := by
  have hA : ∀ b, ownA env σ b = true → ∀ xs, Rd G' b (.tup xs) → False := fun b hb xs z => by
    obtain ⟨⟨ys, e⟩, _⟩ := h.ownA_at hb
    have hl : lay G H (ownA env σ) b = some (.lst ys) := by unfold lay; rw [if_pos hb]; exact e
    have e2 := s _ _ hl
    rcases z with z | ⟨o, z⟩
    · rw [e2] at z; cases z
    · rw [e2] at z; cases z
  cases r with
  | sh d => exact noList_drop hA d hf _ q
  | sl _ => exact q.elim
  | fr ds =>
    obtain ⟨a, xs, e, k1, k2, k3, k4⟩ := q
    refine ⟨a, xs, e, k1, noLists_drop hA ds hf _ k2, ?_, ?_, fun z => h.lent a z k4, h.notOwn k4⟩
    · unfold drop
      split
      · rfl
      · exact k3
    · cases z : fr.prot a with
      | none => rfl
      | some o => rw [h.prot a o z] at k4; cases k4
end
section
variable {X : Cx} {fr : Fr} {e : Expr} {es : List Expr} {Fs : Mo (List Rv)} {x : Str} {p pos : Pos} {k n : Nat} {f : Addr} {fd : FuncData} {ps : List Str} {g : List PyData → FnR}
theorem ev_callBw (F : FnOk X.prog X.w X.K X.mg X.base CX0 k f fd ps (sp0 X.K fr.tabs n g)) (hr : Room k X.A) (hg : Gl X x) (hm : X.mg x = some (.ref f)) (hk : PySem.W.keepIn X.K (.ref f) = true) (hb : Binds X.K fd ps [])
    (ha : PAv X fr (e :: es) Fs) (hdb : (x == ("__debug__" : Str)) = false := by decide) (he : starEach (e :: es) X.env = (false, eval e X.env) :: starEach es X.env := by rfl) (hpl : (backTo pos (starEach es X.env)).any (·.1) = false := by rfl) :
    PEv X fr (.Call (.Name x p) (e :: es) [] pos) (callB n g Fs) :=
  weakE (pe_call F hr hg hm hk hb .nil (pass0) ha hdb he hpl) fun σ H Q ⟨env, G, h, w⟩ => by
    unfold callB at w
    refine tA_then h w (fun rs env1 H1 G1 vs h1 s1 q1 w1 => ?_) fun c e1 E1 H1 G1 h1 s1 => E1 H1 G1 h1 s1
    obtain ⟨ds, d2, w2⟩ := peeks_lay h1 q1 (wpM_bind.mp w1)
    rw [List.append_nil]
    split at w2
    · rename_i len
      cases z : g ds with
      | exc c => rw [z] at w2; exact w2.elim
      | stuck => rw [z] at w2; exact w2.elim
      | ok r =>
        rw [z] at w2
        simp only at w2
        split at w2
        · rename_i hf
          exact ⟨_, ds, h1.laySub, h1.tabLay, len, d2, r, z, fun H' G' v sG sH t k q => by
            obtain ⟨h3, s3⟩ := h1.keptB sG sH t k
            exact w2 H' _ v h3 (s1.trans s3) (keptB_val h1 sG hf q)⟩
        · exact w2.elim
    · exact w2.elim
end
end Cf
/-! Cf, part J: comprehensions. -/
namespace Cf
open PySem PySem.Spec PyProof.Rows L2

def wipeE : List Nat → Fv → Fv
  | [], e => e
  | v :: vs, e => (wipeE vs e).set v .un
def restE (e : Fv) : List Nat → Fv → Fv
  | [], e' => e'
  | v :: vs, e' => (restE e vs e').set v ((e[v]?).getD .un)
def noOwn (vs : List Nat) (e : Fv) : Bool := vs.all fun v => match e[v]? with
  | some (.own _ _) => false
  | _ => true
theorem wipeE_length : ∀ (vs : List Nat) (e : Fv), (wipeE vs e).length = e.length
  | [], e => rfl
  | v :: vs, e => by unfold wipeE; rw [List.length_set, wipeE_length vs e]
theorem restE_length (e : Fv) : ∀ (vs : List Nat) (e' : Fv), (restE e vs e').length = e'.length
  | [], _ => rfl
  | v :: vs, e' => by unfold restE; rw [List.length_set, restE_length e vs e']
theorem wipeE_out {i : Nat} : ∀ {vs : List Nat} {e : Fv}, i ∉ vs → (wipeE vs e)[i]? = e[i]?
  | [], _, _ => rfl
  | v :: vs, e, h => by
    unfold wipeE
    rw [List.getElem?_set_ne (fun z => h (by simp [z]))]
    exact wipeE_out fun z => h (List.mem_cons_of_mem _ z)
theorem wipeE_in {i : Nat} : ∀ {vs : List Nat} {e : Fv}, i ∈ vs → i < e.length → (wipeE vs e)[i]? = some .un
  | v :: vs, e, h, hl => by
    unfold wipeE
    by_cases hv : v = i
    · subst hv
      rw [List.getElem?_set_self (by rw [wipeE_length]; exact hl)]
    · rw [List.getElem?_set_ne hv]
      exact wipeE_in ((List.mem_cons.mp h).resolve_left fun z => hv z.symm) hl
theorem restE_out {e : Fv} {i : Nat} : ∀ {vs : List Nat} {e' : Fv}, i ∉ vs → (restE e vs e')[i]? = e'[i]?
  | [], _, _ => rfl
  | v :: vs, e', h => by
    unfold restE
    rw [List.getElem?_set_ne (fun z => h (by simp [z]))]
    exact restE_out fun z => h (List.mem_cons_of_mem _ z)
theorem restE_in {e : Fv} {i : Nat} : ∀ {vs : List Nat} {e' : Fv}, i ∈ vs → i < e'.length → (restE e vs e')[i]? = some ((e[i]?).getD .un)
  | v :: vs, e', h, hl => by
    unfold restE
    by_cases hv : v = i
    · subst hv
      rw [List.getElem?_set_self (by rw [restE_length]; exact hl)]
    · rw [List.getElem?_set_ne hv]
      exact restE_in ((List.mem_cons.mp h).resolve_left fun z => hv z.symm) hl
theorem wipe_at {σ : L2.St} {i : Nat} {vs : List Nat} (h : i ∉ vs) : (wipe σ vs)[i]? = σ[i]? := wipe_out h

theorem wipe_in {σ : L2.St} {i : Nat} : ∀ {vs : List Nat}, i ∈ vs → i < σ.length → (L2.wipe σ vs)[i]? = some none
  | v :: vs, h, hl => by
    unfold L2.wipe
    by_cases hv : v = i
    · subst hv
      rw [List.getElem?_set_self (by rw [wipe_length]; exact hl)]
    · rw [List.getElem?_set_ne hv]
      exact wipe_in ((List.mem_cons.mp h).resolve_left fun z => hv z.symm) hl
theorem wipe_off {σ σ' : L2.St} {vs ws : List Nat} (h : Off ws (L2.wipe σ vs) σ') (s : ∀ i ∈ ws, i ∈ vs) : L2.wipe σ' vs = L2.wipe σ vs := by
  have hl : σ'.length = σ.length := by have := h.1; rw [wipe_length] at this; exact this
  refine List.ext_getElem? fun i => ?_
  by_cases hi : i ∈ vs
  · by_cases hlt : i < σ.length
    · rw [wipe_in hi hlt, wipe_in hi (by omega)]
    · rw [List.getElem?_eq_none (by rw [wipe_length]; omega), List.getElem?_eq_none (by rw [wipe_length]; omega)]
  · rw [wipe_at hi, h.2 i (fun z => hi (s i z))]
theorem restE_own {vs : List Nat} {env env' : Fv} (no : noOwn vs env = true) {i : Nat} {t : Option Nat} {es : List PyData} (e : (restE env vs env')[i]? = some (.own t es)) : i ∉ vs ∧ (wipeE vs env')[i]? = some (.own t es) := by
  have hi : i ∉ vs := fun hi => by
    have hlt : i < env'.length := by
      have := (List.getElem?_eq_some_iff.mp e).1
      rw [restE_length] at this
      exact this
    rw [restE_in hi hlt] at e
    have q := List.all_eq_true.mp no i hi
    cases z : env[i]? with
    | none => rw [z] at e; cases e
    | some sl =>
      rw [z] at e q
      cases e
      cases q
  rw [restE_out hi] at e
  exact ⟨hi, by rw [wipeE_out hi]; exact e⟩
section
variable {K : PySem.W.Frag} {fr : Fr} {env env' : Fv} {σ : L2.St} {H G H' G' : Hp}
/-- the slots of vs forgotten -/
theorem SR.wipe (h : SR K fr env σ H G) (vs : List Nat) : SR K fr (wipeE vs env) (L2.wipe σ vs) H G := by
  have n : ∀ (i : Nat) (sl : Sl), (wipeE vs env)[i]? = some sl → sl = .un ∨ (i ∉ vs ∧ env[i]? = some sl) := fun i sl e => by
    by_cases hi : i ∈ vs
    · by_cases hl : i < env.length
      · rw [wipeE_in hi hl] at e; cases e; exact .inl rfl
      · rw [List.getElem?_eq_none (by rw [wipeE_length]; omega)] at e; cases e
    · rw [wipeE_out hi] at e; exact .inr ⟨hi, e⟩
  refine ⟨h.sub, h.prot, h.dj, h.tab, h.pt, h.lent, by rw [wipeE_length, wipe_length]; exact h.len, fun i sl e => ?_, fun i j t t' es es' a hij ei ej => ?_⟩
  · rcases n i sl e with rfl | ⟨hi, e⟩
    · trivial
    · rw [wipe_at hi]; exact h.slots i sl e
  · rcases n i _ ei with z | ⟨hi, ei⟩
    · cases z
    · rcases n j _ ej with z | ⟨hj, ej⟩
      · cases z
      · rw [wipe_at hi, wipe_at hj]; exact h.dist i j t t' es es' a hij ei ej
/-- behind a block: the slots of vs as they were -/
theorem SR.rest {vs : List Nat} (h : SR K fr env σ H G) (h' : SR K fr (wipeE vs env') (L2.wipe σ vs) H' G') (s : Sub G G') (no : noOwn vs env = true) : SR K fr (restE env vs env') σ H' G' := by
  have hl : env'.length = σ.length := by have := h'.len; rw [wipeE_length, wipe_length] at this; exact this
  have hl2 := h.len
  have n : ∀ (i : Nat) (sl : Sl), (restE env vs env')[i]? = some sl → (i ∈ vs ∧ (sl = .un ∨ ∃ d, sl = .sh d ∧ env[i]? = some (.sh d))) ∨ (i ∉ vs ∧ (wipeE vs env')[i]? = some sl) := fun i sl e => by
    by_cases hi : i ∈ vs
    · by_cases hlt : i < env'.length
      · rw [restE_in hi hlt] at e
        cases e
        have q := List.all_eq_true.mp no i hi
        cases z : env[i]? with
        | none => exact .inl ⟨hi, .inl rfl⟩
        | some sl =>
          cases sl with
          | un => exact .inl ⟨hi, .inl rfl⟩
          | sh d => exact .inl ⟨hi, .inr ⟨d, rfl, rfl⟩⟩
          | own t ds => rw [z] at q; cases q
      · rw [List.getElem?_eq_none (by rw [restE_length]; omega)] at e; cases e
    · rw [restE_out hi] at e
      exact .inr ⟨hi, by rw [wipeE_out hi]; exact e⟩
  refine ⟨h'.sub, h'.prot, h'.dj, h'.tab, h'.pt, h'.lent, by rw [restE_length]; exact hl, fun i sl e => ?_, fun i j t t' es es' a hij ei ej => ?_⟩
  · rcases n i sl e with ⟨_, rfl | ⟨d, rfl, e2⟩⟩ | ⟨hi, e2⟩
    · trivial
    · obtain ⟨x, e3, e4⟩ := h.slots i _ e2
      exact ⟨x, e3, Sub.dq s _ _ e4⟩
    · have q := h'.slots i sl e2
      rw [wipe_at hi] at q
      exact q
  · rcases n i _ ei with ⟨_, z | ⟨d, z, _⟩⟩ | ⟨hi, e2⟩
    · cases z
    · cases z
    · rcases n j _ ej with ⟨_, z | ⟨d, z, _⟩⟩ | ⟨hj, e3⟩
      · cases z
      · cases z
      · have q := h'.dist i j t t' es es' a hij e2 e3
        rw [wipe_at hi, wipe_at hj] at q
        exact q
/-- a thing of our own that no slot holds is to stay -/
theorem SR.guard (h : SR K fr env σ H G) {D : Addr} {o : HO} (e : H D = some o) (g : G D = none) (nt : D ∉ fr.tabs) (no : ∀ (i : Nat) (t : Option Nat) (es : List PyData), env[i]? = some (.own t es) → σ[i]? ≠ some (some (.ref D))) (W : Nat → Hp → Prop) : SR K ⟨upd fr.prot D o, fr.muts, fr.tabs, W⟩ env σ H G := by
  refine ⟨h.sub, fun b x q => ?_, fun b q => ?_, h.tab, fun P hP => ?_, h.lent, h.len, fun i sl q => ?_, h.dist⟩
  · have q' : upd fr.prot D o b = some x := q
    by_cases hb : b = D
    · rw [hb, upd_same] at q'; cases q'; rw [hb]; exact e
    · rw [upd_ne hb] at q'; exact h.prot b x q'
  · have q' : upd fr.prot D o b ≠ none := q
    by_cases hb : b = D
    · rw [hb]; exact g
    · rw [upd_ne hb] at q'; exact h.dj b q'
  · show upd fr.prot D o P = none
    rw [upd_ne (fun z => nt (by rw [← z]; exact hP))]
    exact h.pt P hP
  · have z := h.slots i sl q
    cases sl with
    | un => trivial
    | sh d => exact z
    | own t es =>
      obtain ⟨a, xs, e1, k1, k2, k3, k4, k5⟩ := h.ownAt q
      refine ⟨a, xs, by rw [e1]; rfl, k1, k2, k3, ?_, k5⟩
      show upd fr.prot D o a = none
      rw [upd_ne (fun z => no i t es q (by rw [← z]; exact e1))]
      exact k4
theorem SR.unguard {D : Addr} {o : HO} {W : Nat → Hp → Prop} (hD : fr.prot D = none) (h : SR K ⟨upd fr.prot D o, fr.muts, fr.tabs, W⟩ env σ H G) : SR K fr env σ H G ∧ H D = some o ∧ G D = none ∧ ∀ (i : Nat) (t : Option Nat) (es : List PyData), env[i]? = some (.own t es) → σ[i]? ≠ some (some (.ref D)) := by
  have at_ : ∀ b, b ≠ D → upd fr.prot D o b = fr.prot b := fun b hb => upd_ne hb
  refine ⟨⟨h.sub, fun b x q => ?_, fun b q => ?_, h.tab, fun P hP => ?_, h.lent, h.len, fun i sl q => ?_, h.dist⟩, h.prot D o upd_same, h.dj D (by show upd fr.prot D o D ≠ none; rw [upd_same]; simp), fun i t es q z => ?_⟩
  · refine h.prot b x ?_
    show upd fr.prot D o b = some x
    rw [at_ b (fun z => by rw [z, hD] at q; cases q)]
    exact q
  · refine h.dj b ?_
    show upd fr.prot D o b ≠ none
    rw [at_ b (fun z => q (by rw [z]; exact hD))]
    exact q
  · have q : upd fr.prot D o P = none := h.pt P hP
    by_cases hb : P = D
    · rw [hb]; exact hD
    · rw [at_ P hb] at q; exact q
  · have z := h.slots i sl q
    cases sl with
    | un => trivial
    | sh d => exact z
    | own t es =>
      obtain ⟨a, xs, e1, k1, k2, k3, k4, k5⟩ := h.ownAt q
      have k4' : upd fr.prot D o a = none := k4
      have na : a ≠ D := fun y => by rw [y, upd_same] at k4'; cases k4'
      rw [at_ a na] at k4'
      exact ⟨a, xs, by rw [e1]; rfl, k1, k2, k3, k4', k5⟩
  · obtain ⟨a, xs, e1, k1, k2, k3, k4, k5⟩ := h.ownAt q
    rw [e1] at z
    cases z
    have k4' : upd fr.prot D o D = none := k4
    rw [upd_same] at k4'
    cases k4'
/-- such a thing is changed -/
theorem SR.poke (h : SR K fr env σ H G) {D : Addr} {o o' : HO} (e : H D = some o) (hD : fr.prot D = none) (g : G D = none) (nt : D ∉ fr.tabs) (no : ∀ (i : Nat) (t : Option Nat) (es : List PyData), env[i]? = some (.own t es) → σ[i]? ≠ some (some (.ref D))) : SR K fr env σ (upd H D o') G := by
  refine ⟨fun b x q => ?_, fun b x q => ?_, h.dj, fun P hP => ?_, h.pt, fun a ha => ?_, h.len, fun i sl q => ?_, h.dist⟩
  · rw [upd_ne (ne_of_none q g)]; exact h.sub b x q
  · rw [upd_ne (ne_of_none q hD)]; exact h.prot b x q
  · obtain ⟨⟨ps, e2, r⟩, g⟩ := h.tab P hP
    exact ⟨⟨ps, by rw [upd_ne (fun z => nt (by rw [← z]; exact hP))]; exact e2, r⟩, g⟩
  · by_cases hb : a = D
    · rw [hb, upd_same]; simp
    · rw [upd_ne hb]; exact h.lent a ha
  · have z := h.slots i sl q
    cases sl with
    | un => trivial
    | sh d => exact z
    | own t es =>
      obtain ⟨a, xs, e1, k1, k2⟩ := h.ownAt q
      exact ⟨a, xs, by rw [e1]; rfl, by rw [upd_ne (fun z => no i t es q (by rw [← z]; exact e1))]; exact k1, k2⟩
end

/-! ### [e for x in xs if t] -/
def lcLoop (vs : List Nat) (T : PyData → Mo Unit) (C : Mo Bool) (F : Mo Rv) : List PyData → List PyData → Mo (List PyData)
  | [], acc => pure acc
  | d :: ds, acc => fun e => (thenU (T d) do
      let b ← C
      if b = true then do
        let r ← F
        let x ← force r
        if acc.length < sizeLine then lcLoop vs T C F ds (acc ++ [x]) else stuckM
      else lcLoop vs T C F ds acc) (wipeE vs e)
def block {α : Type} (vs : List Nat) (m : Mo α) : Mo α := fun e => if noOwn vs e = true then
    match m e with
    | .ok a e' => .ok a (restE e vs e')
    | .exc _ _ => .stuck
    | .stuck => .stuck
  else .stuck
def lcF (vs : List Nat) (I : Mo (List PyData)) (T : PyData → Mo Unit) (C : Mo Bool) (F : Mo Rv) : Mo Rv := do
  let ds ← I
  let acc ← block vs (lcLoop vs T C F ds [])
  pure (.fr acc)
theorem wpM_block {α β : Type} {vs : List Nat} {m : Mo α} {k : α → Mo β} {env : Fv} {Q : β → Fv → Prop} {E : Nat → Fv → Prop} (w : wpM (block vs m >>= k) env Q E) : noOwn vs env = true ∧ wpM m env (fun a e' => wpM (k a) (restE env vs e') Q E) (fun _ _ => False) := by
  rw [wpM_bind] at w
  unfold wpM block at w
  by_cases h : noOwn vs env = true
  · rw [if_pos h] at w
    refine ⟨h, ?_⟩
    unfold wpM
    cases z : (m env : Res α) <;> simp only [z] at w ⊢
    exact w
  · rw [if_neg h] at w
    exact w.elim
def PTsv (X : Cx) (fr : Fr) (ifs : List Expr) (C : Mo Bool) : Prop := PTs X ifs (tT X.K fr C)
def yesF : Mo Bool := pure true
section
variable {X : Cx} {fr : Fr} {c : Expr} {C : Mo Bool}
theorem ets_nil : PTsv X fr [] yesF := ⟨fun pins s σ H Q I ⟨env, G, h, w⟩ => pts_nil.run pins s σ H Q I (w H G h .refl)⟩
theorem ets_one (h : PTv X fr c C) : PTsv X fr [c] C := pts_one h
end
abbrev Fr.in (fr : Fr) (p : Hp) : Fr := ⟨p, fr.muts, fr.tabs, fun _ _ => False⟩
section
variable {X : Cx} {fr : Fr} {elt tg iter : Expr} {ifs : List Expr} {scope : Scope} {own : List (Str × Nat)} {pos : Pos} {I : Mo (List PyData)} {T : PyData → Mo Unit} {C : Mo Bool} {F : Mo Rv} {ws : List Nat}
theorem lc_reads (hws : ∀ i ∈ ws, i ∈ own.map (·.2)) : ∀ σ H Q, tE X.K fr (lcF (own.map (·.2)) I T C F) σ H Q → tLc (tI X.K fr I) (fun v σ H Q => ∃ p, tG X.K (fr.in p) ws T v σ H Q) (fun σ H Q => ∃ p, tT X.K (fr.in p) C σ H Q) (fun σ H Q => ∃ p, tE X.K (fr.in p) F σ H Q) (own.map (·.2)) σ H Q := fun σ H Q ⟨env, G, h, w⟩ => by
  unfold lcF at w
  generalize own.map (·.2) = vs at hws w ⊢
  refine ⟨env, G, h, wpM_mono (wpM_bind.mp w) (fun ds env1 w1 H1 G1 J h1 s1 io => ?_) fun c e1 E1 => E1⟩
  obtain ⟨no, w2⟩ := wpM_block w1
  intro D hD
  have pD : fr.prot D = none := by
    cases z : fr.prot D with
    | none => rfl
    | some o => rw [h1.prot D o z] at hD; cases hD
  have nT : D ∉ fr.tabs := fun z => by
    obtain ⟨⟨ps, e, _⟩, _⟩ := h1.tab D z
    rw [hD] at e
    cases e
  have stD := Stp.lay (o := .lst []) h1.sub hD
  have hw := (h1.stp stD).wipe vs
  refine ⟨fun i m H' => ∃ env' G' acc accV, SR X.K fr (wipeE vs env') (wipe σ vs) H' G' ∧ Sub G1 G' ∧ H' D = some (.lst accV) ∧ DqAll X.K G' accV acc ∧ G' D = none ∧
      (∀ (i : Nat) (t : Option Nat) (es : List PyData), (wipeE vs env')[i]? = some (.own t es) → (wipe σ vs)[i]? ≠ some (some (.ref D))) ∧ m = ds.length - i ∧ i ≤ ds.length ∧
      wpM (lcLoop vs T C F (ds.drop i) acc) env' (fun acc e' => ∀ H' G' v, SR X.K fr (restE env1 vs e') σ H' G' → Sub G1 G' → RvOk X.K fr (restE env1 vs e') σ H' G' v (.fr acc) → Q v H') (fun _ _ => False),
    ⟨ds.length, env1, G1, [], [], hw, .refl, upd_same, .nil, sub_none h1.sub hD, (h1.wipe vs).notOwn hD, by omega, by omega, wpM_mono w2 (fun acc e' q H' G' v h' s' r => q H' G' v h' (s1.trans s') r) fun _ _ z => z⟩, ?_⟩
  rintro i m H2 ⟨env2, G2, acc, accV, h2, s2, hA, qA, gA, nA, rfl, hi2, w3⟩
  by_cases hlt : i < ds.length
  · have hd : ds.drop i = ds[i] :: ds.drop (i + 1) := by rw [List.drop_eq_getElem_cons hlt]
    rw [hd] at w3
    unfold lcLoop at w3
    refine .inr ⟨io.go i H2 G2 s2 h2.sub hlt, fun H3 => ∃ env' G' acc accV, SR X.K fr (wipeE vs env') (wipe σ vs) H3 G' ∧ Sub G1 G' ∧ H3 D = some (.lst accV) ∧ DqAll X.K G' accV acc ∧ G' D = none ∧
      (∀ (i : Nat) (t : Option Nat) (es : List PyData), (wipeE vs env')[i]? = some (.own t es) → (wipe σ vs)[i]? ≠ some (some (.ref D))) ∧
      wpM (lcLoop vs T C F (ds.drop (i + 1)) acc) env' (fun acc e' => ∀ H' G' v, SR X.K fr (restE env1 vs e') σ H' G' → Sub G1 G' → RvOk X.K fr (restE env1 vs e') σ H' G' v (.fr acc) → Q v H') (fun _ _ => False), ?_, fun x H' y => ?_⟩
    · rintro H3 ⟨env', G', acc', accV', a1, a2, a3, a4, a5, a6, a7⟩
      exact ⟨ds.length - (i + 1), by omega, env', G', acc', accV', a1, a2, a3, a4, a5, a6, rfl, by omega, a7⟩
    · obtain ⟨G3, d, e3, st, q3⟩ := io.yld i H2 G2 x H' s2 h2.sub hlt y
      rw [List.getElem?_eq_getElem hlt] at e3
      cases e3
      have h3 := h2.stp st
      have gA3 : G3 D = none := by
        cases z : G3 D with
        | none => rfl
        | some o =>
          rcases st.new D (ne_none_of z) with q | q
          · exact absurd gA q
          · rw [hA] at q; cases q
      have h3g := h3.guard (st.ext _ _ hA) gA3 nT nA (fun _ _ => False)
      refine ⟨_, wipeE vs env2, G3, _, h3g, q3, wpM_mono (wpM_T (w3 : wpM (thenU _ _) (wipeE vs env2) _ _)) (fun _ env4 w4 σ4 G4 o4 h4 s4 => ?_) fun _ _ z => z⟩
      have e4 := wipe_off o4 hws
      refine ⟨e4, upd fr.prot D (.lst accV), env4, G4, h4, wpM_mono (wpM_bind.mp w4) (fun b env5 w5 H5 G5 h5 s5 => ?_) fun _ _ z => z.elim⟩
      have back : ∀ {env6 : Fv} {H6 G6 : Hp}, SR X.K (fr.in (upd fr.prot D (.lst accV))) env6 σ4 H6 G6 → SR X.K fr (wipeE vs env6) (wipe σ vs) H6 G6 ∧ H6 D = some (.lst accV) ∧ G6 D = none ∧ ∀ (i : Nat) (t : Option Nat) (es : List PyData), (wipeE vs env6)[i]? = some (.own t es) → (wipe σ vs)[i]? ≠ some (some (.ref D)) := fun h6 => by
        have h7 := h6.wipe vs
        rw [e4] at h7
        exact SR.unguard pD h7
      cases b with
      | false =>
        rw [if_neg Bool.false_ne_true] at w5
        refine iteF ?_
        obtain ⟨b1, b2, b3, b4⟩ := back h5
        have s25 := (st.mono.trans s4).trans s5
        exact ⟨env5, G5, acc, accV, b1, s2.trans s25, b2, Sub.dqAll s25 _ _ qA, b3, b4, w5⟩
      | true =>
        rw [if_pos rfl] at w5
        refine iteT ?_
        refine ⟨upd fr.prot D (.lst accV), env5, G5, h5, wpM_mono (wpM_bind.mp w5) (fun r env6 w6 H6 G6 v h6 s6 q6 => ?_) fun _ _ z => z.elim⟩
        obtain ⟨x6, env7, G7, h7, s7, d7, w7⟩ := force_ok h6 q6 (wpM_bind.mp w6)
        split at w7
        · rename_i hz
          obtain ⟨b1, b2, b3, b4⟩ := back h7
          have s27 := (((st.mono.trans s4).trans s5).trans s6).trans s7
          have qA7 := Sub.dqAll s27 _ _ qA
          exact ⟨accV, b2, by rw [qA.length]; exact hz, env7, G7, _, _, b1.poke b2 pD b3 nT b4, s2.trans s27, upd_same, qA7.append (.cons d7 .nil), b3, b4, w7⟩
        · exact w7.elim
  · have e : i = ds.length := by omega
    subst e
    rw [List.drop_length] at w3
    refine .inl ⟨io.stop H2 G2 s2 h2.sub, ?_⟩
    have h5 := h1.rest h2 s2 no
    exact w3 H2 G2 (.ref D) h5 s2 ⟨D, accV, rfl, hA, qA, gA, pD, fun z => h1.lent D z hD, fun i t es e1 e2 => by
      obtain ⟨hi, e3⟩ := restE_own no e1
      exact nA i t es e3 (by rw [wipe_at hi]; exact e2)⟩
/-- in the block of a comprehension -/
abbrev InBlk (X : Cx) (fr : Fr) (scope : Scope) (J : Cx → Fr → Prop) : Prop := ∀ (p : Hp) (s : Shared) (H : Hp) (C : Addr) (cl : List (Str × Addr)) (fp : List Addr), J (X.blk s H scope (compEnvC scope cl C X.env) fp) (fr.in p)
theorem ev_lc (hws : ∀ i ∈ ws, i ∈ own.map (·.2)) (hc : X.calm = true) (hN : X.N.Nodup) (hi : PIv X fr tg iter I) (ok : BlkOk X.N X.env.scope scope own) (hg : InBlk X fr scope fun X fr => PGv X fr tg ws T)
    (ht : InBlk X fr scope fun X fr => PTsv X fr ifs C) (he : InBlk X fr scope fun X fr => PEv X fr elt F) (hs : ∀ x, foldedSetIterable iter X.env x = pure x := by intro _; rfl) :
    PEv X fr (.ListComp elt [⟨tg, iter, ifs, 0⟩] scope pos) (lcF (own.map (·.2)) I T C F) :=
  weakE (pe_lc hc hN hi ok (fun s H C cl fp => ⟨fun pins s' σ H' v u Q I r ⟨p, q⟩ => (hg p s H C cl fp).run pins s' σ H' v u Q I r q⟩)
    (fun s H C cl fp => ⟨fun pins s' σ H' Q I ⟨p, q⟩ => (ht p s H C cl fp).run pins s' σ H' Q I q⟩)
    (fun s H C cl fp => ⟨fun pins s' σ H' Q I ⟨p, q⟩ => (he p s H C cl fp).run pins s' σ H' Q I q⟩) hs) (lc_reads hws)
theorem es_setLc {i : Nat} {y : Str} {py spos : Pos} (hws : ∀ i ∈ ws, i ∈ own.map (·.2)) (hc : X.calm = true) (hN : X.N.Nodup) (hy : X.N[i]? = some y) (hyl : X.env.scope.names.lookup y = some .local)
    (hsw : swapsWith (.ListComp elt [⟨tg, iter, ifs, 0⟩] scope pos) (some (.Name y py)) spos.line X.env = pure true) (hi : PIv X fr tg iter I) (ok : BlkOk X.N X.env.scope scope own) (hg : InBlk X fr scope fun X fr => PGv X fr tg ws T)
    (ht : InBlk X fr scope fun X fr => PTsv X fr ifs C) (he : InBlk X fr scope fun X fr => PEv X fr elt F) (hs : ∀ x, foldedSetIterable iter X.env x = pure x := by intro _; rfl) :
    PSv X fr (.Assign [.Name y py] (.ListComp elt [⟨tg, iter, ifs, 0⟩] scope pos) spos) (setF i (lcF (own.map (·.2)) I T C F)) :=
  weakS (ps_setLc (g := fun v σ H Q => ∃ p, tG X.K (fr.in p) ws T v σ H Q) (tt := fun σ H Q => ∃ p, tT X.K (fr.in p) C σ H Q) (te := fun σ H Q => ∃ p, tE X.K (fr.in p) F σ H Q) hc hN hy hyl hsw hi ok (fun s H C cl fp => ⟨fun pins s' σ H' v u Q I r ⟨p, q⟩ => (hg p s H C cl fp).run pins s' σ H' v u Q I r q⟩)
    (fun s H C cl fp => ⟨fun pins s' σ H' Q I ⟨p, q⟩ => (ht p s H C cl fp).run pins s' σ H' Q I q⟩)
    (fun s H C cl fp => ⟨fun pins s' σ H' Q I ⟨p, q⟩ => (he p s H C cl fp).run pins s' σ H' Q I q⟩) hs) fun D σ H ⟨env, G, h, w⟩ => by
    refine lc_reads hws σ H _ ?_
    unfold setF at w
    refine tE_then h w (fun r env1 H1 G1 v h1 s1 q1 w1 => ?_) fun c e1 E1 H1 G1 h1 s1 => E1 σ H1 G1 h1 s1
    obtain ⟨env2, G2, h2, s2, w2⟩ := store_ok3 h1 q1 (wpM_bind.mp w1)
    exact w2 _ H1 G2 h2 (s1.trans s2)
end
end Cf
/-! Cf, part K: list(reversed(x)), items stored, several targets. -/
namespace Cf
open PySem PySem.Spec PyProof.Rows L2 RT

section
variable {prog : Program} {w : World} {A : Around} {E : Value → Shared → Prop} {s : Shared}
theorem extend_rev {R : Result → Shared → Prop} {it l S : Addr} {items : Array Value} {res : Value} {c₀ : Nat} (hh : A.handled = none) (hit : s.heap.IsRevIter it l ((items.size : Int) - 1)) (hl : s.heap.IsList l items) (hne : l ≠ it) (hn : items.size ≤ sizeLine) (hSl : S ≠ l)
    (hS : s.heap.get? S = some { cls := .type "list", data := .seq #[] c₀ })
    (hR : ∀ s' acc' c', Moved [S, it] (fun a b => b = a) s s' → s'.heap.get? S = some { cls := .type "list", dict := none, data := .seq acc' c', slots := #[] } → ItemsOf (fun i v => items[items.size - 1 - i]? = some v) acc' items.size → R (.ok (.ret res)) s') :
    wpAny (model prog w) A.in1 (Builtin.List.listExtendWith (.ref S) (.ref it) res)
      (fun fin s' => match fin with | .done f => R (.ok f) s' | .again c' => c'.quiet = true ∧ codeAny (model prog w) A c' R s') (fun e s' => R (.error e) s') s := by
  have W := (Walks.listRev (prog := prog) (w := w) (A := A.in1) hh it l hne items).toS
  have hSi : S ≠ it := fun z => by
    obtain ⟨o, ho, hc, _⟩ := hit
    rw [z, ho] at hS
    cases hS
    exact absurd (show Value.type "list" = Value.type "list_reverseiterator" from hc) (by decide)
  have hSf : S ∉ [it, l] := by simp [hSi, hSl]
  unfold Builtin.List.listExtendWith
  refine wpAny_bind (wpAny_typeOf (Heap.IsRevIter.typeIs hit) ?_)
  have hsame : Builtin.List.listSameRef (.ref S) (.ref it) = false := by simp [Builtin.List.listSameRef, hSi]
  rw [if_neg (by rw [hsame]; decide)]
  refine wpAny_bind (wpAny_pyIter_revIter hit (wpAny_bind (wpAny_holding ?_)))
  unfold Builtin.List.listLengthHint
  refine wpAny_bind (wpAny_specialOf (Heap.IsRevIter.typeIs hit) nolen_lri ?_)
  show wpAny _ A.in1 (specialOf (Value.ref it) (Str.ofString "__length_hint__") >>= _) _ _ _
  refine wpAny_bind (wpAny_specialOf (Heap.IsRevIter.typeIs hit) hint_lri ?_)
  generalize hid : ("list_reverseiterator.__length_hint__" : String) = id0
  wp_delta
  rw [show splitId id0 = some ("list_reverseiterator", "__length_hint__") from by subst hid; decide +kernel]
  subst hid
  refine wpAny_bind (wpAny_isInstance (b := true) (Heap.IsRevIter.typeIs hit) (by rw [isSubtype_type]; kernel_rfl) (wpAny_pure ?_))
  rw [if_neg (by decide)]
  have e0 : ((items.size : Nat) : Int) - 1 - ((0 : Nat) : Int) = (items.size : Int) - 1 := by omega
  exact wpAny_pure ⟨plainId_quiet F.plain_extend_loop _, codeAny_extend_loopS W hn _ hSf _ items.size 0 _ _ _ rfl (Nat.zero_le _) ⟨Nat.zero_le _, by rw [e0]; exact hit, hl⟩ hS (ItemsOf.nil _) fun s' acc' c' hm hS' hacc => hR s' acc' c' hm hS' hacc⟩
theorem call_listRev {it l : Addr} {items : Array Value} {Q : Value → Shared → Prop} (hh : A.handled = none) (hit : s.heap.IsRevIter it l ((items.size : Int) - 1)) (hl : s.heap.IsList l items) (hne : l ≠ it) (hn : items.size ≤ sizeLine)
    (hQ : ∀ (h' : Heap) (tk : Nat) (acc : Array Value) (c : Nat), (∀ b o, b ≠ it → s.heap.get? b = some o → h'.get? b = some o) → h'.get? s.heap.objs.size = some { cls := .type "list", dict := none, data := .seq acc c, slots := #[] } →
      ItemsOf (fun i v => items[items.size - 1 - i]? = some v) acc items.size → Q (.ref s.heap.objs.size) { s with heap := h', toks := tk }) :
    wpAny (model prog w) A (call (.type "list") [.ref it]) Q E s := by
  have lt_it : it < s.heap.objs.size := let ⟨_, e, _⟩ := hit; Heap.lt_size e
  have lt_l : l < s.heap.objs.size := let ⟨_, e, _⟩ := hl; Heap.lt_size e
  refine callType_codes (Q₁ := fun obj s₁ => obj = .ref s.heap.objs.size ∧ s₁ = { s with heap := s.heap.push { cls := .type "list", data := .seq #[] } }) F.called_list (F.typeCall_list_1 _) F.entry_list_init
    (code_list_new _ ⟨rfl, rfl⟩) fun obj s₁ h₁ => ?_
  obtain ⟨rfl, rfl⟩ := h₁
  have hS : (s.heap.push { cls := .type "list", data := .seq #[] }).get? s.heap.objs.size = some { cls := .type "list", data := .seq #[] } := Heap.get?_push_size _ rfl
  refine ⟨⟨_, hS, rfl⟩, F.args_list_init_2 _ _, ?_⟩
  show wpAny _ A.in1.in1 (do let old ← Builtin.List.listItems (.ref s.heap.objs.size); Builtin.List.listUpdate (.ref s.heap.objs.size) (fun _ => #[]); letGo old.toList.reverse; Builtin.List.listExtendWith (.ref s.heap.objs.size) (.ref it) .none) _ _ _
  refine wpAny_bind ?_
  unfold Builtin.List.listItems
  refine wpAny_bind (wpAny_seqItems hS rfl (wpAny_pure ?_))
  show wpAny _ A.in1.in1 (updateSeq s.heap.objs.size (fun _ => #[]) >>= fun _ => letGo (#[] : Array Value).toList.reverse >>= fun _ => Builtin.List.listExtendWith (.ref s.heap.objs.size) (.ref it) .none) _ _ _
  refine wpAny_bind (wpAny_updateSeq hS rfl ?_)
  have hS₂ := Heap.get?_update_self (Obj.mapSeq (fun _ => (#[] : Array Value))) hS rfl
  have oth : ∀ b o, b ≠ s.heap.objs.size → s.heap.get? b = some o → ((s.heap.push { cls := .type "list", data := .seq #[] }).update s.heap.objs.size (Obj.mapSeq (fun _ => (#[] : Array Value)))).get? b = some o :=
    fun b o hb e => (Heap.get?_update_other _ _ (Ne.symm hb)).trans (Heap.get?_push_of_some _ e)
  refine wpAny_bind (wpAny_letGo ?_)
  refine extend_rev (A := A.in1) hh (hit.at fun o e => oth it o (Nat.ne_of_lt lt_it) e) (let ⟨o, e, r⟩ := hl; ⟨o, oth l o (Nat.ne_of_lt lt_l) e, r⟩) hne hn (Nat.ne_of_gt lt_l) hS₂ fun s' acc' c' hm hS' hacc => ⟨rfl, ?_⟩
  rw [Moved.eq_with hm]
  refine hQ s'.heap s'.toks acc' c' (fun b o hb e => ?_) hS' hacc
  have nb : b ≠ s.heap.objs.size := Nat.ne_of_lt (Heap.lt_size e)
  exact hm.heap b o (by simp [nb, hb]) (oth b o nb e)
end
/-- list(reversed(x)) -/
def revL (F : Mo Rv) : Mo Rv := do
  let r ← F
  let d ← peek r
  match d with
  | .list ds => pure (.fr ds.reverse)
  | _ => stuckM
section
variable {X : Cx} {fr : Fr} {e : Expr} {F : Mo Rv} {p p2 pos pos2 : Pos}
theorem pe_listRev {te : TE} (hc : X.calm = true) (hg : Gl X "list") (hm : X.mg "list" = none) (hg2 : Gl X "reversed") (hm2 : X.mg "reversed" = none) (he : PE X e te)
    (hs : starEach [e] X.env = (false, eval e X.env) :: starEach [] X.env := by rfl)
    (hs2 : starEach [.Call (.Name "reversed" p2) [e] [] pos2] X.env = (false, eval (.Call (.Name "reversed" p2) [e] [] pos2) X.env) :: starEach [] X.env := by rfl) :
    PE X (.Call (.Name "list" p) [.Call (.Name "reversed" p2) [e] [] pos2] [] pos) (fun σ H Q => te σ H fun v H1 => ∃ a xs, v = .ref a ∧ SqL X.K H1 a xs ∧ ∀ q, H1 q = none → Q (.ref q) (upd H1 q (.lst xs.reverse))) := by
  refine ⟨fun pins s σ H Q I h => ?_⟩
  refine Call_ (ld_blt I hg hm boot_list (PyProof.Rows.callWith_type1 (args_cons (Call_ (ld_blt I hg2 hm2 PyProof.Rows.boot_reversed (PyProof.Rows.callWith_type1 (args_cons (thn (he.run pins s σ H _ I h) fun u s1 ⟨v, H1, I1, r1, q1⟩ => args_nil ?_) hs) hs rfl))) hs2) hs2 rfl))
  obtain ⟨a, xs, ev, hq, q⟩ := q1
  subst ev
  obtain rfl : u = Value.ref a := r1
  obtain ⟨its, rv, pl, hz⟩ := I1.list hq
  refine call_reversed_list pl.isList (args_nil ?_)
  have kp : ∀ b o, s1.heap.get? b = some o → (s1.heap.push (revObj a ((its.toArray.size : Int) - 1))).get? b = some o := fun b o e => Heap.get?_push_of_some _ e
  have I2 : Inv X pins σ H1 { s1 with heap := s1.heap.push (revObj a ((its.toArray.size : Int) - 1)) } := I1.kept (t' := s1.toks) kp
  obtain ⟨f0, f1, f2, f3, f4, f5⟩ := I1.fpOk (H' := H1) (b := s1.heap.objs.size) (Nat.le_refl _) (I1.hok.fresh (Nat.le_refl _))
  have hl := pl.isList
  have hne : a ≠ s1.heap.objs.size := by
    obtain ⟨ol, hol, _⟩ := id hl
    exact Nat.ne_of_lt (Heap.lt_size hol)
  have hn : its.toArray.size ≤ sizeLine := by rw [List.size_toArray, ← rv.length]; exact hz
  have hsz : (s1.heap.push (revObj a ((its.toArray.size : Int) - 1))).objs.size = s1.heap.objs.size + 1 := Heap.size_push ..
  refine call_listRev (s := { s1 with heap := s1.heap.push (revObj a ((its.toArray.size : Int) - 1)) }) (I1.ok.hd hc) ⟨_, Heap.get?_push_size _ rfl, rfl, rfl⟩ (hl.push _) hne hn fun h' tk acc c hk hS hi => ?_
  have kp3 : ∀ b o, s1.heap.get? b = some o → h'.get? b = some o := fun b o z => hk b o (Nat.ne_of_lt (Heap.lt_size z)) (kp b o z)
  have I3 : Inv X pins σ (upd H1 (s1.heap.push (revObj a ((its.toArray.size : Int) - 1))).objs.size (.lst xs.reverse)) { s1 with heap := h', toks := tk } :=
    I1.laid (t' := tk) kp3 (by rw [hsz]; omega) (show ObjOk X.prog X.w _ h' _ (.lst xs.reverse) from ⟨by rw [List.length_reverse]; exact hz, acc.toList, c, vals_rev rv hi, by rw [Array.toArray_toList]; exact hS⟩)
  exact ⟨.ref (s1.heap.push (revObj a ((its.toArray.size : Int) - 1))).objs.size, _, I3, rfl, q _ (I2.hok.fresh (Nat.le_refl _))⟩
theorem ev_listRev (hc : X.calm = true) (hg : Gl X "list") (hm : X.mg "list" = none) (hg2 : Gl X "reversed") (hm2 : X.mg "reversed" = none) (he : PEv X fr e F)
    (hs : starEach [e] X.env = (false, eval e X.env) :: starEach [] X.env := by rfl)
    (hs2 : starEach [.Call (.Name "reversed" p2) [e] [] pos2] X.env = (false, eval (.Call (.Name "reversed" p2) [e] [] pos2) X.env) :: starEach [] X.env := by rfl) :
    PEv X fr (.Call (.Name "list" p) [.Call (.Name "reversed" p2) [e] [] pos2] [] pos) (revL F) :=
  weakE (pe_listRev hc hg hm hg2 hm2 he hs hs2) fun σ H Q ⟨env, G, h, w⟩ => by
    unfold revL at w
    refine tE_then h w (fun r env1 H1 G1 v h1 s1 q1 w1 => ?_) fun c e1 E1 H1 G1 h1 s1 => E1 H1 G1 h1 s1
    obtain ⟨d, p, w2⟩ := peek_ok h1 q1 (wpM_bind.mp w1)
    cases d with
    | list ds =>
      obtain ⟨a, xs, rfl, k1, k2⟩ := p
      refine ⟨a, xs, rfl, .of k1, fun q hq => ?_⟩
      have := rvFresh h1.sub hq k2.reverse
      exact w2 _ _ _ (h1.stp this.1) (s1.trans this.1.mono) (this.2.ok h1)
    | _ => exact w2.elim
end

/-! ### x[i] = e -/
def setItemF (i : Nat) (Fi : Mo Rv) (F : Mo Rv) : Mo Out := do
  let r ← F
  let d ← force r
  needOwn i
  let rj ← Fi
  let dj ← peek rj
  let ds ← getOwn i
  match dj with
  | .int k => match ixN ds.length k with
    | some j => do
      putOwn i (ds.set j d)
      pure .nx
    | none => stuckM
  | _ => stuckM
section
variable {X : Cx} {fr : Fr} {o ix e : Expr} {i : Nat} {F Fi : Mo Rv} {pos tpos : Pos}
theorem es_setItem (ho : PEv X fr o (readF i)) (hi : PEv X fr ix Fi) (he : PEv X fr e F)
    (ha : ∀ v, assign (.Subscript o ix tpos) X.env v = (do
      let ov ← holding [v] (eval o X.env)
      let iv ← holding [v, ov] (eval ix X.env)
      standAt tpos
      holding [v, ov, iv] (setItem ov iv v)
      release [v, ov, iv] []) := by intro _; rfl)
    (hs : swapsWithSole [.Subscript o ix tpos] e pos.line X.env = pure false := by rfl) (hw : swappedStores [.Subscript o ix tpos] e X.env = pure none := by rfl)
    (h1 : (assignEach [.Subscript o ix tpos] X.env).map (·.2) = [assign (.Subscript o ix tpos) X.env] := by rfl) : PSv X fr (.Assign [.Subscript o ix tpos] e pos) (setItemF i Fi F) :=
  weakS (ps_asg he (pg_sub ho hi set_list ha) hs hw h1) fun D σ H ⟨env, G, h, w⟩ => by
    unfold setItemF at w
    refine tE_then h w (fun r env1 H1 G1 v h1 s1 q1 w1 => ?_) fun c e1 E1 H1 G1 h1 s1 => E1 σ H1 G1 h1 s1
    obtain ⟨d, env2, G2, h2, s2, d2, w2⟩ := force_ok h1 q1 (wpM_bind.mp w1)
    obtain ⟨t3, ds3, e3, w3⟩ := wpM_need w2
    refine tE_read h2 e3 fun a H4 G4 xs4 h4 s4 z4 _ _ => ?_
    refine tE_then h4 w3 (fun rj env5 H5 G5 vj h5 s5 q5 w5 => ?_) fun c e1 E1 H5 G5 h5 s5 => E1 σ H5 G5 h5 (((s1.trans s2).trans s4).trans s5)
    obtain ⟨dj, p5, w6⟩ := peek_ok h5 q5 (wpM_bind.mp w5)
    obtain ⟨t7, ds7, e7, w7⟩ := wpM_own w6
    obtain ⟨a', xs7, y1, y2, y3, _⟩ := h5.ownAt e7
    rw [z4] at y1
    cases y1
    cases dj with
    | int k =>
      simp only at w7
      cases z : ixN ds7.length k with
      | none => rw [z] at w7; exact w7.elim
      | some j =>
        rw [z] at w7
        have w8 := wpM_put e7 w7
        have hd := Sub.dq (s4.trans s5) _ _ d2
        refine ⟨a, xs7, k, j, rfl, dq_int p5, y2, by rw [y3.length]; exact z, ?_⟩
        exact w8 σ _ G5 (h5.write e7 z4 (y3.set hd j)) (((s1.trans s2).trans s4).trans s5)
    | _ => exact w7.elim
end

/-! ### a, b = x, y -/
/-- a list of values; new lists wait as they are -/
def consU (F : Mo Rv) (Fs : Mo (List Rv)) : Mo (List Rv) := do
  let r ← F
  let rs ← Fs
  pure (r :: rs)
/-- the values, each new list guarded from the others -/
def RvsU (K : PySem.W.Frag) (fr : Fr) (env : Fv) (σ : L2.St) (H G : Hp) : List V → List Rv → Prop
  | [], [] => True
  | v :: vs, r :: rs => RvOk K fr env σ H G v r ∧ RvsU K fr env σ H G vs rs ∧ ∀ ds a, r = .fr ds → v = .ref a → ∀ v' r', (v', r') ∈ vs.zip rs → ∀ ds', r' = .fr ds' → v' ≠ .ref a
  | _, _ => False
def tU (K : PySem.W.Frag) (fr : Fr) (F : Mo (List Rv)) : TA := fun σ H Q => ∃ env G, SR K fr env σ H G ∧
  wpM F env (fun rs env' => ∀ H' G' vs, SR K fr env' σ H' G' → Sub G G' → RvsU K fr env' σ H' G' vs rs → Q vs H') (fun c env' => ∀ H' G', SR K fr env' σ H' G' → Sub G G' → fr.W c H')
def PUv (X : Cx) (fr : Fr) (es : List Expr) (F : Mo (List Rv)) : Prop := ∀ p : Hp, PA X es (tU X.K ⟨p, fr.muts, fr.tabs, fr.W⟩ F)
section
variable {X : Cx} {fr : Fr} {e : Expr} {es : List Expr} {F : Mo Rv} {Fs : Mo (List Rv)}
theorem eu_nil : PUv X fr [] nilF := fun p => weakA pa_nil fun σ H Q ⟨env, G, h, w⟩ => w H G [] h .refl trivial
theorem RvsU.weaken {K : PySem.W.Frag} {fr : Fr} {env : Fv} {σ : L2.St} {H G : Hp} {D : Addr} {o : HO} (hD : fr.prot D = none) : ∀ {vs : List V} {rs : List Rv}, RvsU K ⟨upd fr.prot D o, fr.muts, fr.tabs, fr.W⟩ env σ H G vs rs →
    RvsU K fr env σ H G vs rs ∧ ∀ v' r', (v', r') ∈ vs.zip rs → ∀ ds', r' = .fr ds' → v' ≠ .ref D
  | [], [], _ => ⟨trivial, fun _ _ z => by simp at z⟩
  | [], _ :: _, h => h.elim
  | _ :: _, [], h => h.elim
  | v :: vs, r :: rs, ⟨h1, h2, h3⟩ => by
    obtain ⟨k1, k2⟩ := RvsU.weaken hD h2
    have one : RvOk K fr env σ H G v r ∧ ∀ ds', r = .fr ds' → v ≠ .ref D := by
      cases r with
      | sh d => exact ⟨h1, fun _ z => by cases z⟩
      | sl i => exact ⟨h1, fun _ z => by cases z⟩
      | fr ds =>
        obtain ⟨a, xs, e, m1, m2, m3, m4, m5⟩ := h1
        have m4' : upd fr.prot D o a = none := m4
        have na : a ≠ D := fun z => by rw [z, upd_same] at m4'; cases m4'
        rw [upd_ne na] at m4'
        exact ⟨⟨a, xs, e, m1, m2, m3, m4', m5⟩, fun _ _ z => na (by rw [e] at z; cases z; rfl)⟩
    refine ⟨⟨one.1, k1, h3⟩, fun v' r' z ds' e' => ?_⟩
    rw [List.zip_cons_cons, List.mem_cons] at z
    rcases z with z | z
    · cases z; exact one.2 ds' e'
    · exact k2 v' r' z ds' e'
theorem eu_cons (he : ∀ p : Hp, PEv X ⟨p, fr.muts, fr.tabs, fr.W⟩ e F) (hr : PUv X fr es Fs) (hs : starEach (e :: es) X.env = (false, eval e X.env) :: starEach es X.env := by rfl) : PUv X fr (e :: es) (consU F Fs) := fun p => by
  refine weakA (pa_cons (t := fun σ H Q => ∃ p', tU X.K ⟨p', fr.muts, fr.tabs, fr.W⟩ Fs σ H Q) (he p) ⟨fun pos pins s σ H Q I ⟨p', q⟩ => (hr p').run pos pins s σ H Q I q⟩ hs) fun σ H Q ⟨env, G, h, w⟩ => ?_
  unfold consU at w
  refine tE_then h w (fun r env1 H1 G1 v h1 s1 q1 w1 => ?_) fun c e1 E1 H1 G1 h1 s1 => E1 H1 G1 h1 s1
  cases r with
  | sh d =>
    refine ⟨p, env1, G1, h1, wpM_mono (wpM_bind.mp w1) (fun rs env2 w2 H2 G2 vs h2 s2 q2 => ?_) fun c e' E' H2 G2 h2 s2 => E' H2 G2 h2 (s1.trans s2)⟩
    exact w2 H2 G2 _ h2 (s1.trans s2) ⟨Sub.dq s2 _ _ q1, q2, fun _ _ z => by cases z⟩
  | sl i =>
    refine ⟨p, env1, G1, h1, wpM_mono (wpM_bind.mp w1) (fun rs env2 w2 H2 G2 vs h2 s2 q2 => ?_) fun c e' E' H2 G2 h2 s2 => E' H2 G2 h2 (s1.trans s2)⟩
    exact w2 H2 G2 _ h2 (s1.trans s2) ⟨q1, q2, fun _ _ z => by cases z⟩
  | fr ds =>
    obtain ⟨a, xs, rfl, k1, k2, k3, k4, k5, k6⟩ := q1
    have nt : a ∉ fr.tabs := fun z => by
      obtain ⟨⟨ps, e, _⟩, _⟩ := h1.tab a z
      rw [e] at k1
      cases k1
    refine ⟨upd p a (.lst xs), env1, G1, SR.guard (fr := ⟨p, fr.muts, fr.tabs, fr.W⟩) h1 k1 k3 nt k6 fr.W, wpM_mono (wpM_bind.mp w1) (fun rs env2 w2 H2 G2 vs h2 s2 q2 => ?_) fun c e' E' H2 G2 h2 s2 => ?_⟩
    · obtain ⟨b1, b2, b3, b4⟩ := SR.unguard (fr := ⟨p, fr.muts, fr.tabs, fr.W⟩) (W := fr.W) k4 h2
      obtain ⟨c1, c2⟩ := RvsU.weaken (fr := ⟨p, fr.muts, fr.tabs, fr.W⟩) k4 q2
      exact w2 H2 G2 _ b1 (s1.trans s2) ⟨⟨a, xs, rfl, b2, Sub.dqAll s2 _ _ k2, b3, k4, k5, b4⟩, c1, fun ds' a' z z' v' r' m => by
        cases z
        cases z'
        exact c2 v' r' m⟩
    · exact E' H2 G2 (SR.unguard (fr := ⟨p, fr.muts, fr.tabs, fr.W⟩) (W := fr.W) k4 h2).1 (s1.trans s2)
end
end Cf
/-! Cf, part L: several targets at once; the end of a law. -/
namespace Cf
open PySem PySem.Spec PyProof.Rows L2

def settle1 (r : Rv) : Mo Rv := match r with
  | .sl i => do
    let d ← force (.sl i)
    pure (.sh d)
  | r => pure r
@[simp] def settle : List Rv → Mo (List Rv)
  | [] => pure []
  | r :: rs => do
    let x ← settle1 r
    let xs ← settle rs
    pure (x :: xs)
@[simp] def storeAll : List Nat → List Rv → Mo Unit
  | [], [] => pure ()
  | i :: is, r :: rs => do
    storeF i r
    storeAll is rs
  | _, _ => stuckM
def parF (is : List Nat) (Fs : Mo (List Rv)) : Mo Out := do
  let rs ← Fs
  let rs ← settle rs
  storeAll is rs
  pure .nx
def setAll (σ : L2.St) : List Nat → List V → L2.St
  | i :: is, v :: vs => setAll (σ.set i (some v)) is vs
  | _, _ => σ
def isSl : Rv → Bool
  | .sl _ => true
  | _ => false
section
variable {K : PySem.W.Frag} {fr : Fr} {H : Hp}
/-- values that wait, behind a step that freezes -/
theorem RvsU.frz {env env' : Fv} {σ : L2.St} {G G' : Hp} (s : Sub G G') (hf : ∀ a xs, H a = some (.lst xs) → G a = none → (∀ (i : Nat) (t : Option Nat) (es : List PyData), env[i]? = some (.own t es) → σ[i]? ≠ some (some (.ref a))) → G' a = none)
    (ho : ∀ (i : Nat) (t : Option Nat) (es : List PyData), env'[i]? = some (.own t es) → ∃ t' es', env[i]? = some (.own t' es')) : ∀ {vs : List V} {rs : List Rv}, RvsU K fr env σ H G vs rs → RvsU K fr env' σ H G' vs rs
  | [], [], _ => trivial
  | [], _ :: _, h => h.elim
  | _ :: _, [], h => h.elim
  | v :: vs, r :: rs, ⟨h1, h2, h3⟩ => by
    refine ⟨?_, RvsU.frz s hf ho h2, h3⟩
    cases r with
    | sh d => exact Sub.dq s _ _ h1
    | sl i => exact h1
    | fr ds =>
      obtain ⟨a, xs, e, m1, m2, m3, m4, m5, m6⟩ := h1
      exact ⟨a, xs, e, m1, Sub.dqAll s _ _ m2, hf a xs m1 m3 m6, m4, m5, fun i t es z => let ⟨t', es', z'⟩ := ho i t es z; m6 i t' es' z'⟩
theorem freeze2 {env : Fv} {σ : L2.St} {G : Hp} (h : SR K fr env σ H G) {i : Nat} {ds : List PyData} (e : env[i]? = some (.own none ds)) : ∃ G', SR K fr (env.set i (.sh (.list ds))) σ H G' ∧ Sub G G' ∧ (∀ v, σ[i]? = some (some v) → Dq K G' v (.list ds)) ∧
    (∀ a xs, H a = some (.lst xs) → G a = none → (∀ (i : Nat) (t : Option Nat) (es : List PyData), env[i]? = some (.own t es) → σ[i]? ≠ some (some (.ref a))) → G' a = none) ∧
    (∀ (j : Nat) (t : Option Nat) (es : List PyData), (env.set i (.sh (.list ds)))[j]? = some (.own t es) → ∃ t' es', env[j]? = some (.own t' es')) := by
  obtain ⟨a, xs, e1, h1, h2, h3, h4, h5⟩ := h.ownAt e
  have sG : Sub G (upd G a (.lst xs)) := fun b o e => by rw [upd_ne (ne_of_none e h3)]; exact e
  obtain ⟨G', k1, k2, k3⟩ := freeze h e
  have hi : i < env.length := (List.getElem?_eq_some_iff.mp e).1
  have hd : Dq K (upd G a (.lst xs)) (.ref a) (.list ds) := .lst upd_same (Sub.dqAll sG _ _ h2)
  have ho : ∀ (j : Nat) (t : Option Nat) (es : List PyData), (env.set i (.sh (.list ds)))[j]? = some (.own t es) → j ≠ i ∧ env[j]? = some (.own t es) := fun j t es z => by
    by_cases hj : j = i
    · subst hj; rw [List.getElem?_set_self hi] at z; cases z
    · rw [List.getElem?_set_ne (Ne.symm hj)] at z; exact ⟨hj, z⟩
  refine ⟨upd G a (.lst xs), ⟨fun b o q => ?_, h.prot, fun b q => ?_, tab_upd h.tab h1, h.pt, h.lent, by simpa using h.len, fun j sl ej => ?_, k1.dist⟩, sG, fun v q => by rw [e1] at q; cases q; exact hd, fun b ys z1 z2 z3 => ?_, fun j t es z => ⟨t, es, (ho j t es z).2⟩⟩
  · by_cases hb : b = a
    · subst hb; rw [upd_same] at q; cases q; exact h1
    · rw [upd_ne hb] at q; exact h.sub b o q
  · by_cases hb : b = a
    · subst hb; exact absurd h4 q
    · rw [upd_ne hb]; exact h.dj b q
  · by_cases hj : j = i
    · subst hj
      rw [List.getElem?_set_self hi] at ej
      cases ej
      exact ⟨.ref a, by rw [e1]; rfl, hd⟩
    · rw [List.getElem?_set_ne (Ne.symm hj)] at ej
      have q := h.slots j sl ej
      cases sl with
      | un => trivial
      | sh d => obtain ⟨x, e1, e2⟩ := q; exact ⟨x, e1, Sub.dq sG _ _ e2⟩
      | own t es =>
        obtain ⟨b, ys, e1', e2, e3, e4, e5, e6⟩ := h.ownAt ej
        have hb : b ≠ a := fun z => h.dist i j none t ds es a (Ne.symm hj) e ej e1 (by rw [← z]; exact e1')
        exact ⟨b, ys, by rw [e1']; rfl, e2, Sub.dqAll sG _ _ e3, by rw [upd_ne hb]; exact e4, e5, e6⟩
  · have nb : b ≠ a := fun z => z3 i none ds e (by rw [z]; exact e1)
    rw [upd_ne nb]
    exact z2
theorem settle_ok : ∀ {vs : List V} {rs : List Rv} {env : Fv} {σ : L2.St} {G : Hp} (h : SR K fr env σ H G), RvsU K fr env σ H G vs rs → ∀ {Q : List Rv → Fv → Prop} {E : Nat → Fv → Prop}, wpM (settle rs) env Q E →
    ∃ rs' env' G', SR K fr env' σ H G' ∧ Sub G G' ∧ RvsU K fr env' σ H G' vs rs' ∧ rs'.all (fun r => !isSl r) = true ∧
      (∀ a xs, H a = some (.lst xs) → G a = none → (∀ (i : Nat) (t : Option Nat) (es : List PyData), env[i]? = some (.own t es) → σ[i]? ≠ some (some (.ref a))) → G' a = none) ∧
      (∀ (j : Nat) (t : Option Nat) (es : List PyData), env'[j]? = some (.own t es) → ∃ t' es', env[j]? = some (.own t' es')) ∧
      (∀ v' r', (v', r') ∈ vs.zip rs' → ∀ ds', r' = .fr ds' → (v', r') ∈ vs.zip rs) ∧ Q rs' env'
  | [], [], env, σ, G, h, _, Q, E, w => ⟨[], env, G, h, .refl, trivial, rfl, fun _ _ _ z _ => z, fun j t es z => ⟨t, es, z⟩, fun _ _ z => by simp at z, w⟩
  | [], _ :: _, _, _, _, _, h, _, _, _ => h.elim
  | _ :: _, [], _, _, _, _, h, _, _, _ => h.elim
  | v :: vs, r :: rs, env, σ, G, h, ⟨h1, h2, h3⟩, Q, E, w => by
    unfold settle at w
    have w1 := wpM_bind.mp w
    cases r with
    | sl i =>
      unfold settle1 at w1
      simp only at w1
      have w2 := wpM_bind.mp w1
      have q' : σ[i]? = some (some v) := h1
      have alt : ∃ d env1 G1, SR K fr env1 σ H G1 ∧ Sub G G1 ∧ Dq K G1 v d ∧ (∀ a xs, H a = some (.lst xs) → G a = none → (∀ (i : Nat) (t : Option Nat) (es : List PyData), env[i]? = some (.own t es) → σ[i]? ≠ some (some (.ref a))) → G1 a = none) ∧
          (∀ (j : Nat) (t : Option Nat) (es : List PyData), env1[j]? = some (.own t es) → ∃ t' es', env[j]? = some (.own t' es')) ∧ wpM (settle rs >>= fun xs => pure (.sh d :: xs)) env1 Q E := by
        unfold wpM force at w2
        cases e : env[i]? with
        | none => simp [e] at w2
        | some sl =>
          cases sl with
          | un => simp [e] at w2
          | sh d =>
            simp only [e] at w2
            obtain ⟨x, e1, e2⟩ := h.shAt e
            rw [q'] at e1
            cases e1
            exact ⟨d, env, G, h, .refl, e2, fun _ _ _ z _ => z, fun j t es z => ⟨t, es, z⟩, w2⟩
          | own t ds =>
            cases t with
            | some k => simp [e] at w2
            | none =>
              simp only [e] at w2
              obtain ⟨G1, k1, k2, k3, k4, k5⟩ := freeze2 h e
              exact ⟨.list ds, _, G1, k1, k2, k3 v q', k4, k5, w2⟩
      obtain ⟨d, env1, G1, k1, k2, k3, k4, k5, w3⟩ := alt
      obtain ⟨rs', env2, G2, m1, m2, m3, m4, m5, m6, m7, m8⟩ := settle_ok k1 (RvsU.frz k2 k4 k5 h2) (wpM_bind.mp w3)
      refine ⟨.sh d :: rs', env2, G2, m1, k2.trans m2, ⟨Sub.dq m2 _ _ k3, m3, fun _ _ z => by cases z⟩, by rw [List.all_cons, m4]; rfl, fun a xs z1 z2 z3 => m5 a xs z1 (k4 a xs z1 z2 z3) fun j t es z => let ⟨t', es', z'⟩ := k5 j t es z; z3 j t' es' z', fun j t es z => let ⟨t', es', z'⟩ := m6 j t es z; k5 j t' es' z', fun v' r' z ds' e' => ?_, m8⟩
      rw [List.zip_cons_cons, List.mem_cons] at z ⊢
      rcases z with z | z
      · cases z; cases e'
      · exact .inr (m7 v' r' z ds' e')
    | sh d =>
      have w2 : wpM (settle rs >>= fun xs => pure (.sh d :: xs)) env Q E := w1
      obtain ⟨rs', env2, G2, m1, m2, m3, m4, m5, m6, m7, m8⟩ := settle_ok h h2 (wpM_bind.mp w2)
      refine ⟨.sh d :: rs', env2, G2, m1, m2, ⟨Sub.dq m2 _ _ h1, m3, fun _ _ z => by cases z⟩, by rw [List.all_cons, m4]; rfl, m5, m6, fun v' r' z ds' e' => ?_, m8⟩
      rw [List.zip_cons_cons, List.mem_cons] at z ⊢
      rcases z with z | z
      · cases z; cases e'
      · exact .inr (m7 v' r' z ds' e')
    | fr ds =>
      have w2 : wpM (settle rs >>= fun xs => pure (.fr ds :: xs)) env Q E := w1
      obtain ⟨rs', env2, G2, m1, m2, m3, m4, m5, m6, m7, m8⟩ := settle_ok h h2 (wpM_bind.mp w2)
      obtain ⟨a, xs, e, n1, n2, n3, n4, n5, n6⟩ := h1
      refine ⟨.fr ds :: rs', env2, G2, m1, m2, ⟨⟨a, xs, e, n1, Sub.dqAll m2 _ _ n2, m5 a xs n1 n3 n6, n4, n5, fun j t es z => let ⟨t', es', z'⟩ := m6 j t es z; n6 j t' es' z'⟩, m3, fun ds0 a0 z1 z2 v' r' z ds' e' => h3 ds0 a0 z1 z2 v' r' (m7 v' r' z ds' e') ds' e'⟩, by rw [List.all_cons, m4]; rfl, m5, m6, fun v' r' z ds' e' => ?_, m8⟩
      rw [List.zip_cons_cons, List.mem_cons] at z ⊢
      rcases z with z | z
      · exact .inl z
      · exact .inr (m7 v' r' z ds' e')
theorem RvsU.stored {env : Fv} {σ : L2.St} {G : Hp} {i : Nat} {v : V} {r : Rv} {sl : Sl} (hsl : ∀ t es, sl = .own t es → r = .fr es) : ∀ {vs : List V} {rs : List Rv}, RvsU K fr env σ H G vs rs → rs.all (fun r => !isSl r) = true →
    (∀ ds a, r = .fr ds → v = .ref a → ∀ v' r', (v', r') ∈ vs.zip rs → ∀ ds', r' = .fr ds' → v' ≠ .ref a) → RvsU K fr (env.set i sl) (σ.set i (some v)) H G vs rs
  | [], [], _, _, _ => trivial
  | [], _ :: _, h, _, _ => h.elim
  | _ :: _, [], h, _, _ => h.elim
  | u :: vs, x :: rs, ⟨h1, h2, h3⟩, c, d => by
    simp only [List.all_cons, Bool.and_eq_true] at c
    refine ⟨?_, RvsU.stored hsl h2 c.2 fun ds a e1 e2 v' r' z => d ds a e1 e2 v' r' (by rw [List.zip_cons_cons]; exact List.mem_cons_of_mem _ z), h3⟩
    cases x with
    | sh y => exact h1
    | sl j => simp [isSl] at c
    | fr ds =>
      obtain ⟨a, xs, e, n1, n2, n3, n4, n5, n6⟩ := h1
      refine ⟨a, xs, e, n1, n2, n3, n4, n5, fun j t es z => ?_⟩
      by_cases hj : j = i
      · subst hj
        by_cases hl : j < env.length
        · rw [List.getElem?_set_self hl] at z
          cases z
          have hr := hsl t es rfl
          by_cases hs : j < σ.length
          · rw [List.getElem?_set_self hs]
            intro q
            cases q
            exact d es a hr rfl u (.fr ds) (by rw [List.zip_cons_cons]; exact List.mem_cons_self) ds rfl e
          · rw [List.getElem?_eq_none (by simpa using hs)]
            simp
        · rw [List.getElem?_eq_none (by simpa using hl)] at z
          cases z
      · rw [List.getElem?_set_ne (Ne.symm hj)] at z ⊢
        exact n6 j t es z
theorem stores_ok : ∀ {is : List Nat} {vs : List V} {rs : List Rv} {env : Fv} {σ : L2.St} {G : Hp} (h : SR K fr env σ H G), RvsU K fr env σ H G vs rs → rs.all (fun r => !isSl r) = true → ∀ {Q : Unit → Fv → Prop} {E : Nat → Fv → Prop}, wpM (storeAll is rs) env Q E →
    ∃ env', SR K fr env' (setAll σ is vs) H G ∧ is.length = vs.length ∧ Q () env'
  | [], [], [], env, σ, G, h, _, _, Q, E, w => ⟨env, h, rfl, w⟩
  | [], _ :: _, [], _, _, _, _, h, _, _, _, _ => h.elim
  | _ :: _, [], [], _, _, _, _, _, _, _, _, w => w.elim
  | _ :: _, _ :: _, [], _, _, _, _, h, _, _, _, _ => h.elim
  | [], _, _ :: _, _, _, _, _, _, _, _, _, w => w.elim
  | _ :: _, [], _ :: _, _, _, _, _, h, _, _, _, _ => h.elim
  | i :: is, v :: vs, r :: rs, env, σ, G, h, ⟨h1, h2, h3⟩, c, Q, E, w => by
    unfold storeAll at w
    simp only [List.all_cons, Bool.and_eq_true] at c
    have w1 := wpM_bind.mp w
    cases r with
    | sl j => simp [isSl] at c
    | sh d =>
      obtain ⟨env', k1, k2, k3⟩ := stores_ok (is := is) (h.setSh (i := i) h1) (RvsU.stored (r := .sh d) (fun t es z => by cases z) h2 c.2 h3) c.2 w1
      exact ⟨env', k1, by simp [k2], k3⟩
    | fr ds =>
      obtain ⟨env', k1, k2, k3⟩ := stores_ok (is := is) (h.setOwn (i := i) h1) (RvsU.stored (r := .fr ds) (fun t es z => by cases z; rfl) h2 c.2 h3) c.2 w1
      exact ⟨env', k1, by simp [k2], k3⟩
end
section
variable {X : Cx} {fr : Fr} {Fs : Mo (List Rv)} {pos : Pos}
theorem par_core {is : List Nat} {D : Ends} {σ : L2.St} {H : Hp} {env : Fv} {G : Hp} (h : SR X.K fr env σ H G) (w : wpM (parF is Fs) env (SPost X.K fr D G) (SExc X.K fr G)) :
    tU X.K fr Fs σ H fun vs H1 => is.length = vs.length ∧ ∃ env2 G2, SR X.K fr env2 (setAll σ is vs) H1 G2 ∧ ∀ H' G', SR X.K fr env2 (setAll σ is vs) H' G' → Sub G2 G' → D.nx (setAll σ is vs) H' := by
  unfold parF at w
  refine ⟨env, G, h, wpM_mono (wpM_bind.mp w) (fun rs env1 w1 H1 G1 vs h1 s1 q1 => ?_) fun c e1 E1 H1 G1 h1 s1 => E1 σ H1 G1 h1 s1⟩
  obtain ⟨rs', env2, G2, k1, k2, k3, k4, _, _, _, w2⟩ := settle_ok h1 q1 (wpM_bind.mp w1)
  obtain ⟨env3, m1, m2, w3⟩ := stores_ok k1 k3 k4 (wpM_bind.mp w2)
  exact ⟨m2, env3, G2, m1, fun H' G' h' s' => w3 _ H' G' h' ((s1.trans k2).trans s')⟩
/-- a, b = x, y with two plain local names -/
theorem es_par2 {i j : Nat} {x y : Str} {a b : Expr} {px py pt : Pos} {kt k2 pt2} (hc : X.calm = true) (hN : X.N.Nodup) (hi : X.N[i]? = some x) (hj : X.N[j]? = some y) (hij : i ≠ j)
    (hx : X.env.scope.names.lookup x = some .local) (hy : X.env.scope.names.lookup y = some .local) (ha : PUv X fr [a, b] Fs)
    (hw : swappedStores [.Tuple [.Name x px, .Name y py] kt pt] (.Tuple [a, b] k2 pt2) X.env = pure (some [x, y]) := by rfl)
    (hs : swapsWithSole [.Tuple [.Name x px, .Name y py] kt pt] (.Tuple [a, b] k2 pt2) pos.line X.env = pure false := by rfl) :
    PSv X fr (.Assign [.Tuple [.Name x px, .Name y py] kt pt] (.Tuple [a, b] k2 pt2) pos) (parF [i, j] Fs) :=
  weakS (ps_par hc hN hi hj hij hx hy (ha fr.prot) hw hs) fun D σ H ⟨env, G, h, w⟩ => by
    obtain ⟨env1, G1, h1, w1⟩ := par_core (X := X) h w
    refine ⟨env1, G1, h1, wpM_mono w1 (fun rs env2 w2 H2 G2 vs h2 s2 q2 => ?_) fun _ _ z => z⟩
    obtain ⟨z, env3, G3, h3, k⟩ := w2 H2 G2 vs h2 s2 q2
    match vs, z with
    | [v, u], _ => exact ⟨v, u, rfl, k H2 G3 h3 .refl⟩
theorem es_par3 {i j l : Nat} {x y z : Str} {a b c : Expr} {px py pz pt : Pos} {kt k2 pt2} (hc : X.calm = true) (hN : X.N.Nodup) (hi : X.N[i]? = some x) (hj : X.N[j]? = some y) (hl : X.N[l]? = some z) (hij : i ≠ j) (hil : i ≠ l) (hjl : j ≠ l)
    (hx : X.env.scope.names.lookup x = some .local) (hy : X.env.scope.names.lookup y = some .local) (hz : X.env.scope.names.lookup z = some .local) (ha : PUv X fr [a, b, c] Fs)
    (hw : swappedStores [.Tuple [.Name x px, .Name y py, .Name z pz] kt pt] (.Tuple [a, b, c] k2 pt2) X.env = pure (some [x, y, z]) := by rfl)
    (hs : swapsWithSole [.Tuple [.Name x px, .Name y py, .Name z pz] kt pt] (.Tuple [a, b, c] k2 pt2) pos.line X.env = pure false := by rfl) :
    PSv X fr (.Assign [.Tuple [.Name x px, .Name y py, .Name z pz] kt pt] (.Tuple [a, b, c] k2 pt2) pos) (parF [i, j, l] Fs) :=
  weakS (ps_par3 hc hN hi hj hl hij hil hjl hx hy hz (ha fr.prot) hw hs) fun D σ H ⟨env, G, h, w⟩ => by
    obtain ⟨env1, G1, h1, w1⟩ := par_core (X := X) h w
    refine ⟨env1, G1, h1, wpM_mono w1 (fun rs env2 w2 H2 G2 vs h2 s2 q2 => ?_) fun _ _ z => z⟩
    obtain ⟨z, env3, G3, h3, k⟩ := w2 H2 G2 vs h2 s2 q2
    match vs, z with
    | [v, u, t], _ => exact ⟨v, u, t, rfl, k H2 G3 h3 .refl⟩
def tgsOf : List Nat → TGs
  | [] => gNil
  | i :: is => gCons (gName i) (tgsOf is)
theorem tgsOf_all : ∀ {is : List Nat} {vs : List V} {σ : L2.St} {H : Hp} {Q : L2.St → Hp → Prop}, is.length = vs.length → Q (setAll σ is vs) H → tgsOf is vs σ H Q
  | [], [], _, _, _, _, q => ⟨rfl, q⟩
  | i :: is, v :: vs, σ, H, Q, l, q => ⟨v, vs, rfl, tgsOf_all (is := is) (by simpa using l) q⟩
/-- .. with names of any kind: the tuple is made and taken apart -/
theorem es_parN {is : List Nat} {tgs es : List Expr} {kt k2 : Nat} {pt pt2 : Pos} {n : Nat} (hc : X.calm = true) (ha : PUv X fr es Fs) (hg : PGs X tgs (tgsOf is)) (hl : is.length = n)
    (hn : (assignEach tgs X.env).length = n := by rfl) (hst : (assignEach tgs X.env).findIdx? (·.1) = none := by rfl)
    (hs : swapsWithSole [.Tuple tgs kt pt] (.Tuple es k2 pt2) pos.line X.env = pure false := by rfl) (hw : swappedStores [.Tuple tgs kt pt] (.Tuple es k2 pt2) X.env = pure none := by rfl)
    (h1 : (assignEach [.Tuple tgs kt pt] X.env).map (·.2) = [assign (.Tuple tgs kt pt) X.env] := by rfl) (hz : n ≤ sizeLine := by decide) : PSv X fr (.Assign [.Tuple tgs kt pt] (.Tuple es k2 pt2) pos) (parF is Fs) :=
  weakS (ps_asg (pe_tup (ha fr.prot)) (pg_tup hc hg hn hst) hs hw h1) fun D σ H ⟨env, G, h, w⟩ => by
    obtain ⟨env1, G1, h1, w1⟩ := par_core (X := X) h w
    refine ⟨env1, G1, h1, wpM_mono w1 (fun rs env2 w2 H2 G2 vs h2 s2 q2 => ?_) fun _ _ z => z⟩
    obtain ⟨z, env3, G3, h3, k⟩ := w2 H2 G2 vs h2 s2 q2
    refine ⟨by rw [← z, hl]; exact hz, fun p hp => ⟨p, vs, rfl, .of upd_same, by rw [← z, hl], tgsOf_all z ?_⟩⟩
    have st := Stp.lay (o := .tup vs) h3.sub hp
    exact k _ G3 (h3.stp st) .refl
end
end Cf
/-! Cf, part M: tests, the end of a law. -/
namespace Cf
open PySem PySem.Spec PyProof.Rows L2

theorem hu100 {k : Nat} {A : Around} (hr : Room k A) : A.units + 100 < cLine := by
  have := hr.un
  omega
@[simp] def truthD : PyData → Option Bool
  | .none => some false
  | .bool b => some b
  | .int i => some (i != 0)
  | .str x => if x.length ≤ sizeLine then some ((x.length : Int) != 0) else none
  | .list ds => some (!ds.isEmpty)
  | .tuple ds => some (!ds.isEmpty)
  | .dict _ => none
def truthF (F : Mo Rv) : Mo Bool := do
  let r ← F
  let d ← peek r
  liftO (truthD d)
theorem empty_dq {K : PySem.W.Frag} {G : Hp} {xs : List V} {ds : List PyData} (h : DqAll K G xs ds) : xs.isEmpty = ds.isEmpty := by
  cases h <;> rfl
section
variable {X : Cx} {fr : Fr} {a b c : Expr} {Fa Fb Fc : Mo Rv} {pos : Pos}
theorem tT_bool {F : Mo Rv} {σ : L2.St} {H : Hp} {Q : Bool → Hp → Prop} (h : tT X.K fr (boolF F) σ H Q) : tE X.K fr F σ H fun x H' => ∃ k, x = .bl k ∧ Q k H' := by
  obtain ⟨env, G, h, w⟩ := h
  have w' := wpM_boolF (k := fun b => pure b) (wpM_bind.mpr (wpM_mono w (fun b e' q => (wpM_pure (a := b)).mpr q) fun _ _ q => q))
  refine tE_then h w' (fun r env1 H1 G1 v h1 s1 q1 w1 => ?_) fun c e1 E1 H1 G1 h1 s1 => E1 H1 G1 h1 s1
  cases r with
  | sh d =>
    cases d with
    | bool k => exact ⟨k, dq_bl q1, w1 H1 G1 h1 s1⟩
    | _ => exact w1.elim
  | _ => exact w1.elim
theorem et_cmp {op : CmpOp} {g : PyData → PyData → Option Rv} (ho : Op2 X (compareOp op) g) (ha : PEv X fr a Fa) (hb : PEv X fr b Fb) (hm : behindInMarks op b = false := by first | exact nomark _ | rfl) : PTv X fr (.Compare a [op] [b] pos) (boolF (binF g Fa Fb)) :=
  let ⟨_, hr, hg⟩ := ho
  weakT (pt_cmpR hr ha hb hm) fun σ H Q h => bin_reads hg σ H _ (tT_bool h)
theorem et_chain {op op' : CmpOp} {g g' : PyData → PyData → Option Rv} (ho : Op2 X (compareOp op) g) (ho' : Op2 X (compareOp op') g') (ha : PEv X fr a Fa) (hb : PEv X fr b Fb) (hc : PEv X fr c Fc)
    (hm : lastMarks [op, op'] [b, c] = false := by with_unfolding_all rfl)
    (he : ∀ whole, isTrue (.Compare a [op, op'] [b, c] pos) X.env whole = (do let v ← whole; standAt pos; holding [v] (truthy v)) := by intro _; rfl) : PTv X fr (.Compare a [op, op'] [b, c] pos) (boolF (chainF g g' Fa Fb Fc)) :=
  et_val (ev_toB (ev_chain ho ho' ha hb hc hm)) he
theorem et_truth {e : Expr} {F : Mo Rv} (h : PEv X fr e F) (he : ∀ whole, isTrue e X.env whole = (do let v ← whole; standAt e.pos; holding [v] (truthy v)) := by intro _; rfl) : PTv X fr e (truthF F) :=
  weakT (pt_truth h he) fun σ H Q ⟨env, G, h, w⟩ => by
    unfold truthF at w
    refine tE_then h w (fun r env1 H1 G1 v h1 s1 q1 w1 => ?_) fun c e1 E1 H1 G1 h1 s1 => E1 H1 G1 h1 s1
    obtain ⟨d, p, w2⟩ := peek_ok h1 q1 (wpM_bind.mp w1)
    obtain ⟨k, e, qf⟩ := wpM_lift w2
    refine ⟨k, ?_, qf H1 G1 h1 s1⟩
    cases d with
    | none => cases e; cases dq_non p; rfl
    | bool b => cases e; cases dq_bl p; rfl
    | int i => cases e; cases dq_int p; rfl
    | str x =>
      simp only [truthD] at e
      split at e <;> cases e
      cases dq_str p
      exact ⟨by assumption, rfl⟩
    | list ds =>
      cases e
      obtain ⟨a, xs, rfl, k1, k2⟩ := p
      exact .inl ⟨xs, .of k1, by rw [empty_dq k2]⟩
    | tuple ds =>
      cases e
      obtain ⟨a, xs, rfl, k1, k2⟩ := dq_tup p
      exact .inr (.inl ⟨xs, h1.sub.sqT k1, by rw [empty_dq k2]⟩)
    | dict _ => cases e
end

theorem ev_globI {X : Cx} {fr : Fr} {x : Str} {pos : Pos} {i : Int} (hg : Gl X x) (hm : ∃ t, X.mg x = some (.int i t)) (hdb : (x == ("__debug__" : Str)) = false := by decide) : PEv X fr (.Name x pos) (constF (.int i)) :=
  let ⟨t, h⟩ := hm
  ev_glob (v := .int i) hg h ⟨t, rfl⟩ (.int i) hdb
/-- a def that is never come to -/
theorem fn_stuck {P : Program} {w : World} {K : PySem.W.Frag} {mg : Str → Option Value} {base : Heap} {tabs : List Addr} {k n : Nat} {f : Addr} {fd : FuncData} {ps : List Str} {g : List PyData → FnR} (h : ∀ ds, g ds = .stuck) : FnOk P w K mg base CX0 k f fd ps (sp0 K tabs n g) :=
  ⟨fun vs H Q E ⟨G, ds, _, _, _, _, r, e, _⟩ => (by rw [h] at e; cases e), fun A outer s H args us vs Q E _ _ _ _ ⟨G, ds, _, _, _, _, r, e, _⟩ => (by rw [h] at e; cases e)⟩
theorem bt_len : bootBuiltins "len" = some (.builtin "len") := by decide +kernel
theorem bt_abs : bootBuiltins "abs" = some (.builtin "abs") := by decide +kernel
theorem bt_min : bootBuiltins "min" = some (.builtin "min") := by decide +kernel
theorem bt_max : bootBuiltins "max" = some (.builtin "max") := by decide +kernel
theorem bt_sum : bootBuiltins "sum" = some (.builtin "sum") := by decide +kernel
theorem bt_sorted : bootBuiltins "sorted" = some (.builtin "sorted") := by decide +kernel
theorem bt_all : bootBuiltins "all" = some (.builtin "all") := by decide +kernel
theorem bt_any : bootBuiltins "any" = some (.builtin "any") := by decide +kernel
theorem bt_int : bootBuiltins "int" = some (.type "int") := by decide +kernel
theorem bt_bool : bootBuiltins "bool" = some (.type "bool") := by decide +kernel
theorem bt_str : bootBuiltins "str" = some (.type "str") := by decide +kernel
theorem bt_list : bootBuiltins "list" = some (.type "list") := by decide +kernel
theorem bt_tuple : bootBuiltins "tuple" = some (.type "tuple") := by decide +kernel

/-! ### the law itself -/
/-- the law's own list -/
def scrD (ns : List Int) : PyData := .dict [(.none, .list (ns.map .int))]
theorem dq_ints {K : PySem.W.Frag} {G : Hp} : ∀ ns : List Int, DqAll K G (ns.map V.int) (ns.map PyData.int)
  | [] => .nil
  | n :: ns => .cons (.int n) (dq_ints ns)
def noTbl (H : Hp) : Hp := fun b => match H b with
  | some (.tbl _) => none
  | x => x
theorem noTbl_sub (H : Hp) : Sub (noTbl H) H := fun b o e => by
  unfold noTbl at e
  split at e
  · cases e
  · exact e
theorem law_sp {K : PySem.W.Frag} {tabs : List Addr} {g : List PyData → FnR} {ns : List Int} {H : Hp} {a : Addr} {E : XK} (hg : g [scrD ns] = .ok (.sh (.bool true))) (hS : SqL K H a (ns.map V.int)) (hT : ∀ P ∈ tabs, H P = some (.tbl #[])) :
    sp0 K tabs 1 g [.ref a] H (fun v _ => v = .bl true) E := by
  have hS' : SqL K (noTbl H) a (ns.map V.int) := by
    rcases hS with (h | ⟨o, h⟩) | h
    · exact .inl (.inl (by unfold noTbl; rw [h]))
    · exact .inl (.inr ⟨o, by unfold noTbl; rw [h]⟩)
    · exact .inr h
  exact ⟨noTbl H, [scrD ns], noTbl_sub H, fun P hP => ⟨⟨#[], hT P hP, trivial⟩, by unfold noTbl; rw [hT P hP]⟩, rfl, .cons (.scr hS' (dq_ints ns)) .nil, _, hg, fun H' G' v _ _ _ _ q => dq_bl q⟩
/-! ### hidden parts -/
section
variable {X : Cx} {fr : Fr} {P : Program} {w : World} {K : PySem.W.Frag} {mg : Str → Option Value} {base : Heap} {k : Nat} {fa : Addr} {fd : FuncData} {ps : List Str} {tabs : List Addr} {n : Nat}
theorem hid_b {st : List Stmt} {F : Mo Out} (h : PBs X fr st F) : PBs X fr st (hide F) := by
  rw [hide_eq]
  exact h
theorem hid_s {st : Stmt} {F : Mo Out} (h : PSv X fr st F) : PSv X fr st (hide F) := by
  rw [hide_eq]
  exact h
theorem hid_e {e : Expr} {F : Mo Rv} (h : PEv X fr e F) : PEv X fr e (hide F) := by
  rw [hide_eq]
  exact h
theorem hid_set {st : Stmt} {i : Nat} {F : Mo Rv} (h : PSv X fr st (setF i F)) : PSv X fr st (setF i (hide F)) := by
  rw [hide_eq]
  exact h
theorem hid_f {g : List PyData → FnR} (h : FnOk P w K mg base CX0 k fa fd ps (sp0 K tabs n g)) : FnOk P w K mg base CX0 k fa fd ps (sp0 K tabs n (hide g)) := by
  rw [hide_eq]
  exact h
theorem hid_l {g : List PyData → List PyData → FnL} (h : FnOk P w K mg base CX0 k fa fd ps (spL K tabs n g)) : FnOk P w K mg base CX0 k fa fd ps (spL K tabs n (hide g)) := by
  rw [hide_eq]
  exact h
end
end Cf
/-! Cf, part N: how the functions of data are reckoned. -/
namespace Cf
open PySem PySem.Spec PyProof.Rows L2

section
variable {α β : Type}
@[simp ↓] theorem bind_app (m : Mo α) (k : α → Mo β) (e : Fv) : (m >>= k) e = match m e with
    | .ok a e' => k a e'
    | .exc c e' => .exc c e'
    | .stuck => .stuck := Eq.trans rfl rfl
@[simp ↓] theorem pure_app (a : α) (e : Fv) : (pure a : Mo α) e = .ok a e := Eq.trans rfl rfl
@[simp] theorem stuck_app (e : Fv) : (stuckM : Mo α) e = .stuck := Eq.trans rfl rfl
@[simp] theorem lift_some (a : α) (e : Fv) : (liftO (some a) : Mo α) e = .ok a e := Eq.trans rfl rfl
@[simp] theorem lift_none (e : Fv) : (liftO none : Mo α) e = .stuck := Eq.trans rfl rfl
@[simp ↓] theorem ite_app (c : Prop) [Decidable c] (a b : Mo α) (e : Fv) : (if c then a else b) e = if c then a e else b e := by
  split <;> rfl
@[simp ↓] theorem peek_app (r : Rv) (e : Fv) : peek r e = (fun e => match r with
  | .sh d => .ok d e
  | .fr ds => .ok (.list ds) e
  | .sl i => match e[i]? with
    | some (.sh d) => .ok d e
    | some (.own _ ds) => .ok (.list ds) e
    | _ => .stuck : Mo PyData) e := Eq.trans rfl rfl
@[simp ↓] theorem force_app (r : Rv) (e : Fv) : force r e = (fun e => match r with
  | .sh d => .ok d e
  | .fr ds => .ok (.list ds) e
  | .sl i => match e[i]? with
    | some (.sh d) => .ok d e
    | some (.own none ds) => .ok (.list ds) (e.set i (.sh (.list ds)))
    | _ => .stuck : Mo PyData) e := Eq.trans rfl rfl
@[simp ↓] theorem readF_app (i : Nat) (e : Fv) : readF i e = (fun e => match e[i]? with
  | some (.sh d) => .ok (.sh d) e
  | some (.own _ _) => .ok (.sl i) e
  | _ => .stuck : Mo Rv) e := Eq.trans rfl rfl
@[simp ↓] theorem constF_app (d : PyData) (e : Fv) : constF d e = (pure (.sh d) : Mo Rv) e := Eq.trans rfl rfl
@[simp ↓] theorem binF_app (g : PyData → PyData → Option Rv) (F1 F2 : Mo Rv) (e : Fv) : binF g F1 F2 e = (do
  let r1 ← F1
  let r2 ← F2
  let d1 ← peek (hold r1)
  let d2 ← peek r2
  liftO (g d1 d2) : Mo Rv) e := Eq.trans rfl rfl
@[simp ↓] theorem chainF_app (g g' : PyData → PyData → Option Rv) (F1 F2 F3 : Mo Rv) (e : Fv) : chainF g g' F1 F2 F3 e = (do
  let r1 ← F1
  let r2 ← F2
  let d1 ← peek (hold r1)
  let d2 ← peek (hold r2)
  match g d1 d2 with
  | some (.sh (.bool k)) => (if k = true then (do
      let r3 ← F3
      let d2' ← peek (hold r2)
      let d3 ← peek r3
      liftO (g' d2' d3)) else pure (.sh (.bool false)) : Mo Rv)
  | _ => stuckM : Mo Rv) e := Eq.trans rfl rfl
@[simp ↓] theorem boolF_app (F : Mo Rv) (e : Fv) : boolF F e = (do
  let r ← F
  match r with
  | .sh (.bool b) => pure b
  | _ => stuckM : Mo Bool) e := Eq.trans rfl rfl
@[simp ↓] theorem ofB_app (F : Mo Bool) (e : Fv) : ofB F e = (do
  let b ← F
  pure (.sh (.bool b)) : Mo Rv) e := Eq.trans rfl rfl
@[simp ↓] theorem andF_app (F1 F2 : Mo Bool) (e : Fv) : andF F1 F2 e = (do
  let b ← F1
  if b = true then F2 else pure false : Mo Bool) e := Eq.trans rfl rfl
@[simp ↓] theorem orF_app (F1 F2 : Mo Bool) (e : Fv) : orF F1 F2 e = (do
  let b ← F1
  if b = true then pure true else F2 : Mo Bool) e := Eq.trans rfl rfl
@[simp ↓] theorem notF_app (F : Mo Bool) (e : Fv) : notF F e = (do
  let b ← F
  pure (!b) : Mo Bool) e := Eq.trans rfl rfl
@[simp ↓] theorem ifF_app {α : Type} (T : Mo Bool) (F1 F2 : Mo α) (e : Fv) : ifF T F1 F2 e = (do
  let b ← T
  if b = true then F1 else F2 : Mo α) e := Eq.trans rfl rfl
@[simp ↓] theorem consF_app (F : Mo Rv) (Fs : Mo (List Rv)) (e : Fv) : consF F Fs e = (do
  let r ← F
  let rs ← Fs
  pure (hold r :: rs) : Mo (List Rv)) e := Eq.trans rfl rfl
@[simp ↓] theorem nilF_app (e : Fv) : nilF  e = (pure [] : Mo (List Rv)) e := Eq.trans rfl rfl
@[simp ↓] theorem tupF_app (Fs : Mo (List Rv)) (e : Fv) : tupF Fs e = (do
  let rs ← Fs
  let ds ← forces rs
  if ds.length ≤ sizeLine then pure (.sh (.tuple ds)) else stuckM : Mo Rv) e := Eq.trans rfl rfl
@[simp ↓] theorem lstF_app (Fs : Mo (List Rv)) (e : Fv) : lstF Fs e = (do
  let rs ← Fs
  let ds ← forces rs
  if ds.length ≤ sizeLine then pure (.fr ds) else stuckM : Mo Rv) e := Eq.trans rfl rfl
@[simp ↓] theorem unF_app (g : PyData → Option Rv) (F : Mo Rv) (e : Fv) : unF g F e = (do
  let r ← F
  let d ← peek r
  liftO (g d) : Mo Rv) e := Eq.trans rfl rfl
@[simp ↓] theorem sliceF_app (F : Mo Rv) (lo hi : Option (Mo Rv)) (e : Fv) : sliceF F lo hi e = (do
  let r ← F
  let l ← partF lo
  let h ← partF hi
  let d ← peek (hold r)
  liftO (sliceG l h d) : Mo Rv) e := Eq.trans rfl rfl
@[simp ↓] theorem callBF_app (g : List PyData → Option Rv) (Fs : Mo (List Rv)) (e : Fv) : callBF g Fs e = (do
  let rs ← Fs
  let ds ← peeks rs
  liftO (g ds) : Mo Rv) e := Eq.trans rfl rfl
@[simp ↓] theorem isF_app (T : String) (F : Mo Rv) (e : Fv) : isF T F e = (do
  let r ← F
  let d ← peek r
  pure (isTy T d) : Mo Bool) e := Eq.trans rfl rfl
@[simp ↓] theorem getOwn_app (i : Nat) (e : Fv) : getOwn i e = (fun e => match e[i]? with
  | some (.own _ ds) => .ok ds e
  | _ => .stuck : Mo (List PyData)) e := Eq.trans rfl rfl
@[simp ↓] theorem putOwn_app (i : Nat) (ds : List PyData) (e : Fv) : putOwn i ds e = (fun e => match e[i]? with
  | some (.own t _) => .ok () (e.set i (.own t ds))
  | _ => .stuck : Mo Unit) e := Eq.trans rfl rfl
@[simp ↓] theorem needOwn_app (i : Nat) (e : Fv) : needOwn i e = (fun e => match e[i]? with
  | some (.own _ _) => .ok () e
  | _ => .stuck : Mo Unit) e := Eq.trans rfl rfl
@[simp ↓] theorem appendF_app (i : Nat) (F : Mo Rv) (e : Fv) : appendF i F e = (do
  needOwn i
  let r ← F
  let d ← force r
  let ds ← getOwn i
  if ds.length < sizeLine then do
    putOwn i (ds ++ [d])
    pure (.sh .none)
  else stuckM : Mo Rv) e := Eq.trans rfl rfl
@[simp ↓] theorem popF_app (i : Nat) (e : Fv) : popF i e = (do
  let ds ← getOwn i
  match ds.getLast? with
  | some d => do
    putOwn i ds.dropLast
    pure (.sh d)
  | none => stuckM : Mo Rv) e := Eq.trans rfl rfl
@[simp ↓] theorem skipF_app (e : Fv) : skipF  e = (pure .nx : Mo Out) e := Eq.trans rfl rfl
@[simp ↓] theorem seqF_app (F1 F2 : Mo Out) (e : Fv) : seqF F1 F2 e = (do
  match ← F1 with
  | .nx => F2
  | o => pure o : Mo Out) e := Eq.trans rfl rfl
@[simp ↓] theorem storeF_app (i : Nat) (r : Rv) (e : Fv) : storeF i r e = (fun e => match r with
  | .sh d => .ok () (e.set i (.sh d))
  | .fr ds => .ok () (e.set i (.own none ds))
  | .sl j => match e[j]? with
    | some (.sh d) => .ok () (e.set i (.sh d))
    | some (.own none ds) => .ok () ((e.set j (.sh (.list ds))).set i (.sh (.list ds)))
    | _ => .stuck : Mo Unit) e := Eq.trans rfl rfl
@[simp ↓] theorem setF_app (i : Nat) (F : Mo Rv) (e : Fv) : setF i F e = (do
  let r ← F
  storeF i r
  pure .nx : Mo Out) e := Eq.trans rfl rfl
@[simp ↓] theorem dropF_app (F : Mo Rv) (e : Fv) : dropF F e = (do
  let _ ← F
  pure .nx : Mo Out) e := Eq.trans rfl rfl
@[simp ↓] theorem retF_app (F : Mo Rv) (e : Fv) : retF F e = (do
  let r ← F
  pure (.rt r) : Mo Out) e := Eq.trans rfl rfl
@[simp ↓] theorem augF_app (i : Nat) (g : PyData → PyData → Option Rv) (F : Mo Rv) (e : Fv) : augF i g F e = (do
  let r ← readF i
  let r2 ← F
  let d1 ← peek r
  let d2 ← peek r2
  let res ← liftO (g d1 d2)
  storeF i res
  pure .nx : Mo Out) e := Eq.trans rfl rfl
@[simp ↓] theorem toSlot_app (i : Nat) (d : PyData) (e : Fv) : toSlot i d e = (storeF i (.sh d) : Mo Unit) e := Eq.trans rfl rfl
@[simp ↓] theorem toNil_app (ds : List PyData) (e : Fv) : toNil ds e = (match ds with
  | [] => pure ()
  | _ => stuckM : Mo Unit) e := Eq.trans rfl rfl
@[simp ↓] theorem toCons_app (T : PyData → Mo Unit) (Ts : List PyData → Mo Unit) (ds : List PyData) (e : Fv) : toCons T Ts ds e = (match ds with
  | d :: r => do
    T d
    Ts r
  | [] => stuckM : Mo Unit) e := Eq.trans rfl rfl
@[simp ↓] theorem toTup_app (n : Nat) (Ts : List PyData → Mo Unit) (d : PyData) (e : Fv) : toTup n Ts d e = (match d with
  | .tuple ds => if ds.length = n then Ts ds else stuckM
  | _ => stuckM : Mo Unit) e := Eq.trans rfl rfl
@[simp ↓] theorem thenU_app {α : Type} (T : Mo Unit) (k : Mo α) (e : Fv) : thenU T k e = (fun e => match T e with
  | .ok _ e' => k e'
  | .exc _ _ => .stuck
  | .stuck => .stuck : Mo α) e := Eq.trans rfl rfl
@[simp ↓] theorem setT_app (T : PyData → Mo Unit) (F : Mo Rv) (e : Fv) : setT T F e = (do
  let r ← F
  let d ← force r
  thenU (T d) (pure .nx) : Mo Out) e := Eq.trans rfl rfl
@[simp ↓] theorem seqI_app (F : Mo Rv) (e : Fv) : seqI F e = (do
  let r ← F
  let d ← force r
  liftO (itemsG d) : Mo (List PyData)) e := Eq.trans rfl rfl
@[simp ↓] theorem forF_app (I : Mo (List PyData)) (T : PyData → Mo Unit) (B : Mo Out) (e : Fv) : forF I T B e = (do
  let ds ← I
  loopF T B ds : Mo Out) e := Eq.trans rfl rfl
@[simp ↓] theorem endF_app (o : FnR) (e : Fv) : endF o e = (match o with
  | .ok r => pure r
  | .exc _ => stuckM
  | .stuck => stuckM : Mo Rv) e := Eq.trans rfl rfl
@[simp ↓] theorem callF_app (n : Nat) (g : List PyData → FnR) (Fs : Mo (List Rv)) (e : Fv) : callF n g Fs e = (do
  let rs ← Fs
  let ds ← forces rs
  if ds.length = n then endF (g ds) else stuckM : Mo Rv) e := Eq.trans rfl rfl
@[simp ↓] theorem callL_app (n : Nat) (g : List PyData → List PyData → FnL) (j : Nat) (Fs : Mo (List Rv)) (e : Fv) : callL n g j Fs e = (do
  needOwn j
  let rs ← Fs
  let ds ← forces rs
  let es ← getOwn j
  if ds.length + 1 = n then
    match g es ds with
    | .ok r out => do
      putOwn j out
      pure r
    | .stuck => stuckM
  else stuckM : Mo Rv) e := Eq.trans rfl rfl
@[simp ↓] theorem callB_app (n : Nat) (g : List PyData → FnR) (Fs : Mo (List Rv)) (e : Fv) : callB n g Fs e = (do
  let rs ← Fs
  let ds ← peeks rs
  if ds.length = n then
    match g ds with
    | .ok r => if freeRv r = true then pure r else stuckM
    | _ => stuckM
  else stuckM : Mo Rv) e := Eq.trans rfl rfl
@[simp ↓] theorem yesF_app (e : Fv) : yesF  e = (pure true : Mo Bool) e := Eq.trans rfl rfl
@[simp ↓] theorem revL_app (F : Mo Rv) (e : Fv) : revL F e = (do
  let r ← F
  let d ← peek r
  match d with
  | .list ds => pure (.fr ds.reverse)
  | _ => stuckM : Mo Rv) e := Eq.trans rfl rfl
@[simp ↓] theorem setItemF_app (i : Nat) (Fi : Mo Rv) (F : Mo Rv) (e : Fv) : setItemF i Fi F e = (do
  let r ← F
  let d ← force r
  needOwn i
  let rj ← Fi
  let dj ← peek rj
  let ds ← getOwn i
  match dj with
  | .int k => match ixN ds.length k with
    | some j => do
      putOwn i (ds.set j d)
      pure .nx
    | none => stuckM
  | _ => stuckM : Mo Out) e := Eq.trans rfl rfl
@[simp ↓] theorem consU_app (F : Mo Rv) (Fs : Mo (List Rv)) (e : Fv) : consU F Fs e = (do
  let r ← F
  let rs ← Fs
  pure (r :: rs) : Mo (List Rv)) e := Eq.trans rfl rfl
@[simp ↓] theorem settle1_app (r : Rv) (e : Fv) : settle1 r e = (match r with
  | .sl i => do
    let d ← force (.sl i)
    pure (.sh d)
  | r => pure r : Mo Rv) e := Eq.trans rfl rfl
@[simp ↓] theorem parF_app (is : List Nat) (Fs : Mo (List Rv)) (e : Fv) : parF is Fs e = (do
  let rs ← Fs
  let rs ← settle rs
  storeAll is rs
  pure .nx : Mo Out) e := Eq.trans rfl rfl
@[simp ↓] theorem truthF_app (F : Mo Rv) (e : Fv) : truthF F e = (do
  let r ← F
  let d ← peek r
  liftO (truthD d) : Mo Bool) e := Eq.trans rfl rfl
@[simp] theorem szl0 : (0 < sizeLine) = True := by simp [sizeLine]
@[simp] theorem sz1 : (1 ≤ sizeLine) = True := by simp [sizeLine]
@[simp] theorem szl1 : (1 < sizeLine) = True := by simp [sizeLine]
@[simp] theorem sz2 : (2 ≤ sizeLine) = True := by simp [sizeLine]
@[simp] theorem szl2 : (2 < sizeLine) = True := by simp [sizeLine]
@[simp] theorem sz3 : (3 ≤ sizeLine) = True := by simp [sizeLine]
@[simp] theorem szl3 : (3 < sizeLine) = True := by simp [sizeLine]
@[simp] theorem sz4 : (4 ≤ sizeLine) = True := by simp [sizeLine]
@[simp] theorem szl4 : (4 < sizeLine) = True := by simp [sizeLine]
@[simp] theorem sz5 : (5 ≤ sizeLine) = True := by simp [sizeLine]
@[simp] theorem szl5 : (5 < sizeLine) = True := by simp [sizeLine]
@[simp] theorem sz6 : (6 ≤ sizeLine) = True := by simp [sizeLine]
@[simp] theorem szl6 : (6 < sizeLine) = True := by simp [sizeLine]
@[simp] theorem sz7 : (7 ≤ sizeLine) = True := by simp [sizeLine]
@[simp] theorem szl7 : (7 < sizeLine) = True := by simp [sizeLine]
@[simp] theorem sz8 : (8 ≤ sizeLine) = True := by simp [sizeLine]
@[simp] theorem szl8 : (8 < sizeLine) = True := by simp [sizeLine]
@[simp] theorem sz9 : (9 ≤ sizeLine) = True := by simp [sizeLine]
@[simp] theorem szl9 : (9 < sizeLine) = True := by simp [sizeLine]
@[simp] theorem sz10 : (10 ≤ sizeLine) = True := by simp [sizeLine]
@[simp] theorem szl10 : (10 < sizeLine) = True := by simp [sizeLine]
@[simp] theorem sz11 : (11 ≤ sizeLine) = True := by simp [sizeLine]
@[simp] theorem szl11 : (11 < sizeLine) = True := by simp [sizeLine]
@[simp] theorem sz12 : (12 ≤ sizeLine) = True := by simp [sizeLine]
@[simp] theorem szl12 : (12 < sizeLine) = True := by simp [sizeLine]
@[simp] theorem sz13 : (13 ≤ sizeLine) = True := by simp [sizeLine]
@[simp] theorem szl13 : (13 < sizeLine) = True := by simp [sizeLine]
@[simp] theorem sz14 : (14 ≤ sizeLine) = True := by simp [sizeLine]
@[simp] theorem szl14 : (14 < sizeLine) = True := by simp [sizeLine]
@[simp] theorem sz15 : (15 ≤ sizeLine) = True := by simp [sizeLine]
@[simp] theorem szl15 : (15 < sizeLine) = True := by simp [sizeLine]
@[simp] theorem sz16 : (16 ≤ sizeLine) = True := by simp [sizeLine]
@[simp] theorem szl16 : (16 < sizeLine) = True := by simp [sizeLine]
@[simp] theorem sz17 : (17 ≤ sizeLine) = True := by simp [sizeLine]
@[simp] theorem szl17 : (17 < sizeLine) = True := by simp [sizeLine]
@[simp] theorem sz18 : (18 ≤ sizeLine) = True := by simp [sizeLine]
@[simp] theorem szl18 : (18 < sizeLine) = True := by simp [sizeLine]
@[simp] theorem sz19 : (19 ≤ sizeLine) = True := by simp [sizeLine]
@[simp] theorem szl19 : (19 < sizeLine) = True := by simp [sizeLine]
@[simp] theorem sz20 : (20 ≤ sizeLine) = True := by simp [sizeLine]
@[simp] theorem szl20 : (20 < sizeLine) = True := by simp [sizeLine]
@[simp] theorem sz21 : (21 ≤ sizeLine) = True := by simp [sizeLine]
@[simp] theorem szl21 : (21 < sizeLine) = True := by simp [sizeLine]
@[simp] theorem sz22 : (22 ≤ sizeLine) = True := by simp [sizeLine]
@[simp] theorem szl22 : (22 < sizeLine) = True := by simp [sizeLine]
@[simp] theorem sz23 : (23 ≤ sizeLine) = True := by simp [sizeLine]
@[simp] theorem szl23 : (23 < sizeLine) = True := by simp [sizeLine]
@[simp] theorem sz24 : (24 ≤ sizeLine) = True := by simp [sizeLine]
@[simp] theorem szl24 : (24 < sizeLine) = True := by simp [sizeLine]
@[simp] theorem sz25 : (25 ≤ sizeLine) = True := by simp [sizeLine]
@[simp] theorem szl25 : (25 < sizeLine) = True := by simp [sizeLine]
@[simp] theorem sz26 : (26 ≤ sizeLine) = True := by simp [sizeLine]
@[simp] theorem szl26 : (26 < sizeLine) = True := by simp [sizeLine]
@[simp] theorem sz27 : (27 ≤ sizeLine) = True := by simp [sizeLine]
@[simp] theorem szl27 : (27 < sizeLine) = True := by simp [sizeLine]
@[simp] theorem sz28 : (28 ≤ sizeLine) = True := by simp [sizeLine]
@[simp] theorem szl28 : (28 < sizeLine) = True := by simp [sizeLine]
@[simp] theorem sz29 : (29 ≤ sizeLine) = True := by simp [sizeLine]
@[simp] theorem szl29 : (29 < sizeLine) = True := by simp [sizeLine]
@[simp] theorem sz30 : (30 ≤ sizeLine) = True := by simp [sizeLine]
@[simp] theorem szl30 : (30 < sizeLine) = True := by simp [sizeLine]
@[simp] theorem sz31 : (31 ≤ sizeLine) = True := by simp [sizeLine]
@[simp] theorem szl31 : (31 < sizeLine) = True := by simp [sizeLine]
@[simp] theorem sz32 : (32 ≤ sizeLine) = True := by simp [sizeLine]
@[simp] theorem szl32 : (32 < sizeLine) = True := by simp [sizeLine]
theorem wpM_ok {m : Mo α} {e e' : Fv} {a : α} {Q : α → Fv → Prop} {E : Nat → Fv → Prop} (h : m e = .ok a e') (q : Q a e') : wpM m e Q E := by
  unfold wpM
  rw [h]
  exact q
theorem ok_of_wp {m : Mo α} {e e' : Fv} {a : α} (h : wpM m e (fun b f => b = a ∧ f = e') (fun _ _ => False)) : m e = .ok a e' := by
  unfold wpM at h
  cases q : (m e : Res α) with
  | ok b f => rw [q] at h; obtain ⟨rfl, rfl⟩ := h; rfl
  | exc c f => rw [q] at h; exact h.elim
  | stuck => rw [q] at h; exact h.elim
end
end Cf
/-! Cf, part O: reckoning with the functions of data. -/
namespace Cf
open PySem PySem.Spec PyProof.Rows L2

theorem seq_nx {F1 F2 : Mo Out} {e e' : Fv} (h : F1 e = .ok .nx e') : seqF F1 F2 e = F2 e' := by
  simp [h]
theorem seq_rt {F1 F2 : Mo Out} {e e' : Fv} {r : Rv} (h : F1 e = .ok (.rt r) e') : seqF F1 F2 e = .ok (.rt r) e' := by
  simp [h]
/-- ints -/
def I (n : Int) : PyData := .int n
theorem mulOk_left {i j : Int} (h : i.natAbs < 2 ^ 64) : mulOk i j = true := by
  have : Builtin.Int.intBits i ≤ shortFactorBits := by
    unfold Builtin.Int.intBits shortFactorBits
    split
    · omega
    · have : i.natAbs.log2 < 64 := by
        rename_i z
        have : i.natAbs ≠ 0 := by simpa using z
        exact (Nat.log2_lt this).mpr h
      omega
  simp [mulOk, Nat.not_lt.mpr this]
theorem mulOk_right {i j : Int} (h : j.natAbs < 2 ^ 64) : mulOk i j = true := by
  have : Builtin.Int.intBits j ≤ shortFactorBits := by
    unfold Builtin.Int.intBits shortFactorBits
    split
    · omega
    · have : j.natAbs.log2 < 64 := by
        rename_i z
        have : j.natAbs ≠ 0 := by simpa using z
        exact (Nat.log2_lt this).mpr h
      omega
  simp [mulOk, Nat.not_lt.mpr this]
theorem mulG_left {i j : Int} (h : i.natAbs < 2 ^ 64) : mulG (.int i) (.int j) = some (.sh (.int (i * j))) := by
  simp [mulG, mulOk_left h]
theorem mulG_right {i j : Int} (h : j.natAbs < 2 ^ 64) : mulG (.int i) (.int j) = some (.sh (.int (i * j))) := by
  simp [mulG, mulOk_right h]
theorem fdivG_small {i j : Int} (h0 : j ≠ 0) (h : j.natAbs < 1073741824) : fdivG (.int i) (.int j) = some (.sh (.int (i.fdiv j))) := by
  simp [fdivG, h0, PyProof.noPylong_small h]

/-! ### equality -/
theorem canLayAll_iff : ∀ {ds : List PyData}, PyData.canLayAll0 ds = true ↔ ∀ d ∈ ds, d.canLay0 = true
  | [] => by simp [PyData.canLayAll0]
  | d :: ds => by simp [PyData.canLayAll0, canLayAll_iff (ds := ds)]
theorem depthAll_le : ∀ {ds : List PyData} {n : Nat}, PyData.depthAll ds ≤ n ↔ ∀ d ∈ ds, d.depth ≤ n
  | [], n => by simp [PyData.depthAll]
  | d :: ds, n => by simp [PyData.depthAll, depthAll_le (ds := ds), Nat.max_le]
theorem eqvAll_eq : ∀ {xs ys : List PyData}, (∀ x ∈ xs, ∀ y ∈ ys, PyData.eqv x y = true ↔ x = y) → (PyData.eqvAll xs ys = true ↔ xs = ys)
  | [], [], _ => by simp [PyData.eqvAll]
  | [], _ :: _, _ => by simp [PyData.eqvAll]
  | _ :: _, [], _ => by simp [PyData.eqvAll]
  | x :: xs, y :: ys, h => by
    simp only [PyData.eqvAll, Bool.and_eq_true, List.cons.injEq]
    rw [h x (by simp) y (by simp), eqvAll_eq fun a ha b hb => h a (by simp [ha]) b (by simp [hb])]
theorem eqv_int {i j : Int} : PyData.eqv (.int i) (.int j) = decide (i = j) := by
  simp [PyData.eqv]
  rfl
/-- data of ints: no bool, no text, no table; at most n levels -/
inductive Plain : Nat → PyData → Prop
  | int {n : Nat} (i : Int) : Plain n (.int i)
  | non {n : Nat} : Plain n .none
  | tup {n : Nat} {ds : List PyData} : (∀ d ∈ ds, Plain n d) → Plain (n + 1) (.tuple ds)
  | lst {n : Nat} {ds : List PyData} : (∀ d ∈ ds, Plain n d) → Plain (n + 1) (.list ds)
theorem Plain.lay : ∀ {n : Nat} {d : PyData}, Plain n d → d.canLay0 = true
  | _, _, .int _ => rfl
  | _, _, .non => rfl
  | _, _, .tup h => by
    simp only [PyData.canLay0]
    exact canLayAll_iff.mpr fun d hd => (h d hd).lay
  | _, _, .lst h => by
    simp only [PyData.canLay0]
    exact canLayAll_iff.mpr fun d hd => (h d hd).lay
theorem Plain.dep : ∀ {n : Nat} {d : PyData}, Plain n d → d.depth ≤ n
  | _, _, .int _ => Nat.zero_le _
  | _, _, .non => Nat.zero_le _
  | _, _, .tup h => by
    simp only [PyData.depth]
    exact Nat.succ_le_succ (depthAll_le.mpr fun d hd => (h d hd).dep)
  | _, _, .lst h => by
    simp only [PyData.depth]
    exact Nat.succ_le_succ (depthAll_le.mpr fun d hd => (h d hd).dep)
theorem Plain.eqv : ∀ {n m : Nat} {a b : PyData}, Plain n a → Plain m b → (PyData.eqv a b = true ↔ a = b)
  | _, _, _, _, .int i, .int j => by simp [eqv_int]
  | _, _, _, _, .int i, .non => by simp [PyData.eqv]
  | _, _, _, _, .int i, .tup _ => by simp [PyData.eqv]
  | _, _, _, _, .int i, .lst _ => by simp [PyData.eqv]
  | _, _, _, _, .non, .int i => by simp [PyData.eqv]
  | _, _, _, _, .non, .non => by simp [PyData.eqv]
  | _, _, _, _, .non, .tup _ => by simp [PyData.eqv]
  | _, _, _, _, .non, .lst _ => by simp [PyData.eqv]
  | _, _, _, _, .tup h, .int i => by simp [PyData.eqv]
  | _, _, _, _, .tup h, .non => by simp [PyData.eqv]
  | _, _, _, _, .tup h, .tup k => by
    simp only [PyData.eqv, PyData.tuple.injEq]
    exact eqvAll_eq fun x hx y hy => (h x hx).eqv (k y hy)
  | _, _, _, _, .tup h, .lst _ => by simp [PyData.eqv]
  | _, _, _, _, .lst h, .int i => by simp [PyData.eqv]
  | _, _, _, _, .lst h, .non => by simp [PyData.eqv]
  | _, _, _, _, .lst h, .tup _ => by simp [PyData.eqv]
  | _, _, _, _, .lst h, .lst k => by
    simp only [PyData.eqv, PyData.list.injEq]
    exact eqvAll_eq fun x hx y hy => (h x hx).eqv (k y hy)
noncomputable instance decEq : DecidableEq PyData := fun a b => Classical.propDecidable _
theorem eqG_plain {n m : Nat} {a b : PyData} (ha : Plain n a) (hb : Plain m b) (h : min n m ≤ 64) : eqG a b = some (.sh (.bool (decide (a = b)))) := by
  have h1 := ha.dep
  have h2 := hb.dep
  have e : PyData.eqv a b = decide (a = b) := by
    by_cases z : a = b
    · rw [(ha.eqv hb).mpr z, decide_eq_true z]
    · rw [decide_eq_false z]
      exact Bool.eq_false_iff.mpr fun y => z ((ha.eqv hb).mp y)
  unfold eqG eqOk
  rw [ha.lay, hb.lay, e]
  simp
  omega
theorem neG_plain {n m : Nat} {a b : PyData} (ha : Plain n a) (hb : Plain m b) (h : min n m ≤ 64) : neG a b = some (.sh (.bool (!decide (a = b)))) := by
  have e := eqG_plain ha hb h
  unfold eqG at e
  unfold neG
  split at e
  · rename_i c
    rw [if_pos c]
    have := Option.some.inj e
    simp only [Rv.sh.injEq, PyData.bool.injEq] at this
    rw [this]
  · cases e
theorem eqG_int {i j : Int} : eqG (.int i) (.int j) = some (.sh (.bool (decide (i = j)))) := by
  rw [eqG_plain (.int (n := 0) i) (.int (n := 0) j) (by decide)]
  simp
theorem neG_int {i j : Int} : neG (.int i) (.int j) = some (.sh (.bool (!decide (i = j)))) := by
  rw [neG_plain (.int (n := 0) i) (.int (n := 0) j) (by decide)]
  simp
theorem eqG_bool {a b : Bool} : eqG (.bool a) (.bool b) = some (.sh (.bool (a == b))) := by
  simp [eqG, eqOk, PyData.canLay0, PyData.depth, PyData.eqv]
theorem neG_bool {a b : Bool} : neG (.bool a) (.bool b) = some (.sh (.bool (a != b))) := by
  simp [neG, eqOk, PyData.canLay0, PyData.depth, PyData.eqv, bne]
theorem eqG_nil {ds : List PyData} (h : ∀ d ∈ ds, d.canLay0 = true) : eqG (.list ds) (.list []) = some (.sh (.bool ds.isEmpty)) := by
  unfold eqG eqOk
  have : PyData.canLay0 (.list ds) = true := by simpa only [PyData.canLay0] using canLayAll_iff.mpr h
  rw [this]
  have e : PyData.eqv (.list ds) (.list []) = ds.isEmpty := by
    cases ds <;> simp [PyData.eqv, PyData.eqvAll]
  rw [e]
  simp [PyData.canLay0, PyData.canLayAll0, PyData.depth, PyData.depthAll]
theorem eqG_nil0 : eqG (.list []) (.list []) = some (.sh (.bool true)) := eqG_nil (by simp)
theorem in_any {n : Nat} {a : PyData} {ds : List PyData} (ha : Plain n a) (hn : n ≤ 60) (h : ∀ d ∈ ds, Plain 60 d) : inOk a ds = true ∧ (ds.any fun z => PyData.eqv z a) = decide (a ∈ ds) := by
  constructor
  · have := ha.dep
    simp [inOk, ha.lay, canLayAll_iff.mpr fun d hd => (h d hd).lay]
    omega
  · rw [Bool.eq_iff_iff]
    simp only [List.any_eq_true, decide_eq_true_eq]
    constructor
    · rintro ⟨x, hx, e⟩
      rw [← ((h x hx).eqv ha).mp e]
      exact hx
    · exact fun hx => ⟨a, hx, ((h a hx).eqv ha).mpr rfl⟩
section
variable {n : Nat} {a : PyData} {ds : List PyData} (ha : Plain n a) (hn : n ≤ 60) (h : ∀ d ∈ ds, Plain 60 d)
include ha hn h
theorem inG_tup : inG a (.tuple ds) = some (.sh (.bool (decide (a ∈ ds)))) := by
  simp [inG, (in_any ha hn h).1, (in_any ha hn h).2]
theorem inG_lst : inG a (.list ds) = some (.sh (.bool (decide (a ∈ ds)))) := by
  simp [inG, (in_any ha hn h).1, (in_any ha hn h).2]
theorem notInG_tup : notInG a (.tuple ds) = some (.sh (.bool (!decide (a ∈ ds)))) := by
  simp [notInG, (in_any ha hn h).1, (in_any ha hn h).2]
theorem notInG_lst : notInG a (.list ds) = some (.sh (.bool (!decide (a ∈ ds)))) := by
  simp [notInG, (in_any ha hn h).1, (in_any ha hn h).2]
end

/-! ### items -/
theorem atI_nat {α : Type} {xs : List α} {i : Int} (h0 : 0 ≤ i) (h : i < xs.length) : atI xs i = xs[i.toNat]? := by
  simp [atI, ixN, h0, h]
theorem atI_cons {α : Type} {x : α} {xs : List α} : atI (x :: xs) 0 = some x := by
  rw [atI_nat (by omega) (by simp only [List.length_cons]; omega)]
  rfl
theorem atI_map {α β : Type} {f : α → β} {xs : List α} {i : Int} : atI (xs.map f) i = (atI xs i).map f := by
  unfold atI
  rw [List.length_map]
  cases ixN xs.length i <;> simp

/-! ### ranges (the bound is a big number: the kernel must not reckon with it) -/
theorem range1_ok {Fs : Mo (List Rv)} {e e' : Fv} {j : Int} (h : Fs e = .ok [.sh (.int j)] e') (h0 : -(2 ^ 62) ≤ j) (h1 : j < 2 ^ 62) : range1I Fs e = .ok (rangeD 0 j.toNat) e' := by
  unfold range1I
  rw [bind_app, h]
  show (if _ then _ else _ : Mo _) e' = _
  rw [if_pos (rangeOk_iff.mpr ⟨h0, h1⟩)]
  rfl
theorem range2_ok {Fs : Mo (List Rv)} {e e' : Fv} {i j : Int} (h : Fs e = .ok [.sh (.int i), .sh (.int j)] e') (g0 : -(2 ^ 62) ≤ i) (g1 : i < 2 ^ 62) (h0 : -(2 ^ 62) ≤ j) (h1 : j < 2 ^ 62) : range2I Fs e = .ok (rangeD i (j - i).toNat) e' := by
  unfold range2I
  rw [bind_app, h]
  show (if _ then _ else _ : Mo _) e' = _
  rw [if_pos ⟨rangeOk_iff.mpr ⟨g0, g1⟩, rangeOk_iff.mpr ⟨h0, h1⟩⟩]
  rfl
theorem for_ok {Io : Mo (List PyData)} {T : PyData → Mo Unit} {B : Mo Out} {ds : List PyData} {e e' : Fv} (h : Io e = .ok ds e') : forF Io T B e = loopF T B ds e' := by
  simp [h]

/-! ### comprehensions that change nothing -/
theorem lcLoop_one {v : Nat} {C : Mo Bool} {F : Mo Rv} {e : Fv} (hv : v < e.length) {p : PyData → Bool} {g : PyData → PyData} :
    ∀ (ds acc : List PyData) (e' : Fv), e'.set v .un = e.set v .un → acc.length + ds.length ≤ sizeLine →
    (∀ d ∈ ds, C (e.set v (.sh d)) = .ok (p d) (e.set v (.sh d))) →
    (∀ d ∈ ds, p d = true → (F >>= force) (e.set v (.sh d)) = .ok (g d) (e.set v (.sh d))) →
    ∃ e'', e''.set v .un = e.set v .un ∧ lcLoop [v] (toSlot v) C F ds acc e' = .ok (acc ++ (ds.filter p).map g) e''
  | [], acc, e', he, _, _, _ => ⟨e', he, by simp [lcLoop]⟩
  | d :: ds, acc, e', he, hl, hC, hF => by
    have e1 : (e.set v Sl.un).set v (.sh d) = e.set v (.sh d) := by rw [List.set_set]
    unfold lcLoop
    simp only [wipeE, he, thenU, toSlot, storeF, e1, bind_app, hC d (by simp)]
    have hl' : acc.length + (ds.length + 1) ≤ sizeLine := by simpa using hl
    by_cases hp : p d = true
    · have f := hF d (by simp) hp
      simp only [hp, if_true]
      rw [bind_app] at f
      rw [bind_app]
      cases z : (F (e.set v (.sh d)) : Res Rv) with
      | exc c e2 => rw [z] at f; simp at f
      | stuck => rw [z] at f; simp at f
      | ok r e2 =>
        rw [z] at f
        simp only [f, bind_app] at f ⊢
        rw [if_pos (by omega)]
        obtain ⟨e'', h1, h2⟩ := lcLoop_one hv ds (acc ++ [g d]) (e.set v (.sh d)) (by rw [List.set_set]) (by simp; omega) (fun x hx => hC x (by simp [hx])) (fun x hx => hF x (by simp [hx]))
        exact ⟨e'', h1, by rw [h2]; simp [hp]⟩
    · simp only [hp, if_false]
      obtain ⟨e'', h1, h2⟩ := lcLoop_one hv ds acc (e.set v (.sh d)) (by rw [List.set_set]) (by omega) (fun x hx => hC x (by simp [hx])) (fun x hx => hF x (by simp [hx]))
      exact ⟨e'', h1, by simp [h2, hp]⟩
theorem lc_one {v : Nat} {Io : Mo (List PyData)} {C : Mo Bool} {F : Mo Rv} {e0 e : Fv} {ds : List PyData} (p : PyData → Bool) (g : PyData → PyData) (hI : Io e0 = .ok ds e) (hv : v < e.length) (no : noOwn [v] e = true) (hl : ds.length ≤ sizeLine)
    (hC : ∀ d ∈ ds, C (e.set v (.sh d)) = .ok (p d) (e.set v (.sh d)))
    (hF : ∀ d ∈ ds, p d = true → (F >>= force) (e.set v (.sh d)) = .ok (g d) (e.set v (.sh d))) : lcF [v] Io (toSlot v) C F e0 = .ok (.fr ((ds.filter p).map g)) e := by
  obtain ⟨e'', h1, h2⟩ := lcLoop_one hv ds [] e rfl (by simpa using hl) hC hF
  have hb : restE e [v] e'' = e := by
    simp only [restE]
    have : ∀ x, e''.set v x = e.set v x := fun x => by
      have := congrArg (fun l : Fv => l.set v x) h1
      simpa [List.set_set] using this
    rw [this, List.getElem?_eq_getElem hv]
    simp
  unfold lcF
  simp only [bind_app, hI]
  unfold block
  rw [if_pos no, h2]
  simp only [hb, pure_app, List.nil_append]
end Cf
/-! Cf, part P: loops; the helpers that every law has. -/
namespace Cf
open PySem PySem.Spec PyProof.Rows L2

@[simp] theorem loop_nil {T : PyData → Mo Unit} {B : Mo Out} {e : Fv} : loopF T B [] e = .ok .nx e := rfl
theorem loop_cons {T : PyData → Mo Unit} {B : Mo Out} {d : PyData} {ds : List PyData} {e : Fv} : loopF T B (d :: ds) e = match thenU (T d) B e with
    | .ok .nx e' => loopF T B ds e'
    | .ok .ct e' => loopF T B ds e'
    | .ok .bk e' => .ok .nx e'
    | .ok (.rt r) e' => .ok (.rt r) e'
    | .exc c e' => .exc c e'
    | .stuck => .stuck := by
  show thenU (T d) _ e = _
  simp only [thenU]
  cases (T d e : Res Unit) with
  | exc c e' => rfl
  | stuck => rfl
  | ok u e' =>
    simp only [bind_app]
    cases (B e' : Res Out) with
    | exc c e' => rfl
    | stuck => rfl
    | ok o e2 => cases o <;> rfl
/-- a loop that goes to its end, with what holds after k turns -/
theorem loop_inv {T : PyData → Mo Unit} {B : Mo Out} {J : Nat → Fv → Prop} : ∀ {ds : List PyData} {k : Nat} {e : Fv},
    (∀ d ∈ ds, ∀ j e, j < k + ds.length → J j e → ∃ e', (thenU (T d) B e = .ok .nx e' ∨ thenU (T d) B e = .ok .ct e') ∧ J (j + 1) e') → J k e → ∃ e', loopF T B ds e = .ok .nx e' ∧ J (k + ds.length) e'
  | [], k, e, _, h => ⟨e, rfl, h⟩
  | d :: ds, k, e, hs, h => by
    obtain ⟨e1, h1, h2⟩ := hs d (by simp) k e (by simp) h
    obtain ⟨e2, h3, h4⟩ := loop_inv (ds := ds) (k := k + 1) (fun x hx j e hj => hs x (by simp [hx]) j e (by simp at hj ⊢; omega)) h2
    refine ⟨e2, ?_, by rw [List.length_cons, show k + (ds.length + 1) = k + 1 + ds.length by omega]; exact h4⟩
    rw [loop_cons]
    rcases h1 with h1 | h1 <;> rw [h1] <;> exact h3
theorem rangeD_length {lo : Int} {n : Nat} : (rangeD lo n).length = n := by simp [rangeD]
theorem mem_rangeD {lo : Int} {n : Nat} {d : PyData} : d ∈ rangeD lo n ↔ ∃ k : Nat, k < n ∧ d = .int (lo + k) := by
  simp only [rangeD, List.mem_map, List.mem_range]
  exact ⟨fun ⟨k, h, e⟩ => ⟨k, h, e.symm⟩, fun ⟨k, h, e⟩ => ⟨k, h, e.symm⟩⟩
theorem rangeD_succ {lo : Int} {n : Nat} : rangeD lo (n + 1) = .int lo :: rangeD (lo + 1) n := by
  unfold rangeD
  rw [List.range_succ_eq_map, List.map_cons, List.map_map]
  congr 1
  · simp
  · exact List.map_congr_left fun k _ => by
      simp
      omega
theorem rangeD_zero {lo : Int} : rangeD lo 0 = [] := rfl
theorem rangeD_concat {lo : Int} {n : Nat} : rangeD lo (n + 1) = rangeD lo n ++ [.int (lo + n)] := by
  unfold rangeD
  rw [List.range_succ, List.map_append]
  rfl

/-! ### draws -/
noncomputable section
abbrev drawsL1 : Mo Out := ifF (boolF (binF gtG (readF 3) (constF (.int 0)))) (seqF (dropF (appendF 1 (binF modG (callBF intG (consF (readF 3) (nilF))) (constF (.int 997)))))
    (setF 3 (binF fdivG (readF 3) (constF (.int 997))))) (skipF)
def drawsF1 : Mo Out := forF (range1I (consF (constF (.int 60)) (nilF))) (toSlot 5) drawsL1
def drawsL2g (pw : Mo Rv) (F : Mo Out) : Mo Out :=
  seqF (setF 3 (callBF absG (consF (readF 2) (nilF))))
    (seqF (ifF (boolF (binF ltG (readF 3) pw)) (seqF (setF 4 (binF modG (callBF intG (consF (binF addG (binF mulG (readF 3) (constF (.int 48271))) (constF (.int 11))) (nilF))) (constF (.int 2147483647))))
    (seqF (dropF (appendF 1 (binF modG (callBF intG (consF (binF addG (binF mulG (readF 4) (constF (.int 69621))) (readF 3)) (nilF))) (constF (.int 2147483629)))))
    (seqF (dropF (appendF 1 (binF modG (callBF intG (consF (binF addG (readF 4) (binF fdivG (readF 3) (constF (.int 7)))) (nilF))) (constF (.int 1000003)))))
    (setF 3 (constF (.int 0)))))) (skipF))
    F)
abbrev drawsL2 : Mo Out := drawsL2g (binF powG (constF (.int 10)) (constF (.int 18))) drawsF1
abbrev drawsL3 : Mo Out :=
  seqF (setF 6 (binF modG (callBF intG (consF (binF addG (binF mulG (readF 6) (constF (.int 48271))) (constF (.int 69621))) (nilF))) (constF (.int 2147483647))))
    (dropF (appendF 1 (binF fdivG (readF 6) (constF (.int 5)))))
def drawsB : Mo Out :=
  seqF (setF 1 (lstF (nilF)))
    (seqF (forF (seqI (readF 0)) (toSlot 2) drawsL2)
    (seqF (setF 6 (constF (.int 1)))
    (seqF (ifF (boolF (binF gtG (callBF lenG (consF (readF 0) (nilF))) (constF (.int 0)))) (setF 6 (binF addG (constF (.int 1)) (callBF absG (consF (binF itemG (readF 0) (constF (.int 0))) (nilF))))) (skipF))
    (seqF (forF (range1I (consF (constF (.int 900)) (nilF))) (toSlot 5) drawsL3)
    (retF (revL (readF 1)))))))
def takeB : Mo Out :=
  seqF (ifF (boolF (binF eqG (callBF lenG (consF (readF 0) (nilF))) (constF (.int 0)))) (retF (constF (.int 0))) (skipF))
    (retF (binF modG (callBF intG (consF (popF 0) (nilF))) (readF 1)))
def saysB : Mo Out :=
  retF (ofB (andF (isF "bool" (readF 0)) (boolF (binF eqG (readF 0) (readF 1)))))
def alikeQ (self : List PyData → FnR) : Mo Rv := lcF [2] (range1I (consF (callBF lenG (consF (readF 1) (nilF))) (nilF))) (toSlot 2) (notF (truthF (callF 2 self (consF (binF itemG (readF 0) (readF 2)) (consF (binF itemG (readF 1) (readF 2)) (nilF)))))) (readF 2)
def alikeG (Q : Mo Rv) : Mo Out :=
  seqF (ifF (orF (isF "list" (readF 1)) (isF "tuple" (readF 1))) (seqF (ifF (orF (boolF (binF neG (ofB (isF "list" (readF 0))) (ofB (isF "list" (readF 1))))) (boolF (binF neG (ofB (isF "tuple" (readF 0))) (ofB (isF "tuple" (readF 1)))))) (retF (constF (.bool false))) (skipF))
    (retF (ofB (andF (boolF (binF eqG (callBF lenG (consF (readF 0) (nilF))) (callBF lenG (consF (readF 1) (nilF))))) (boolF (binF eqG Q (lstF (nilF)))))))) (skipF))
    (seqF (ifF (boolF (binF isG (readF 1) (constF .none))) (retF (binF isG (readF 0) (constF .none))) (skipF))
    (seqF (ifF (orF (isF "bool" (readF 1)) (isF "bool" (readF 0))) (retF (ofB (andF (isF "bool" (readF 0)) (andF (isF "bool" (readF 1)) (boolF (binF eqG (readF 0) (readF 1))))))) (skipF))
    (seqF (ifF (isF "int" (readF 1)) (retF (ofB (andF (isF "int" (readF 0)) (boolF (binF eqG (readF 0) (readF 1)))))) (skipF))
    (retF (ofB (andF (isF "str" (readF 0)) (boolF (binF eqG (readF 0) (readF 1)))))))))
def alikeB (self : List PyData → FnR) : Mo Out := alikeG (alikeQ self)
def alikeF : Nat → List PyData → FnR
  | 0 => fun _ => .stuck
  | n + 1 => runF 3 (alikeB (alikeF n))

def iL (ns : List Int) : List PyData := ns.map .int
theorem iL_length {ns : List Int} : (iL ns).length = ns.length := List.length_map _
theorem pow18 : powG (.int 10) (.int 18) = some (.sh (.int 1000000000000000000)) := by
  show (if (0 : Int) ≤ 18 ∧ (18 : Int) ≤ 1000000 ∧ (10 : Int).natAbs < 2 ^ 64 then some (Rv.sh (.int (10 ^ (18 : Int).toNat))) else none) = _
  rw [if_pos ⟨by decide, by decide, by decide⟩]
  have : (10 : Int) ^ (18 : Int).toNat = 1000000000000000000 := by decide
  rw [this]
theorem pow18F : binF powG (constF (.int 10)) (constF (.int 18)) = constF (.int 1000000000000000000) := by
  funext e
  simp [pow18]
theorem draws1 {s d2 d3 d4 d5 d6 : Sl} {x : Int} {ms : List Int} (h : ms.length < 2 ^ 20) (hd : d3 = .sh (.int x)) :
    ∃ (ms' : List Int) (y : Int) (e5 : Sl), (drawsF1 [s, .own none (iL ms), d2, d3, d4, d5, d6] : Res Out) = .ok .nx [s, .own none (iL ms'), d2, .sh (.int y), d4, e5, d6] ∧ ms'.length ≤ ms.length + 60 := by
  subst hd
  obtain ⟨e', h1, ms', y, e5, rfl, h2⟩ := loop_inv (T := toSlot 5) (B := drawsL1) (J := fun j e => ∃ (ms' : List Int) (y : Int) (e5 : Sl), e = [s, .own none (iL ms'), d2, .sh (.int y), d4, e5, d6] ∧ ms'.length ≤ ms.length + j) (ds := rangeD 0 60) (k := 0)
    (e := [s, .own none (iL ms), d2, .sh (.int x), d4, d5, d6]) (fun d _ j e hj ⟨ms', y, e5, he, hl⟩ => by
      subst he
      rw [rangeD_length] at hj
      by_cases hy : 0 < y
      · refine ⟨[s, .own none (iL (ms' ++ [y.fmod 997])), d2, .sh (.int (y.fdiv 997)), d4, .sh d, d6], .inl ?_, _, _, _, rfl, by simp; omega⟩
        have : ms'.length < sizeLine := by
          unfold sizeLine
          omega
        simp [drawsL1, hy, this, fdivG_small, iL]
      · refine ⟨[s, .own none (iL ms'), d2, .sh (.int y), d4, .sh d, d6], .inl ?_, _, _, _, rfl, by omega⟩
        simp [drawsL1, hy]) ⟨ms, x, d5, rfl, by omega⟩
  refine ⟨ms', y, e5, ?_, by rw [rangeD_length] at h2; omega⟩
  unfold drawsF1
  generalize hz : drawsL1 = z at h1 ⊢
  exact (for_ok (range1_ok (j := 60) (e' := [s, .own none (iL ms), d2, .sh (.int x), d4, d5, d6]) (by simp) (by omega) (by omega))).trans h1
theorem step_a (F : Mo Out) (pw : Mo Rv) (m : Int) (hp : ∀ e, pw e = .ok (.sh (.int m)) e) {s d2 d3 d4 d5 d6 : Sl} {c : Int} {ms : List Int} (l1 : ms.length < sizeLine) (l2 : ms.length + 1 < sizeLine) (hc : (c.natAbs : Int) < m) : thenU (toSlot 2 (.int c)) (drawsL2g pw F) [s, .own none (iL ms), d2, d3, d4, d5, d6] = F [s, .own none (iL (ms ++ [((((c.natAbs : Int) * 48271 + 11).fmod 2147483647) * 69621 + c.natAbs).fmod 2147483629, ((((c.natAbs : Int) * 48271 + 11).fmod 2147483647) + (c.natAbs : Int).fdiv 7).fmod 1000003])), .sh (.int c), .sh (.int 0), .sh (.int (((c.natAbs : Int) * 48271 + 11).fmod 2147483647)), d5, d6] := by
  simp [drawsL2g, hp, hc, mulG_right, fdivG_small, l1, l2, iL]
theorem step_b (F : Mo Out) (pw : Mo Rv) (m : Int) (hp : ∀ e, pw e = .ok (.sh (.int m)) e) {s d2 d3 d4 d5 d6 : Sl} {c : Int} {ms : List Int} (hc : ¬ (c.natAbs : Int) < m) : thenU (toSlot 2 (.int c)) (drawsL2g pw F) [s, .own none (iL ms), d2, d3, d4, d5, d6] = F [s, .own none (iL ms), .sh (.int c), .sh (.int (c.natAbs : Int)), d4, d5, d6] := by
  simp [drawsL2g, hp, hc]
theorem draws2 {s d2 d3 d4 d5 d6 : Sl} {c : Int} {ms : List Int} (h : ms.length < 2 ^ 19) :
    ∃ (ms' : List Int) (e3 e4 e5 : Sl), (thenU (toSlot 2 (.int c)) drawsL2 [s, .own none (iL ms), d2, d3, d4, d5, d6] : Res Out) = .ok .nx [s, .own none (iL ms'), .sh (.int c), e3, e4, e5, d6] ∧ ms'.length ≤ ms.length + 62 := by
  have l1 : ms.length < sizeLine := by unfold sizeLine; omega
  have l2 : ms.length + 1 < sizeLine := by unfold sizeLine; omega
  by_cases hc : (c.natAbs : Int) < 1000000000000000000
  · obtain ⟨ms', y, e5, h1, h2⟩ := draws1 (s := s) (d2 := .sh (.int c)) (d4 := .sh (.int (((c.natAbs : Int) * 48271 + 11).fmod 2147483647))) (d5 := d5) (d6 := d6) (x := 0)
      (ms := ms ++ [((((c.natAbs : Int) * 48271 + 11).fmod 2147483647) * 69621 + c.natAbs).fmod 2147483629, ((((c.natAbs : Int) * 48271 + 11).fmod 2147483647) + (c.natAbs : Int).fdiv 7).fmod 1000003]) (by simp; omega) rfl
    refine ⟨ms', .sh (.int y), .sh (.int (((c.natAbs : Int) * 48271 + 11).fmod 2147483647)), e5, ?_, by simp at h2; omega⟩
    rw [← h1]
    exact step_a _ _ 1000000000000000000 (fun e => by rw [pow18F]; rfl) l1 l2 hc
  · obtain ⟨ms', y, e5, h1, h2⟩ := draws1 (s := s) (d2 := .sh (.int c)) (d3 := .sh (.int (c.natAbs : Int))) (d4 := d4) (d5 := d5) (d6 := d6) (ms := ms) (by omega) rfl
    refine ⟨ms', .sh (.int y), d4, e5, ?_, by omega⟩
    rw [← h1]
    exact step_b _ _ 1000000000000000000 (fun e => by rw [pow18F]; rfl) hc
theorem draws3 {s d2 d3 d4 d5 : Sl} {x : Int} {d : PyData} {ms : List Int} (h : ms.length < 2 ^ 20) :
    ∃ (ms' : List Int) (y : Int), (thenU (toSlot 5 d) drawsL3 [s, .own none (iL ms), d2, d3, d4, d5, .sh (.int x)] : Res Out) = .ok .nx [s, .own none (iL ms'), d2, d3, d4, .sh d, .sh (.int y)] ∧ ms'.length ≤ ms.length + 1 := by
  have l1 : ms.length < sizeLine := by unfold sizeLine; omega
  refine ⟨ms ++ [((x * 48271 + 69621).fmod 2147483647).fdiv 5], (x * 48271 + 69621).fmod 2147483647, ?_, by simp⟩
  simp [mulG_right, fdivG_small, l1, iL]
theorem draws_ok (ns : List Int) (hl : ns.length ≤ 63) : ∃ ms : List Int, ms.length < 2 ^ 20 ∧ runF 7 drawsB [scrD ns] = .ok (.fr (iL ms)) := by
  obtain ⟨e1, h1, ms1, d2, d3, d4, d5, rfl, l1⟩ := loop_inv (T := toSlot 2) (B := drawsL2) (ds := iL ns) (k := 0)
    (J := fun j e => ∃ (ms : List Int) (d2 d3 d4 d5 : Sl), e = [.sh (scrD ns), .own none (iL ms), d2, d3, d4, d5, .un] ∧ ms.length ≤ j * 62) (e := [.sh (scrD ns), .own none (iL []), .un, .un, .un, .un, .un])
    (fun d hd j e hj ⟨ms, d2, d3, d4, d5, he, hm⟩ => by
      subst he
      obtain ⟨c, -, rfl⟩ := List.mem_map.mp hd
      rw [iL_length] at hj
      obtain ⟨ms', e3, e4, e5, g1, g2⟩ := draws2 (s := .sh (scrD ns)) (d2 := d2) (d3 := d3) (d4 := d4) (d5 := d5) (d6 := .un) (c := c) (ms := ms) (by omega)
      exact ⟨_, .inl g1, ms', _, _, _, _, rfl, by omega⟩) ⟨[], .un, .un, .un, .un, rfl, by simp⟩
  rw [iL_length] at l1
  have hd : ∃ x : Int, (ifF (boolF (binF gtG (callBF lenG (consF (readF 0) (nilF))) (constF (.int 0)))) (setF 6 (binF addG (constF (.int 1)) (callBF absG (consF (binF itemG (readF 0) (constF (.int 0))) (nilF))))) (skipF) : Mo Out)
      [.sh (scrD ns), .own none (iL ms1), d2, d3, d4, d5, .sh (.int 1)] = .ok .nx [.sh (scrD ns), .own none (iL ms1), d2, d3, d4, d5, .sh (.int x)] := by
    cases ns with
    | nil => exact ⟨1, by simp [scrD]⟩
    | cons n ns => exact ⟨1 + n.natAbs, by simp [scrD, atI_cons]⟩
  obtain ⟨x, hx⟩ := hd
  obtain ⟨e2, h2, ms2, y, d7, rfl, l2⟩ := loop_inv (T := toSlot 5) (B := drawsL3) (ds := rangeD 0 900) (k := 0)
    (J := fun j e => ∃ (ms : List Int) (y : Int) (d7 : Sl), e = [.sh (scrD ns), .own none (iL ms), d2, d3, d4, d7, .sh (.int y)] ∧ ms.length ≤ ms1.length + j) (e := [.sh (scrD ns), .own none (iL ms1), d2, d3, d4, d5, .sh (.int x)])
    (fun d hd j e hj ⟨ms, y, d7, he, hm⟩ => by
      subst he
      rw [rangeD_length] at hj
      obtain ⟨ms', z, g1, g2⟩ := draws3 (s := .sh (scrD ns)) (d2 := d2) (d3 := d3) (d4 := d4) (d5 := d7) (x := y) (d := d) (ms := ms) (by omega)
      exact ⟨_, .inl g1, ms', _, _, rfl, by omega⟩) ⟨ms1, x, d5, rfl, by omega⟩
  rw [rangeD_length] at l2
  refine ⟨ms2.reverse, by rw [List.length_reverse]; omega, ?_⟩
  have s1 : (setF 1 (lstF nilF) : Mo Out) (env0 7 ([scrD ns].map .sh)) = .ok .nx [.sh (scrD ns), .own none (iL []), .un, .un, .un, .un, .un] := by simp [iL]
  have s2 : (forF (seqI (readF 0)) (toSlot 2) drawsL2 : Mo Out) [.sh (scrD ns), .own none (iL []), .un, .un, .un, .un, .un] = .ok .nx [.sh (scrD ns), .own none (iL ms1), d2, d3, d4, d5, .un] := by
    rw [← h1]
    rfl
  have s3 : (setF 6 (constF (.int 1)) : Mo Out) [.sh (scrD ns), .own none (iL ms1), d2, d3, d4, d5, .un] = .ok .nx [.sh (scrD ns), .own none (iL ms1), d2, d3, d4, d5, .sh (.int 1)] := by simp
  have s5 : (forF (range1I (consF (constF (.int 900)) (nilF))) (toSlot 5) drawsL3 : Mo Out) [.sh (scrD ns), .own none (iL ms1), d2, d3, d4, d5, .sh (.int x)] = .ok .nx [.sh (scrD ns), .own none (iL ms2), d2, d3, d4, d7, .sh (.int y)] :=
    (for_ok (range1_ok (j := 900) (e' := [.sh (scrD ns), .own none (iL ms1), d2, d3, d4, d5, .sh (.int x)]) (by simp) (by omega) (by omega))).trans h2
  unfold runF drawsB
  rw [seq_nx s1, seq_nx s2, seq_nx s3, seq_nx hx, seq_nx s5]
  simp [iL]
theorem take_ok (ms : List Int) (b : Int) (hb : b ≠ 0) : ∃ (r : Int) (ms' : List Int), runL 2 takeB (iL ms) [.int b] = .ok (.sh (.int r)) (iL ms') ∧ (0 < b → 0 ≤ r ∧ r < b) := by
  cases hm : ms.getLast? with
  | none =>
    have : ms = [] := List.getLast?_eq_none_iff.mp hm
    subst this
    exact ⟨0, [], by simp [runL, takeB, iL, eqG_int], fun h => ⟨by omega, h⟩⟩
  | some x =>
    refine ⟨x.fmod b, ms.dropLast, ?_, fun h => ⟨Int.fmod_nonneg_of_pos _ h, Int.fmod_lt_of_pos _ h⟩⟩
    have hne : ms ≠ [] := fun z => by rw [z] at hm; cases hm
    simp [runL, takeB, iL, eqG_int, hne, hm, hb]
/-- a draw within a bound -/
theorem take_ex (ms : List Int) (b : Int) (hb : 0 < b) : ∃ (r : Int) (ms' : List Int), runL 2 takeB (iL ms) [.int b] = .ok (.sh (.int r)) (iL ms') ∧ 0 ≤ r ∧ r < b := by
  obtain ⟨r, ms', h, k⟩ := take_ok ms b (by omega)
  exact ⟨r, ms', h, k hb⟩
theorem says_ok (a b : Bool) : runF 2 saysB [.bool a, .bool b] = .ok (.sh (.bool (a == b))) := by
  simp [runF, saysB, eqG_bool]
/-- data that _law_alike can go through: no table; n levels -/
inductive Deepn : Nat → PyData → Prop
  | int {n : Nat} (i : Int) : Deepn (n + 1) (.int i)
  | bool {n : Nat} (b : Bool) : Deepn (n + 1) (.bool b)
  | str {n : Nat} (x : Str) (h : PyData.strOk x = true) : Deepn (n + 1) (.str x)
  | non {n : Nat} : Deepn (n + 1) .none
  | tup {n : Nat} {ds : List PyData} : ds.length < 2 ^ 24 → (∀ d ∈ ds, Deepn n d) → Deepn (n + 1) (.tuple ds)
  | lst {n : Nat} {ds : List PyData} : ds.length < 2 ^ 24 → (∀ d ∈ ds, Deepn n d) → Deepn (n + 1) (.list ds)
theorem alike_t {ds : List PyData} (Q : Mo Rv) (hq : Q [.sh (.tuple ds), .sh (.tuple ds), .un] = .ok (.fr []) [.sh (.tuple ds), .sh (.tuple ds), .un]) : runF 3 (alikeG Q) [.tuple ds, .tuple ds] = .ok (.sh (.bool true)) := by
  simp [runF, alikeG, neG_bool, hq, eqG_int, eqG_nil0]
theorem alike_l {ds : List PyData} (Q : Mo Rv) (hq : Q [.sh (.list ds), .sh (.list ds), .un] = .ok (.fr []) [.sh (.list ds), .sh (.list ds), .un]) : runF 3 (alikeG Q) [.list ds, .list ds] = .ok (.sh (.bool true)) := by
  simp [runF, alikeG, neG_bool, hq, eqG_int, eqG_nil0]
theorem alike_list {f : List PyData → FnR} {n : Nat} {w : List PyData → PyData} (hw : w = .tuple ∨ w = .list) {ds : List PyData} (hl : ds.length < 2 ^ 24) (h : ∀ d ∈ ds, f [d, d] = .ok (.sh (.bool true))) : runF 3 (alikeB f) [w ds, w ds] = .ok (.sh (.bool true)) := by
  have hq : alikeQ f [.sh (w ds), .sh (w ds), .un] = .ok (.fr []) [.sh (w ds), .sh (w ds), .un] := by
    have := lc_one (v := 2) (Io := range1I (consF (callBF lenG (consF (readF 1) (nilF))) (nilF))) (C := notF (truthF (callF 2 f (consF (binF itemG (readF 0) (readF 2)) (consF (binF itemG (readF 1) (readF 2)) (nilF)))))) (F := readF 2)
      (e := [.sh (w ds), .sh (w ds), .un]) (ds := rangeD 0 ds.length) (fun _ => false) id (by
        have := range1_ok (Fs := consF (callBF lenG (consF (readF 1) (nilF))) (nilF)) (e := [.sh (w ds), .sh (w ds), .un]) (e' := [.sh (w ds), .sh (w ds), .un]) (j := ds.length) (by rcases hw with rfl | rfl <;> simp) (by omega) (by omega)
        rw [this]
        rfl) (by simp) rfl (by rw [rangeD_length]; unfold sizeLine; omega)
      (fun d hd => by
        obtain ⟨k, hk, rfl⟩ := mem_rangeD.mp hd
        have e : atI ds (0 + (k : Int)) = some ds[k] := by
          rw [atI_nat (by omega) (by omega)]
          simp [List.getElem?_eq_getElem hk]
        rcases hw with rfl | rfl <;> simp [e, h ds[k] (List.getElem_mem hk)]
        · simp at e
          simp [e, h ds[k] (List.getElem_mem hk)]
        · simp at e
          simp [e, h ds[k] (List.getElem_mem hk)]) (fun _ _ z => by cases z)
    rw [List.filter_eq_nil_iff.mpr (by simp)] at this
    exact this
  rcases hw with rfl | rfl
  · exact alike_t _ hq
  · exact alike_l _ hq
theorem alike_refl : ∀ (n : Nat) (d : PyData), Deepn n d → alikeF n [d, d] = .ok (.sh (.bool true))
  | _, _, .int i => by simp [alikeF, runF, alikeB, alikeG, eqG_int]
  | _, _, .bool b => by simp [alikeF, runF, alikeB, alikeG, eqG_bool]
  | _, _, .str x h => by simp [alikeF, runF, alikeB, alikeG, eqG, eqOk, PyData.canLay0, PyData.depth, PyData.eqv, h]
  | _, _, .non => by simp [alikeF, runF, alikeB, alikeG]
  | n + 1, _, .tup hl h => alike_list (n := n) (.inl rfl) hl fun d hd => alike_refl n d (h d hd)
  | n + 1, _, .lst hl h => alike_list (n := n) (.inr rfl) hl fun d hd => alike_refl n d (h d hd)
end
end Cf
/-! Cf, part Q: generator expressions that all, any consume. -/
namespace Cf
open PySem PySem.Spec PyProof.Rows L2 GenW

/-! ### the generator's context -/
abbrev genC (X : Cx) (A1 : Around) (s : Shared) (H : Hp) (scope : Scope) (N : List Str) (cenv : Env) (fp : List Addr) (pn : List (Addr × Obj)) : Cx :=
  { X with A := A1.deeper cenv, N := N, s_0 := s, H_0 := H, env := cenv, outer := X.stack, stack := cenv :: X.stack, ex := fp, fn := fun _ => false, calm := true, pn := pn, xe := fun _ _ => False }
structure GenOk (M : List Str) (sc scope : Scope) (N : List Str) (ixs : List Nat) (m : Nat) : Prop where
  kind : scope.kind = .function
  co : scope.isCoroutine = false
  cell : ∀ y ∈ scope.names, y.2 ≠ .cell
  dot : scope.names.lookup (".0" : Str) = some NameKind.local
  uniq : ∀ y ∈ scope.names, scope.names.lookup y.1 = some y.2
  free : ∀ y ∈ scope.names, y.2 = .free → sc.names.lookup y.1 = some .cell ∨ sc.names.lookup y.1 = some .free
  len : N.length = ixs.length + m
  cap : ∀ (j i : Nat), ixs[j]? = some i → ∃ x, M[i]? = some x ∧ N[j]? = some x ∧ scope.names.lookup x = some .free
def genOkB (M : List Str) (sc scope : Scope) (N : List Str) (ixs : List Nat) (m : Nat) : Bool :=
  (match scope.kind with | .function => true | _ => false) && !scope.isCoroutine && (scope.names.all fun y => match y.2 with | .cell => false | _ => true) && decide (scope.names.lookup (".0" : Str) = some NameKind.local) &&
    (scope.names.all fun y => decide (scope.names.lookup y.1 = some y.2)) &&
    (scope.names.all fun y => match y.2 with
      | .free => (match sc.names.lookup y.1 with | some .cell => true | some .free => true | _ => false)
      | _ => true) && decide (N.length = ixs.length + m) &&
    ((List.range ixs.length).all fun j => match ixs[j]? with
      | some i => (match M[i]? with
        | some x => decide (N[j]? = some x) && decide (scope.names.lookup x = some .free)
        | none => false)
      | none => false)
theorem genOk_by {M : List Str} {sc scope : Scope} {N : List Str} {ixs : List Nat} {m : Nat} (h : genOkB M sc scope N ixs m = true) : GenOk M sc scope N ixs m := by
  unfold genOkB at h
  simp only [Bool.and_eq_true, List.all_eq_true, decide_eq_true_eq, Bool.not_eq_true'] at h
  obtain ⟨⟨⟨⟨⟨⟨⟨h1, h2⟩, h3⟩, h4⟩, h5⟩, h6⟩, h7⟩, h8⟩ := h
  refine ⟨?_, h2, fun y hy e => ?_, h4, h5, fun y hy e => ?_, h7, fun j i e => ?_⟩
  · split at h1
    · assumption
    · cases h1
  · have q := h3 y hy
    rw [e] at q
    cases q
  · have q := h6 y hy
    simp only [e] at q
    split at q <;> first | exact .inl (by assumption) | exact .inr (by assumption) | cases q
  · have q := h8 j (List.mem_range.mpr (List.getElem?_eq_some_iff.mp e).1)
    rw [e] at q
    simp only at q
    cases z : M[i]? with
    | none => rw [z] at q; cases q
    | some x =>
      rw [z] at q
      simp only [Bool.and_eq_true, decide_eq_true_eq] at q
      exact ⟨x, rfl, q.1, q.2⟩

/-- what it sees: captured slots (lists stand still meanwhile), then its own names -/
def frz1 : Sl → Sl
  | .own _ ds => .sh (.list ds)
  | s => s
def capE (ixs : List Nat) (m : Nat) (e : Fv) : Fv := ixs.map (fun i => frz1 ((e[i]?).getD .un)) ++ List.replicate m .un
def capS (ixs : List Nat) (m : Nat) (σ : L2.St) : L2.St := ixs.map (fun i => (σ[i]?).join) ++ List.replicate m none
theorem capE_get {ixs : List Nat} {m : Nat} {e : Fv} {j : Nat} {sl : Sl} (h : (capE ixs m e)[j]? = some sl) : sl = .un ∨ ∃ i, ixs[j]? = some i ∧ sl = frz1 ((e[i]?).getD .un) := by
  unfold capE at h
  by_cases hj : j < ixs.length
  · rw [List.getElem?_append_left (by simpa using hj), List.getElem?_map, List.getElem?_eq_getElem hj] at h
    cases h
    exact .inr ⟨_, List.getElem?_eq_getElem hj, rfl⟩
  · rw [List.getElem?_append_right (by simpa using hj), List.getElem?_replicate] at h
    split at h <;> cases h
    exact .inl rfl
theorem capS_at {ixs : List Nat} {m : Nat} {σ : L2.St} {j i : Nat} (h : ixs[j]? = some i) : (capS ixs m σ)[j]? = some ((σ[i]?).join) := by
  unfold capS
  have hj := (List.getElem?_eq_some_iff.mp h).1
  rw [List.getElem?_append_left (by simpa using hj), List.getElem?_map, h]
  rfl
theorem capS_get {ixs : List Nat} {m : Nat} {σ : L2.St} {j : Nat} {v : V} (h : (capS ixs m σ)[j]? = some (some v)) : ∃ i, ixs[j]? = some i ∧ σ[i]? = some (some v) := by
  unfold capS at h
  by_cases hj : j < ixs.length
  · rw [List.getElem?_append_left (by simpa using hj), List.getElem?_map, List.getElem?_eq_getElem hj] at h
    have h' : (σ[ixs[j]]?).join = some v := Option.some.inj h
    refine ⟨_, List.getElem?_eq_getElem hj, ?_⟩
    cases z : σ[ixs[j]]? with
    | none => rw [z] at h'; cases h'
    | some o => rw [z] at h'; cases h'; rfl
  · rw [List.getElem?_append_right (by simpa using hj), List.getElem?_replicate] at h
    split at h <;> cases h

section
variable {X : Cx} {pins : List (Addr × Obj)} {σ : L2.St} {H : Hp} {s : Shared}
theorem gen_start {scope : Scope} {N : List Str} {ixs : List Nat} {m : Nat} {fp : List Addr} {A1 : Around} {code : Value} {a : Addr} {go : Obj} {m0 : Str → Option Value} {h5 : Heap} {g5 : Array GenState} {t5 : Nat}
    (I : Inv X pins σ H s) (ok : GenOk X.N X.env.scope scope N ixs m) (hh : A1.handled = none) (hfr : A1.frames = some X.stack) (hfp : ∀ b ∈ fp, FpOk X pins H b ∧ b < s.heap.objs.size)
    (hn : h5.Ns s.heap.objs.size m0) (kp : ∀ b o, s.heap.get? b = some o → h5.get? b = some o) (ha : h5.get? a = some go) (haC : s.heap.objs.size < a) (hgo : ∀ v, go.data ≠ .cell v) (hg5 : AllBare g5) :
    Inv (genC X A1 s H scope N (genEnv scope (cloFrom X.env.cells scope.names []) s.heap.objs.size code builtinsNs X.env) fp [(a, go)]) [] (capS ixs m σ) H { s with heap := h5, gens := g5, toks := t5 } := by
  have cm : ∀ {y c}, (y, c) ∈ cloFrom X.env.cells scope.names [] → X.env.cells.lookup y = some c ∧ c < s.heap.objs.size := fun {y c} hm => by
    rcases cloFrom_mem hm with hm | ⟨h1, rfl⟩
    · cases hm
    · obtain ⟨c, hc⟩ : ∃ c, X.env.cells.lookup y = some c := by
        rcases ok.free _ h1 rfl with k | k
        · exact I.ok.has _ (.inl k)
        · exact I.ok.has _ (.inr k)
      rw [hc]
      obtain ⟨w, z⟩ := I.cell _ _ hc
      exact ⟨rfl, z.lt⟩
  have mem : ∀ {y c}, (cloFrom X.env.cells scope.names []).lookup y = some c → X.env.cells.lookup y = some c ∧ c < s.heap.objs.size := fun {y c} e => cm (PySem.mem_of_lookup e)
  have look : ∀ {y}, scope.names.lookup y = some .free → ∃ c, (cloFrom X.env.cells scope.names []).lookup y = some c ∧ X.env.cells.lookup y = some c := fun {y} hl => by
    obtain ⟨c', e'⟩ := mem_lookup (cloFrom_has (cells := X.env.cells) (acc := []) (PySem.mem_of_lookup hl))
    exact ⟨c', e', (mem e').1⟩
  refine ⟨⟨I.ok.mod, ok.kind, I.ok.glob, rfl, Nat.le_refl _, fun y z c e1 e2 => I.ok.inj y z c (mem e1).1 (mem e2).1, fun y hy => ?_, fun y c z _ => (by cases z), fun _ => hh, Around.frames_deeper hfr, .inr ⟨rfl, rfl⟩,
    fun b hb => ⟨Nat.ne_of_lt (hfp b hb).2, fun y c e z => (hfp b hb).1.2.2.2.2.1 y c (mem e).1 z⟩, I.bs, Nat.le_trans I.ok.bsz I.sz, fun b o e hb => ?_, fun b hb z => ?_, I.stack, I.stkFree⟩,
    rfl, hg5, Un.kept kp, ⟨m0, hn, fun i y av e1 e2 e3 => ?_⟩, fun y c e => ?_, I.hok.fresh (Nat.le_refl _), fun y c e => I.freeC y c (mem e).1, fun p hp => ?_, I.hok.kept kp, ?_⟩
  · have hy' : scope.names.lookup y = some .cell ∨ scope.names.lookup y = some .free := hy
    rcases hy' with hy' | hy'
    · exact absurd rfl (ok.cell _ (PySem.mem_of_lookup hy'))
    · obtain ⟨c, h1, _⟩ := look hy'
      exact ⟨c, h1⟩
  · rcases (hfp b hb).1.2.2.2.1 with z | z
    · exact I.ok.noex b o e z
    · exact absurd (Nat.lt_of_lt_of_le (Heap.lt_size e) (Nat.le_trans I.ok.bsz z)) (Nat.lt_irrefl _)
  · rcases List.mem_cons.mp (I.stkSub b z) with z | z
    · exact (hfp b hb).1.2.1 z
    · exact (hfp b hb).1.2.2.1 z
  · obtain ⟨k, h1, h2⟩ := capS_get e2
    obtain ⟨x, k1, k2, k3⟩ := ok.cap _ _ h1
    have e1' : N[i]? = some y := e1
    rw [k2] at e1'
    cases e1'
    obtain ⟨m1, _, hl⟩ := I.loc
    have hfree := ok.free _ (PySem.mem_of_lookup k3) rfl
    obtain ⟨w, r, q⟩ := hl k y av k1 h2 (hfree.elim (fun z => .inr (.inl z)) fun z => .inr (.inr z))
    refine ⟨w, r, .inr ⟨.inr k3, ?_⟩⟩
    obtain ⟨c, c1, c2⟩ := look k3
    rcases q with ⟨z, _⟩ | ⟨_, c', e', z⟩
    · have z' : X.env.scope.names.lookup y = some .local := z
      rcases hfree with k' | k' <;> rw [show X.env.scope.names.lookup y = _ from k'] at z' <;> cases z'
    · rw [c2] at e'
      cases e'
      exact ⟨c, c1, z.keeps kp⟩
  · obtain ⟨w, z⟩ := I.cell y c (mem e).1
    exact ⟨w, z.keeps kp⟩
  · have e : p = (a, go) := by simpa using hp
    subst e
    exact ⟨ha, I.hok.fresh (Nat.le_of_lt haC), Nat.ne_of_gt haC, fun z => by
      have hz : s.heap.objs.size ≤ a := Nat.le_of_lt haC
      rcases List.mem_cons.mp (I.stkSub a z) with y | y
      · exact absurd (Nat.lt_of_lt_of_le I.lt hz) (by rw [y]; exact Nat.lt_irrefl _)
      · exact I.nofs hz y, hgo⟩
  · show (capS ixs m σ).length = N.length
    unfold capS
    rw [ok.len]
    simp
end

/-! ### the functions -/
def quantL (stop : Bool) (T : PyData → Mo Unit) (C B : Mo Bool) : List PyData → Mo Bool
  | [] => pure (!stop)
  | d :: ds => thenU (T d) do
    let c ← C
    if c = true then do
      let b ← B
      if b = stop then pure stop else quantL stop T C B ds
    else quantL stop T C B ds
def inGen {α : Type} (ixs : List Nat) (m : Nat) (M : Mo α) : Mo α := fun e => match M (capE ixs m e) with
  | .ok a _ => .ok a e
  | _ => .stuck
def quantF (stop : Bool) (ixs : List Nat) (m : Nat) (I : Mo (List PyData)) (T : PyData → Mo Unit) (C B : Mo Bool) : Mo Bool := do
  let ds ← I
  inGen ixs m (quantL stop T C B ds)
theorem wpM_inGen {α : Type} {ixs : List Nat} {m : Nat} {M : Mo α} {env : Fv} {Q : α → Fv → Prop} {E : Nat → Fv → Prop} (w : wpM (inGen ixs m M) env Q E) : wpM M (capE ixs m env) (fun a _ => Q a env) (fun _ _ => False) := by
  unfold wpM inGen at w
  unfold wpM
  cases q : M (capE ixs m env) with
  | ok a e => simp only [q] at w; exact w
  | exc c e => simp only [q] at w
  | stuck => simp only [q] at w

section
variable {K : PySem.W.Frag} {fr : Fr} {env : Fv} {σ : L2.St} {H G : Hp}
/-- a table has grown -/
theorem SR.grow (h : SR K fr env σ H G) {P : Addr} {ps qs : Array Value} (hP : P ∈ fr.tabs) (ht : TriplesOk qs.toList) : SR K fr env σ (upd H P (.tbl qs)) G := by
  obtain ⟨⟨ps, e, _⟩, g⟩ := h.tab P hP
  have ne : ∀ b xs, H b = some (.lst xs) → b ≠ P := fun b xs z y => by rw [y, e] at z; cases z
  refine ⟨fun b o z => ?_, fun b o z => ?_, h.dj, fun P' hP' => ?_, h.pt, fun a ha => ?_, h.len, fun i sl z => ?_, h.dist⟩
  · rw [upd_ne (ne_of_none z g)]; exact h.sub b o z
  · rw [upd_ne (ne_of_none z (h.pt P hP))]; exact h.prot b o z
  · by_cases hb : P' = P
    · subst hb; exact ⟨⟨qs, upd_same, ht⟩, g⟩
    · obtain ⟨⟨ps', e', t'⟩, g'⟩ := h.tab P' hP'
      exact ⟨⟨ps', by rw [upd_ne hb]; exact e', t'⟩, g'⟩
  · by_cases hb : a = P
    · rw [hb, upd_same]; simp
    · rw [upd_ne hb]; exact h.lent a ha
  · have q := h.slots i sl z
    cases sl with
    | un => trivial
    | sh d => exact q
    | own t ds =>
      obtain ⟨a, xs, e1, e2, r⟩ := q
      exact ⟨a, xs, e1, by rw [upd_ne (ne a xs e2)]; exact e2, r⟩
/-- the relation as the generator begins -/
theorem SR.cap (h : SR K fr env σ H G) (ixs : List Nat) (m : Nat) : SR K ⟨privOf fr.tabs (fun _ => False) H (lay G H (ownA env σ)), [], fr.tabs, fun _ _ => False⟩ (capE ixs m env) (capS ixs m σ) H (lay G H (ownA env σ)) := by
  refine ⟨h.laySub, fun b o e => (privOf_some (tabs := fr.tabs) (ex := fun _ => False) e).1, fun b e => ?_, h.tabLay, fun P hP => by show privOf fr.tabs (fun _ => False) H _ P = none; unfold privOf; rw [if_neg (fun z => z.2.1 hP)], fun a ha => absurd ha (by simp), ?_, fun j sl e => ?_, fun i j t t' es es' a _ ei => ?_⟩
  · cases z : privOf fr.tabs (fun _ => False) H (lay G H (ownA env σ)) b with
    | none => exact absurd z e
    | some o => exact (privOf_some (ex := fun _ => False) z).2
  · unfold capE capS
    simp
  · rcases capE_get e with rfl | ⟨i, hi, rfl⟩
    · trivial
    · rw [capS_at hi]
      cases z : env[i]? with
      | none => trivial
      | some sl =>
        have q := h.slots i sl z
        cases sl with
        | un => trivial
        | sh d =>
          obtain ⟨x, e1, e2⟩ := q
          exact ⟨x, e1, Sub.dq h.subLay _ _ e2⟩
        | own t ds =>
          obtain ⟨b, xs, e1, e2, e3, _⟩ := h.ownAt z
          refine ⟨.ref b, by rw [e1]; rfl, .lst ?_ (Sub.dqAll h.subLay _ _ e3)⟩
          unfold lay
          rw [if_pos (ownA_iff.mpr ⟨i, t, ds, z, e1⟩)]
          exact e2
  · rcases capE_get ei with z | ⟨k, _, z⟩
    · cases z
    · exfalso
      cases y : (env[k]?).getD .un <;> rw [y] at z <;> cases z
end
end Cf
/-! Cf, part R: a generator expression's run. -/
namespace Cf
open PySem PySem.Spec PyProof.Rows L2 GenW

theorem over_comp {A : Around} {elt : Expr} {gs : List Comprehension} {scope : Scope} {pos : Pos} {it acc : Value} {env : Env} : A.over (.compLoop (.GeneratorExp elt gs scope pos) 0 it acc env) [] = A.deeper env := by
  first
    | rfl
    | (obtain ⟨hd, d, fr, gs, u⟩ := A; simp [Around.over, Around.deeper, marksOver, frameCount, unitsOf, envsOf, guardsOf, pushEnvs, pushGuards, Code.envs, Code.env?, Code.isFrame, Code.guards, Code.isGuard, Code.weight, Code.frames, Code.isCreation, Code.isCaller, Code.cUnits])
theorem over_comp0 {A : Around} {elt : Expr} {gs : List Comprehension} {scope : Scope} {pos : Pos} {it acc : Value} {env : Env} : A.over (.compStart (.GeneratorExp elt gs scope pos) 0 it acc env) [] = A.deeper env := by
  first
    | rfl
    | (obtain ⟨hd, d, fr, gs, u⟩ := A; simp [Around.over, Around.deeper, marksOver, frameCount, unitsOf, envsOf, guardsOf, pushEnvs, pushGuards, Code.envs, Code.env?, Code.isFrame, Code.guards, Code.isGuard, Code.weight, Code.frames, Code.isCreation, Code.isCaller, Code.cUnits])

/-- the run has come to b -/
def GFin (X' : Cx) (fr' : Fr) (G0 : Hp) (Qb : Bool → Prop) (b : Bool) (s : Shared) : Prop := Qb b ∧ ∃ σ H G env, Inv X' [] σ H s ∧ SR X'.K fr' env σ H G ∧ Sub G0 G
def GRest (stop : Bool) (X' : Cx) (fr' : Fr) (G0 : Hp) (Qb : Bool → Prop) : GenEnd := fun _ _ r s => r = .ok .next ∧ GFin X' fr' G0 Qb (!stop) s
structure Slp (s s' : Shared) : Prop where
  os : s'.os = s.os
  bare : AllBare s'.gens
  heap : s'.heap = s.heap
def GItem (stop : Bool) (X' : Cx) (fr' : Fr) (G0 : Hp) (Qb : Bool → Prop) (a : Addr) (g : Nat) : Protocol := fun _ _ v s kap =>
  s.heap.NoLimit ∧ s.heap.IsGen a g ∧ AllBare s.gens ∧ ∃ b, v = .bool b ∧ (b = stop → GFin X' fr' G0 Qb stop s) ∧ (b ≠ stop → ∀ s', Slp s s' → kap (.send .none) s')
theorem Inv.slp {X : Cx} {pins : List (Addr × Obj)} {σ : L2.St} {H : Hp} {s s' : Shared} (I : Inv X pins σ H s) (z : Slp s s') : Inv X pins σ H s' := by
  obtain ⟨z1, z2, z3⟩ := z
  refine I.call' (ch := []) z1 (Un.kept fun b o e => by rw [z3]; exact e) (I.hok.kept fun b o e => by rw [z3]; exact e) z2 fun b z => by simp at z

section
variable {X : Cx} {A1 : Around} {s4 : Shared} {H4 : Hp} {scope : Scope} {N : List Str} {cenv : Env} {fp : List Addr} {a : Addr} {go : Obj} {tg elt iter : Expr} {ifs : List Expr} {pos : Pos} {it : Addr} {J : It} {tn : Nat → Heap → Prop} {ws : List Nat}
  {T : PyData → Mo Unit} {C B : Mo Bool} {p' : Hp} {tabs : List Addr} {G0 : Hp} {ds : List PyData} {Qb : Bool → Prop} {stop : Bool} {g : Nat}
theorem seg_quant (hco : cenv.scope.isCoroutine = false) (hgen : ∀ h : Heap, h.get? a = some go → h.IsGen a g) (TT : Turn X.prog X.w X.K tg J fp it tn) (io : ItOk X.K J G0 ds)
    (hg : PGv (genC X A1 s4 H4 scope N cenv fp [(a, go)]) ⟨p', [], tabs, fun _ _ => False⟩ tg ws T) (hc : PTsv (genC X A1 s4 H4 scope N cenv fp [(a, go)]) ⟨p', [], tabs, fun _ _ => False⟩ ifs C)
    (hb : PBv (genC X A1 s4 H4 scope N cenv fp [(a, go)]) ⟨p', [], tabs, fun _ _ => False⟩ elt B) :
    ∀ (k i n : Nat) (s₀ s : Shared) (env : Fv) (σ : L2.St) (H G : Hp), ds.length - i = k → k ≤ n → i ≤ ds.length → Inv (genC X A1 s4 H4 scope N cenv fp [(a, go)]) [] σ H s → tn i s.heap → (∀ b ∈ fp, FpOk (genC X A1 s4 H4 scope N cenv fp [(a, go)]) [] H b) →
      SR X.K ⟨p', [], tabs, fun _ _ => False⟩ env σ H G → Sub G0 G → wpM (quantL stop T C B (ds.drop i)) env (fun b _ => Qb b) (fun _ _ => False) →
      Seg (model X.prog X.w) A1 (GRest stop (genC X A1 s4 H4 scope N cenv fp [(a, go)]) ⟨p', [], tabs, fun _ _ => False⟩ G0 Qb) (GItem stop (genC X A1 s4 H4 scope N cenv fp [(a, go)]) ⟨p', [], tabs, fun _ _ => False⟩ G0 Qb a g) n s₀
        (.compLoop (.GeneratorExp elt [⟨tg, iter, ifs, 0⟩] scope pos) 0 (.ref it) .none cenv) ((model X.prog X.w).den (.compLoop (.GeneratorExp elt [⟨tg, iter, ifs, 0⟩] scope pos) 0 (.ref it) .none cenv)) [] s := by
  intro k
  induction k with
  | zero =>
    intro i n s₀ s env σ H G hk hn hi I st hf h sG w
    have hin : i = ds.length := by omega
    subst hin
    rw [List.drop_length] at w
    show Seg _ A1 _ _ _ s₀ _ ((compTurn (.GeneratorExp elt [⟨tg, iter, ifs, 0⟩] scope pos) 0 (.ref it) .none cenv).onRaise (leaving cenv)) [] s
    rw [compTurn_gen, Sem.onRaise_eq_wrap]
    refine seg_bind_wrap (wpAny_standAt ?_)
    refine seg_bind_wrap ?_
    rw [over_comp]
    refine wpAny_mono (TT.done (genC X A1 s4 H4 scope N cenv fp [(a, go)]) rfl rfl rfl rfl _ [] s σ H (fun _ _ => False) I hf st (io.stop H G sG h.sub)) (fun r s5 ⟨hr, I5⟩ => ?_) fun _ _ e => e.elim
    subst hr
    exact seg_end (.ok .next) ⟨rfl, w, σ, H, G, env, I5, h, sG⟩
  | succ k ih =>
    intro i n s₀ s env σ H G hk hn hi I st hf h sG w
    have hlt : i < ds.length := by omega
    have stat : ∀ {H' : Hp}, (∀ b ∈ fp, H' b = none) → ∀ b ∈ fp, FpOk (genC X A1 s4 H4 scope N cenv fp [(a, go)]) [] H' b := fun hn b hb => ⟨hn b hb, (hf b hb).2⟩
    rw [List.drop_eq_getElem_cons hlt] at w
    unfold quantL at w
    have w1 := wpM_T w
    show Seg _ A1 _ _ _ s₀ _ ((compTurn (.GeneratorExp elt [⟨tg, iter, ifs, 0⟩] scope pos) 0 (.ref it) .none cenv).onRaise (leaving cenv)) [] s
    rw [compTurn_gen, Sem.onRaise_eq_wrap]
    refine seg_bind_wrap (wpAny_standAt ?_)
    refine seg_bind_wrap ?_
    rw [over_comp]
    refine wpAny_mono (TT.item (genC X A1 s4 H4 scope N cenv fp [(a, go)]) rfl rfl rfl rfl i [] s σ H (fun _ _ => False) I hf st (io.go i H G sG h.sub hlt)) (fun r s4' ⟨u, hr, h4⟩ => ?_) fun _ _ e => e.elim
    subst hr
    refine seg_bind_wrap ?_
    rw [over_comp]
    refine wpAny_mono h4 (fun _ s5 ⟨x, H5, I5, r5, y5, st5, fr5⟩ => ?_) fun _ _ e => e.elim
    have I5' := I5.pinned (stat fr5) (TT.obj _ _ st5)
    obtain ⟨G5, d, e5, stp, q5⟩ := io.yld i H G x H5 sG h.sub hlt y5
    rw [List.getElem?_eq_getElem hlt] at e5
    cases e5
    refine seg_bind_wrap ?_
    rw [over_comp]
    refine wpAny_mono (hg.run _ s5 σ H5 x u (fun σ6 H6 => ∃ env6 G6, SR X.K ⟨p', [], tabs, fun _ _ => False⟩ env6 σ6 H6 G6 ∧ Sub G0 G6 ∧ wpM (C >>= fun c => if c = true then (B >>= fun b => if b = stop then pure stop else quantL stop T C B (ds.drop (i + 1))) else quantL stop T C B (ds.drop (i + 1))) env6 (fun b _ => Qb b) (fun _ _ => False)) I5' r5
      ⟨env, G5, _, h.stp stp, q5, wpM_mono w1 (fun _ env6 w6 σ6 G6 _ h6 s6 => ⟨env6, G6, h6, (sG.trans stp.mono).trans s6, w6⟩) fun _ _ z => z⟩) (fun _ s6 ⟨σ6, H6, I6, env6, G6, h6, sG6, w6⟩ => ?_) fun _ _ e => e.elim
    have keep : ∀ {σ7 : L2.St} {H7 : Hp} {s7 : Shared}, Inv (genC X A1 s4 H4 scope N cenv fp [(a, go)]) ([] ++ pinsAt fp s5.heap) σ7 H7 s7 → tn (i + 1) s7.heap ∧ ∀ b ∈ fp, FpOk (genC X A1 s4 H4 scope N cenv fp [(a, go)]) [] H7 b := fun {σ7 H7 s7} I7 =>
      ⟨TT.keep _ _ _ st5 fun b hb o e => (I7.pin (b, o) (List.mem_append_right _ (List.mem_append_right _ (mem_pinsAt hb e)))).1, stat fun b hb => by
        obtain ⟨o, e, d⟩ := TT.obj _ _ st5 b hb
        exact (I7.pin (b, o) (List.mem_append_right _ (List.mem_append_right _ (mem_pinsAt hb e)))).2.1⟩
    refine seg_bind_wrap ?_
    rw [over_comp]
    refine wpAny_mono (hc.run _ s6 σ6 H6 (fun c H7 => ∃ env7 G7, SR X.K ⟨p', [], tabs, fun _ _ => False⟩ env7 σ6 H7 G7 ∧ Sub G0 G7 ∧ wpM (if c = true then (B >>= fun b => if b = stop then pure stop else quantL stop T C B (ds.drop (i + 1))) else quantL stop T C B (ds.drop (i + 1))) env7 (fun b _ => Qb b) (fun _ _ => False)) I6
      ⟨env6, G6, h6, wpM_mono (wpM_bind.mp w6) (fun c env7 w7 H7 G7 h7 s7 => ⟨env7, G7, h7, sG6.trans s7, w7⟩) fun _ _ z => z.elim⟩) (fun ok s7 ⟨H7, I7, env7, G7, h7, sG7, w7⟩ => ?_) fun _ _ e => e.elim
    cases ok with
    | false =>
      simp only [Bool.false_eq_true, if_false] at w7 ⊢
      obtain ⟨k1, k2⟩ := keep I7
      exact seg_again rfl (ih (i + 1) n s₀ s7 env7 σ6 H7 G7 (by omega) (by omega) hlt I7.unpinned k1 k2 h7 sG7 w7)
    | true =>
      simp only [if_true] at w7 ⊢
      obtain ⟨n, rfl⟩ : ∃ m, n = m + 1 := ⟨n - 1, by omega⟩
      have hy : ∀ v, yieldOut cenv v = yieldValue v := fun v => by simp only [yieldOut, hco, Bool.false_eq_true, if_false]
      simp only [hy]
      rw [Sem.bind_eq_wrap', Sem.bind_eq_wrap', Sem.wrap_wrap, Sem.wrap_wrap]
      refine seg_wrap ?_
      rw [over_comp]
      refine wpAny_mono (PE.run hb _ s7 σ6 H7 (fun v H8 => ∃ b env8 G8, v = .bl b ∧ SR X.K ⟨p', [], tabs, fun _ _ => False⟩ env8 σ6 H8 G8 ∧ Sub G0 G8 ∧ wpM (if b = stop then pure stop else quantL stop T C B (ds.drop (i + 1))) env8 (fun b _ => Qb b) (fun _ _ => False)) I7
        (tE_bool h7 w7 (fun b env8 H8 G8 h8 s8 w8 => ⟨b, env8, G8, rfl, h8, sG7.trans s8, w8⟩) fun c e1 E1 H1 G1 h1 s1 => E1.elim)) (fun y s8 ⟨v, H8, I8, rv, b, env8, G8, ev, h8, sG8, w8⟩ => ?_) fun _ _ e => e.elim
      subst ev
      have ey : y = Value.bool b := rv
      subst ey
      obtain ⟨k1, k2⟩ := keep I8
      have hgen8 := hgen _ (I8.pin (a, go) (List.mem_append_left _ (List.mem_singleton.mpr rfl))).1
      refine seg_at (seg_yield rfl rfl rfl ⟨I8.nolimit, hgen8, I8.bare, b, rfl, fun e => ?_, fun e s' z => ?_⟩)
      · rw [if_pos e] at w8
        exact ⟨w8, σ6, H8, G8, env8, I8.unpinned, h8, sG8⟩
      · rw [if_neg e] at w8
        refine seg_again rfl (ih (i + 1) n s' s' env8 σ6 H8 G8 (by omega) (by omega) hlt (Inv.slp I8.unpinned z) (by rw [z.heap]; exact k1) k2 h8 sG8 w8)
end

theorem seg_start {X : Cx} {A1 : Around} {cenv : Env} {R : GenEnd} {Y : Protocol} {n : Nat} {s₀ s : Shared} {elt tg iter : Expr} {ifs : List Expr} {scope : Scope} {pos : Pos} {it : Addr} (hself : ∀ (A : Around) (Q : Value → Shared → Prop) (E : Value → Shared → Prop), Q (.ref it) s → wpAny (model X.prog X.w) A (pyIter (.ref it)) Q E s)
    (loop : Seg (model X.prog X.w) A1 R Y n s₀ (.compLoop (.GeneratorExp elt [⟨tg, iter, ifs, 0⟩] scope pos) 0 (.ref it) .none cenv) ((model X.prog X.w).den (.compLoop (.GeneratorExp elt [⟨tg, iter, ifs, 0⟩] scope pos) 0 (.ref it) .none cenv)) [] s) :
    Seg (model X.prog X.w) A1 R Y n s₀ (.compStart (.GeneratorExp elt [⟨tg, iter, ifs, 0⟩] scope pos) 0 (.ref it) .none cenv) ((model X.prog X.w).den (.compStart (.GeneratorExp elt [⟨tg, iter, ifs, 0⟩] scope pos) 0 (.ref it) .none cenv)) [] s := by
  show Seg _ A1 _ _ _ s₀ _ ((compStart (.GeneratorExp elt [⟨tg, iter, ifs, 0⟩] scope pos) 0 (.ref it) .none cenv).onRaise (leaving cenv)) [] s
  unfold compStart
  rw [Sem.onRaise_eq_wrap]
  show Seg _ A1 _ _ _ s₀ _ ((ask >>= _).wrap _ _ _ _) [] s
  refine seg_bind_wrap (wpAny_askSetting ?_)
  split
  · exact seg_again rfl loop
  · first
      | exact seg_bind_wrap (wpAny_rule (seg_bind_wrap (wpAny_standAt (seg_bind_wrap (hself _ _ _ (seg_again rfl loop))))))
      | (refine seg_bind_wrap (wpAny_rule ?_); show Seg _ A1 _ _ _ s₀ _ ((standAt iter.pos >>= _).wrap _ _ _ _) [] s; exact seg_bind_wrap (wpAny_standAt (seg_bind_wrap (hself _ _ _ (seg_again rfl loop)))))

theorem GFin.ext {X' : Cx} {fr' : Fr} {G0 : Hp} {Qb : Bool → Prop} {b : Bool} {s s' : Shared} (h : GFin X' fr' G0 Qb b s) (ho : s'.os = s.os) (hg : AllBare s'.gens) (hk : ∀ b o, s.heap.get? b = some o → s'.heap.get? b = some o) : GFin X' fr' G0 Qb b s' := by
  obtain ⟨q, σ, H, G, env, I, r⟩ := h
  exact ⟨q, σ, H, G, env, I.call' (ch := []) ho (Un.kept hk) (I.hok.kept hk) hg fun b z => by simp at z, r⟩
theorem GFin.bare {X' : Cx} {fr' : Fr} {G0 : Hp} {Qb : Bool → Prop} {b : Bool} {s : Shared} (h : GFin X' fr' G0 Qb b s) : AllBare s.gens := by
  obtain ⟨_, _, _, _, _, I, _⟩ := h
  exact I.bare

section
variable {P : Program} {w : World} {A : Around} {X' : Cx} {fr' : Fr} {G0 : Hp} {Qb : Bool → Prop} {a : Addr} {g : Nat} {R' : Result → Shared → Prop}
theorem all_loop (hh : A.handled = none) (hroom : A.depth < recursionLimit) (hR : ∀ b s', GFin X' fr' G0 Qb b s' → R' (.ok (.ret (.bool b))) s') :
    ∀ (n : Nat) (s : Shared), s.heap.NoLimit → s.heap.IsGen a g → (∃ gs, s.gens[g]? = some gs ∧ gs.Goes (model P w) A.in1.in1 (GRest false X' fr' G0 Qb) (GItem false X' fr' G0 Qb a g) n (.send .none) (s.setGen g .running)) →
      codeAny (model P w) A (.builtin "all.loop" ⟨[.ref a], []⟩) R' s := by
  intro n
  induction n with
  | zero =>
    intro s hl hg ⟨gs, hgs, hgo⟩
    refine codeAny_builtin F.entry_all_loop ?_
    rw [Around.under_plainId F.plain_all_loop _]
    show wpAny _ A.in1 (pyNext (.ref a) >>= _) _ _ s
    refine wpAny_bind (wpAny_pyNext_genexpQ (A := A.in1) (P := fun _ _ s1 => GFin X' fr' G0 Qb (!false) s1) hh hl hroom hg hgs hgo (fun v s₁ gs' hb hv => ?_) (fun s₁ hp h' hk => ?_))
    · obtain ⟨hl1, hg1, hb1, b, rfl, hs, hn⟩ := hv
      refine wpAny_bind (wpAny_holding (wpAny_truthy_bool ?_))
      refine wpAny_bind (wpAny_letGo ?_)
      cases b with
      | true => exact (hn (by simp) _ ⟨rfl, hb1, rfl⟩).elim
      | false =>
        simp only [Bool.false_eq_true, if_false]
        refine wpAny_bind (wpAny_rule (wpAny_pure ?_))
        exact hR false _ ((hs rfl).ext rfl (allBare_setGen hb1 hb) fun _ _ e => e)
    · refine wpAny_bind (wpAny_rule (wpAny_pure ?_))
      exact hR true _ (hp.ext rfl (allBare_setGen hp.bare rfl) hk)
  | succ n ih =>
    intro s hl hg ⟨gs, hgs, hgo⟩
    have hgl : g < s.gens.size := (Array.getElem?_eq_some_iff.mp hgs).1
    refine codeAny_builtin F.entry_all_loop ?_
    rw [Around.under_plainId F.plain_all_loop _]
    show wpAny _ A.in1 (pyNext (.ref a) >>= _) _ _ s
    refine wpAny_bind (wpAny_gsz (n := g + 1) hgl (wpAny_pyNext_genexpQ (A := A.in1) (P := fun _ _ s1 => GFin X' fr' G0 Qb (!false) s1) hh hl hroom hg hgs hgo (fun v s₁ gs' hb hv => ?_) (fun s₁ hp h' hk => ?_)))
    · intro hsz
      obtain ⟨hl1, hg1, hb1, b, rfl, hs, hn⟩ := hv
      refine wpAny_bind (wpAny_holding (wpAny_truthy_bool ?_))
      refine wpAny_bind (wpAny_letGo ?_)
      have hsz1 : g < s₁.gens.size := by
        have q : (s₁.setGen g gs').gens.size = s₁.gens.size := setGen_size _ _ _
        have hsz' : g + 1 ≤ (s₁.setGen g gs').gens.size := hsz
        omega
      cases b with
      | true =>
        simp only [if_true]
        refine wpAny_pure ⟨plainId_quiet F.plain_all_loop _, ih _ hl1 hg1 ⟨gs', setGen_at hsz1, ?_⟩⟩
        exact hn (by simp) _ ⟨rfl, allBare_setGen (s := s₁.setGen g gs') (allBare_setGen hb1 hb) rfl, rfl⟩
      | false =>
        simp only [Bool.false_eq_true, if_false]
        refine wpAny_bind (wpAny_rule (wpAny_pure ?_))
        exact hR false _ ((hs rfl).ext rfl (allBare_setGen hb1 hb) fun _ _ e => e)
    · intro _
      refine wpAny_bind (wpAny_rule (wpAny_pure ?_))
      exact hR true _ (hp.ext rfl (allBare_setGen hp.bare rfl) hk)
theorem any_loop (hh : A.handled = none) (hroom : A.depth < recursionLimit) (hR : ∀ b s', GFin X' fr' G0 Qb b s' → R' (.ok (.ret (.bool b))) s') :
    ∀ (n : Nat) (s : Shared), s.heap.NoLimit → s.heap.IsGen a g → (∃ gs, s.gens[g]? = some gs ∧ gs.Goes (model P w) A.in1.in1 (GRest true X' fr' G0 Qb) (GItem true X' fr' G0 Qb a g) n (.send .none) (s.setGen g .running)) →
      codeAny (model P w) A (.builtin "any.loop" ⟨[.ref a], []⟩) R' s := by
  intro n
  induction n with
  | zero =>
    intro s hl hg ⟨gs, hgs, hgo⟩
    refine codeAny_builtin F.entry_any_loop ?_
    rw [Around.under_plainId F.plain_any_loop _]
    show wpAny _ A.in1 (pyNext (.ref a) >>= _) _ _ s
    refine wpAny_bind (wpAny_pyNext_genexpQ (A := A.in1) (P := fun _ _ s1 => GFin X' fr' G0 Qb (!true) s1) hh hl hroom hg hgs hgo (fun v s₁ gs' hb hv => ?_) (fun s₁ hp h' hk => ?_))
    · obtain ⟨hl1, hg1, hb1, b, rfl, hs, hn⟩ := hv
      refine wpAny_bind (wpAny_holding (wpAny_truthy_bool ?_))
      refine wpAny_bind (wpAny_letGo ?_)
      cases b with
      | false => exact (hn (by simp) _ ⟨rfl, hb1, rfl⟩).elim
      | true =>
        simp only [if_true]
        refine wpAny_bind (wpAny_rule (wpAny_pure ?_))
        exact hR true _ ((hs rfl).ext rfl (allBare_setGen hb1 hb) fun _ _ e => e)
    · refine wpAny_bind (wpAny_rule (wpAny_pure ?_))
      exact hR false _ (hp.ext rfl (allBare_setGen hp.bare rfl) hk)
  | succ n ih =>
    intro s hl hg ⟨gs, hgs, hgo⟩
    have hgl : g < s.gens.size := (Array.getElem?_eq_some_iff.mp hgs).1
    refine codeAny_builtin F.entry_any_loop ?_
    rw [Around.under_plainId F.plain_any_loop _]
    show wpAny _ A.in1 (pyNext (.ref a) >>= _) _ _ s
    refine wpAny_bind (wpAny_gsz (n := g + 1) hgl (wpAny_pyNext_genexpQ (A := A.in1) (P := fun _ _ s1 => GFin X' fr' G0 Qb (!true) s1) hh hl hroom hg hgs hgo (fun v s₁ gs' hb hv => ?_) (fun s₁ hp h' hk => ?_)))
    · intro hsz
      obtain ⟨hl1, hg1, hb1, b, rfl, hs, hn⟩ := hv
      refine wpAny_bind (wpAny_holding (wpAny_truthy_bool ?_))
      refine wpAny_bind (wpAny_letGo ?_)
      have hsz1 : g < s₁.gens.size := by
        have q : (s₁.setGen g gs').gens.size = s₁.gens.size := setGen_size _ _ _
        have hsz' : g + 1 ≤ (s₁.setGen g gs').gens.size := hsz
        omega
      cases b with
      | false =>
        simp only [Bool.false_eq_true, if_false]
        refine wpAny_pure ⟨plainId_quiet F.plain_any_loop _, ih _ hl1 hg1 ⟨gs', setGen_at hsz1, ?_⟩⟩
        exact hn (by simp) _ ⟨rfl, allBare_setGen (s := s₁.setGen g gs') (allBare_setGen hb1 hb) rfl, rfl⟩
      | true =>
        simp only [if_true]
        refine wpAny_bind (wpAny_rule (wpAny_pure ?_))
        exact hR true _ ((hs rfl).ext rfl (allBare_setGen hb1 hb) fun _ _ e => e)
    · intro _
      refine wpAny_bind (wpAny_rule (wpAny_pure ?_))
      exact hR false _ (hp.ext rfl (allBare_setGen hp.bare rfl) hk)
end
end Cf
/-! Cf, part S: all(..), any(..). -/
namespace Cf
open PySem PySem.Spec PyProof.Rows L2 GenW GxR

/-- what a generator expression walks: a list of ours may be walked, too -/
def tIq (K : PySem.W.Frag) (fr : Fr) (I : Mo (List PyData)) : TI := fun σ H R => ∃ env G, SR K fr env σ H G ∧
  wpM I env (fun ds env' => ∀ H' G' J, SR K fr env' σ H' G' → Sub G G' → ItOk K J (lay G' H' (ownA env' σ)) ds → R J H') (fun c env' => ∀ H' G', SR K fr env' σ H' G' → Sub G G' → fr.W c H')
def PIq (X : Cx) (fr : Fr) (tg iter : Expr) (I : Mo (List PyData)) : Prop := PI X tg iter (tIq X.K fr I)
theorem ItOk.sub {K : PySem.W.Frag} {J : It} {G0 G1 : Hp} {ds : List PyData} (h : ItOk K J G0 ds) (s : Sub G0 G1) : ItOk K J G1 ds :=
  ⟨fun i H G a b c => h.go i H G (s.trans a) b c, fun H G a b => h.stop H G (s.trans a) b, fun i H G x H' a b c d => h.yld i H G x H' (s.trans a) b c d⟩
/-- read, not frozen -/
def pkI (F : Mo Rv) : Mo (List PyData) := do
  let r ← F
  let d ← peek (hold r)
  liftO (itemsG d)
section
variable {X : Cx} {fr : Fr} {tg : Expr}
theorem PIv.q {iter : Expr} {I : Mo (List PyData)} (h : PIv X fr tg iter I) : PIq X fr tg iter I :=
  weakI h fun σ H R ⟨env, G, h, w⟩ => ⟨env, G, h, wpM_mono w (fun ds env' q H' G' J h' s io => q H' G' J h' s (io.sub h'.subLay)) fun _ _ q => q⟩
theorem eq_seq {l : Expr} {F : Mo Rv} (hl : PEv X fr l F) : PIq X fr tg l (pkI F) := by
  refine ⟨fun pins s σ H R I ⟨env, G, h, w⟩ => ?_⟩
  unfold pkI at w
  have hE : tE X.K fr F σ H fun v H1 => ∃ a, v = .ref a ∧ (((∃ xs, SqL X.K H1 a xs) ∧ R (Itl X.K a) H1) ∨ ((∃ xs, SqT X.K H1 a xs) ∧ R (Itt X.K a) H1)) := by
    refine tE_then h w (fun r env1 H1 G1 v h1 s1 q1 w1 => ?_) fun c e1 E1 H1 G1 h1 s1 => E1 H1 G1 h1 s1
    obtain ⟨G2, h2, s2, q2⟩ := hold_ok' h1 q1
    have w1' := wpM_bind.mp w1
    have key : ∃ d, Dq X.K (lay G2 H1 (ownA env1 σ)) v d ∧ wpM (liftO (itemsG d)) env1 (fun ds env' => ∀ H' G' J, SR X.K fr env' σ H' G' → Sub G G' → ItOk X.K J (lay G' H' (ownA env' σ)) ds → R J H') (fun c env' => ∀ H' G', SR X.K fr env' σ H' G' → Sub G G' → fr.W c H') := by
      cases hr : hold r with
      | fr ds => rw [hr] at q2; exact q2.elim
      | sh d =>
        rw [hr] at q2 w1'
        exact ⟨d, Sub.dq h2.subLay _ _ q2, w1'⟩
      | sl i =>
        rw [hr] at q2 w1'
        have q' : σ[i]? = some (some v) := q2
        unfold wpM peek at w1'
        cases e : env1[i]? with
        | none => simp [e] at w1'
        | some sl =>
          cases sl with
          | un => simp [e] at w1'
          | sh d =>
            simp only [e] at w1'
            obtain ⟨x, e1, e2⟩ := h2.shAt e
            rw [q'] at e1; cases e1
            exact ⟨d, Sub.dq h2.subLay _ _ e2, w1'⟩
          | own t ds =>
            simp only [e] at w1'
            obtain ⟨a, xs, e1, e2, e3, _⟩ := h2.ownAt e
            rw [q'] at e1; cases e1
            refine ⟨.list ds, .lst ?_ (Sub.dqAll h2.subLay _ _ e3), w1'⟩
            unfold lay
            rw [if_pos (ownA_iff.mpr ⟨i, t, ds, e, q'⟩)]
            exact e2
    obtain ⟨d, d2, w2⟩ := key
    obtain ⟨ds, e, w3⟩ := wpM_lift w2
    have sA := s1.trans s2
    cases d2 with
    | lst k1 k2 => cases e; exact ⟨_, rfl, .inl ⟨⟨_, .of (h2.laySub _ _ k1)⟩, w3 H1 G2 _ h2 sA (itOk_list (.of k1) k2)⟩⟩
    | tup k1 k2 => cases e; exact ⟨_, rfl, .inr ⟨⟨_, h2.laySub.sqT k1⟩, w3 H1 G2 _ h2 sA (itOk_tup k1 k2)⟩⟩
    | scr k1 k2 => cases e; exact ⟨_, rfl, .inl ⟨⟨_, h2.laySub.sqL k1⟩, w3 H1 G2 _ h2 sA (itOk_list k1 k2)⟩⟩
    | _ => cases e
  refine thn (hl.run pins s σ H _ I hE) fun u s1 ⟨v, H1, I1, r1, a, e, alt⟩ => ?_
  subst e
  cases r1
  have new : ∀ b ∈ [s1.heap.objs.size], FpOk X pins H1 b := fun b hb => by
    rw [List.mem_singleton.mp hb]
    exact I1.fpOk (Nat.le_refl _) (I1.hok.fresh (Nat.le_refl _))
  rcases alt with ⟨⟨xs, hq⟩, q⟩ | ⟨⟨xs, hq⟩, q⟩
  · obtain ⟨its, _, pl, _⟩ := I1.list hq
    exact wpAny_pyIter_list pl.isList ⟨_, _, _, _, H1, rfl, I1.kept (t' := s1.toks) fun b o z => Heap.get?_push_of_some _ z, turn_list a _, ⟨_, Heap.get?_push_size _ rfl, rfl, rfl⟩, new, q⟩
  · obtain ⟨its, _, pl, _⟩ := I1.tuple hq
    exact wpAny_pyIter_tuple (show s1.heap.IsTuple a its.toArray from pl) ⟨_, _, _, _, H1, rfl, I1.kept (t' := s1.toks) fun b o z => Heap.get?_push_of_some _ z, turn_tuple a _, ⟨_, Heap.get?_push_size _ rfl, rfl, rfl⟩, new, q⟩
end

/-- in the generator's context -/
abbrev InGen (X : Cx) (fr : Fr) (k : Nat) (scope : Scope) (N : List Str) (J : Cx → Fr → Prop) : Prop := ∀ (p : Hp) (s : Shared) (H : Hp) (C : Addr) (code : Value) (fp : List Addr) (pn : List (Addr × Obj)),
  Room k (X.A.in1.in1.deeper (genEnv scope (cloFrom X.env.cells scope.names []) C code builtinsNs X.env)) →
    J (genC X X.A.in1.in1 s H scope N (genEnv scope (cloFrom X.env.cells scope.names []) C code builtinsNs X.env) fp pn) ⟨p, [], fr.tabs, fun _ _ => False⟩

theorem lay_grow {G H : Hp} {A : Addr → Bool} {P : Addr} {o : HO} (h : A P = false) : lay G (upd H P o) A = lay G H A := by
  funext b
  unfold lay
  split
  · rename_i hb
    exact upd_ne (fun z => by rw [z, h] at hb; cases hb)
  · rfl

section
variable {X : Cx} {fr : Fr} {k m : Nat} {tg elt iter : Expr} {ifs : List Expr} {scope : Scope} {N : List Str} {ixs : List Nat} {ws : List Nat} {I : Mo (List PyData)} {T : PyData → Mo Unit} {C B : Mo Bool} {stop : Bool} {c P : Addr} {gpos : Pos}
/-- the generator has been made; what is wanted of the loop's answer -/
theorem gen_made (hr : Room (k + 3) X.A) (TB : TabB X.base X.mg c P) (hcode : X.env.code = .ref c) (hPt : P ∈ fr.tabs) (ok : GenOk X.N X.env.scope scope N ixs m)
    (hi : PIq X fr tg iter I) (hg : InGen X fr k scope N fun X fr => PGv X fr tg ws T) (hc : InGen X fr k scope N fun X fr => PTsv X fr ifs C) (hb : InGen X fr k scope N fun X fr => PBv X fr elt B)
    (hs : ∀ v, genFold iter X.env v = pure v) {pins : List (Addr × Obj)} {s : Shared} {σ : L2.St} {H : Hp} {Q : VK} (I0 : Inv X pins σ H s) (h : tE X.K fr (ofB (quantF stop ixs m I T C B)) σ H Q) {Qg : Value → Shared → Prop}
    (hQ : ∀ (X' : Cx) (fr' : Fr) (G0 : Hp) (Qb : Bool → Prop) (a : Addr) (g n : Nat) (s5 : Shared), s5.heap.NoLimit → s5.heap.IsGen a g →
      (∃ gs, s5.gens[g]? = some gs ∧ gs.Goes (model X.prog X.w) X.A.in1.in1 (GRest stop X' fr' G0 Qb) (GItem stop X' fr' G0 Qb a g) n (.send .none) (s5.setGen g .running)) →
      (∀ b s', GFin X' fr' G0 Qb b s' → EP X pins σ Q (.bool b) s') → Qg (.ref a) s5) :
    wpAny (model X.prog X.w) X.A (eval (.GeneratorExp elt [⟨tg, iter, ifs, 0⟩] scope gpos) X.env) Qg X.xe s := by
  obtain ⟨env, G, h0, w⟩ := h
  have hfree : ∀ y ∈ scope.names, y.2 = .free → ∃ c, X.env.cells.lookup y.1 = some c := fun y hy e => by
    rcases ok.free y hy e with k | k
    · exact I0.ok.has _ (.inl k)
    · exact I0.ok.has _ (.inr k)
  refine wpAny_GeneratorExp_make ok.co (closure_ok hfree) ok.cell ok.dot ok.kind hr.depth ?_ hs
  unfold ofB quantF at w
  have hTI : tIq X.K fr I σ H fun J H1 => ∃ env1 G1 ds, SR X.K fr env1 σ H1 G1 ∧ Sub G G1 ∧ ItOk X.K J (lay G1 H1 (ownA env1 σ)) ds ∧
      wpM (inGen ixs m (quantL stop T C B ds)) env1 (fun b env' => ∀ H' G' v, SR X.K fr env' σ H' G' → Sub G G' → RvOk X.K fr env' σ H' G' v (.sh (.bool b)) → Q v H') (fun c env' => ∀ H' G', SR X.K fr env' σ H' G' → Sub G G' → fr.W c H') :=
    ⟨env, G, h0, wpM_mono (wpM_bind.mp (wpM_bind.mp w)) (fun ds env1 w1 H1 G1 J h1 s1 io => ⟨env1, G1, ds, h1, s1, io, w1⟩) fun _ _ q => q⟩
  refine thn (hi.run pins s σ H _ I0 hTI) fun xv s1 h1 => thn h1 fun itv s2 hp => ?_
  obtain ⟨it, fp, tn, J, H2, rfl, I2, TT, st2, f2, env2, G2, ds, h2, sG2, io, w2⟩ := hp
  refine ⟨I2.nolimit, ?_⟩
  obtain ⟨⟨ps, hP, ht⟩, gP⟩ := h2.tab P hPt
  have hPs : s2.heap.get? P = some { cls := .none, data := .fields ps } := I2.hok P _ hP
  have cd : PySem.W.CodeHd s2.heap c P := TB.code.keeps fun b u e => I2.bk b u e
  have cont : ∀ (code : Value) (h3 : Heap) (tk : Nat) (ps' : Array Value), Heap.ExtBut P s2.heap h3 → s2.heap.objs.size ≤ h3.objs.size → h3.get? P = some { cls := .none, data := .fields ps' } → (∃ more, ps' = ps ++ more) → TriplesOk ps'.toList →
      wpAny (model X.prog X.w) X.A (builtinsFor X.env.globals X.env.builtins) (fun bi s₄ => ∀ h', h'.Ns s₄.heap.objs.size (fun y => if y = ".0" then some (.ref it) else none) → Heap.SameBut s₄.heap.objs.size (s₄.heap.push { cls := .type "frame", data := .dict #[] }) h' →
          Qg (.ref h'.objs.size) { s₄ with
            gens := s₄.gens.push (.fresh (.compStart (.GeneratorExp elt [⟨tg, iter, ifs, 0⟩] scope gpos) 0 (.ref it) .none (genEnv scope (cloFrom X.env.cells scope.names []) s₄.heap.objs.size code bi X.env))),
            toks := s₄.toks + 1 + 1 + 1,
            heap := h'.push { cls := .type "generator", data := .fields #[.int s₄.gens.size 0, .str "<genexpr>" (s₄.toks + 1), .str (X.env.qual ++ "<genexpr>") (s₄.toks + 1 + 1)] } }) X.xe { s2 with heap := h3, toks := tk } := by
    intro code h3 tk ps' hx hsz hP3 hmore ht3
    obtain ⟨more, em⟩ := hmore
    obtain ⟨bm, ob, e1, e2, e3, e4, e5, e6, e7, e8⟩ := TB.bm
    have keep3 : ∀ b u, b ≠ P → s2.heap.get? b = some u → h3.get? b = some u := fun b u hb e => hx b u hb e
    have I4 : Inv X pins σ (upd H2 P (.tbl (ps ++ more))) { s2 with heap := h3, gens := s2.gens, drawn := s2.drawn, toks := tk } := inv_tab I2 hP keep3 (by rw [← em]; exact hP3) I2.bare
    have S4 : SR X.K fr env2 σ (upd H2 P (.tbl (ps ++ more))) G2 := h2.grow (ps := ps) hPt (by rw [← em]; exact ht3)
    refine wpAny_builtinsFor (m := X.mg) (by rw [I2.ok.glob]; exact (I2.mod.glob.keeps I2.bk).extBut hx TB.gP) e1 e2 (keep3 _ _ e4 (I2.bk _ _ e5)) e6 e7 e8 ?_
    intro h' hn' hs'
    have hsz' : h'.objs.size = h3.objs.size + 1 := by rw [hs'.1, Heap.size_push]
    have keep' : ∀ b o, h3.get? b = some o → h'.get? b = some o := fun b o e => hs'.extBut b o (Nat.ne_of_lt (Heap.lt_size e)) (Heap.get?_push_of_some _ e)
    have nP : ∀ b ∈ fp, b ≠ P := fun b hb z => by rw [z] at hb; have q := (f2 P hb).1; rw [hP] at q; cases q
    have own_P : ownA env2 σ P = false := by
      cases z : ownA env2 σ P with
      | false => rfl
      | true =>
        obtain ⟨⟨xs, e⟩, _⟩ := h2.ownA_at z
        rw [e] at hP; cases hP
    have fpo : ∀ b ∈ fp, FpOk X pins (upd H2 P (.tbl (ps ++ more))) b ∧ b < h3.objs.size := fun b hb => by
      refine ⟨⟨by rw [upd_ne (nP b hb)]; exact (f2 b hb).1, (f2 b hb).2⟩, ?_⟩
      obtain ⟨o, e, _⟩ := TT.obj _ _ st2 b hb
      exact Nat.lt_of_lt_of_le (Heap.lt_size e) hsz
    generalize hgo : ({ cls := .type "generator", data := .fields #[.int s2.gens.size 0, .str "<genexpr>" (tk + 1), .str (X.env.qual ++ "<genexpr>") (tk + 1 + 1)] } : Obj) = go
    have kp5 : ∀ b o, h3.get? b = some o → (h'.push go).get? b = some o := fun b o e => Heap.get?_push_of_some _ (keep' b o e)
    have hpushed : (h'.push go).get? h'.objs.size = some go := by subst hgo; exact Heap.get?_push_size _ rfl
    have hgen : ∀ h : Heap, h.get? h'.objs.size = some go → h.IsGen h'.objs.size s2.gens.size := fun h e => by subst hgo; exact ⟨_, _, _, e, rfl, rfl, rfl⟩
    have hgod : ∀ v, go.data ≠ .cell v := fun v q => by subst hgo; cases q
    have lim5 : (h'.push go).NoLimit := I4.nolimit.keeps kp5
    have hfr : X.A.in1.in1.frames = some X.stack := I2.ok.frames
    have hgr : Room k (X.A.in1.in1.deeper (genEnv scope (cloFrom X.env.cells scope.names []) h3.objs.size code builtinsNs X.env)) := (Room.in1 (Room.in1 hr)).deeper _
    have Lw : lay G2 (upd H2 P (.tbl (ps ++ more))) (ownA env2 σ) = lay G2 H2 (ownA env2 σ) := lay_grow own_P
    have SC := S4.cap ixs m
    rw [Lw] at SC
    have w3 := wpM_inGen w2
    refine hQ (genC X X.A.in1.in1 { s2 with heap := h3, toks := tk } (upd H2 P (.tbl (ps ++ more))) scope N (genEnv scope (cloFrom X.env.cells scope.names []) h3.objs.size code builtinsNs X.env) fp [(h'.objs.size, go)])
      ⟨privOf fr.tabs (fun _ => False) (upd H2 P (.tbl (ps ++ more))) (lay G2 H2 (ownA env2 σ)), [], fr.tabs, fun _ _ => False⟩ (lay G2 H2 (ownA env2 σ))
      (fun b => ∀ H' G' v, SR X.K fr env2 σ H' G' → Sub G G' → RvOk X.K fr env2 σ H' G' v (.sh (.bool b)) → Q v H') h'.objs.size s2.gens.size ds.length _ lim5 (hgen _ hpushed) ⟨_, Array.getElem?_push_size .., rfl, ?_⟩ ?_
    · have Is : Inv (genC X X.A.in1.in1 { s2 with heap := h3, toks := tk } (upd H2 P (.tbl (ps ++ more))) scope N (genEnv scope (cloFrom X.env.cells scope.names []) h3.objs.size code builtinsNs X.env) fp [(h'.objs.size, go)]) [] (capS ixs m σ) (upd H2 P (.tbl (ps ++ more)))
          ({ s2 with heap := h'.push go, gens := (s2.gens.push (.fresh (.compStart (.GeneratorExp elt [⟨tg, iter, ifs, 0⟩] scope gpos) 0 (.ref it) .none (genEnv scope (cloFrom X.env.cells scope.names []) h3.objs.size code builtinsNs X.env)))).setIfInBounds s2.gens.size .running, toks := tk + 1 + 1 + 1 }) := by
        refine gen_start (s := { s2 with heap := h3, toks := tk }) I4 ok hr.hd hfr fpo (hn'.push _) kp5 hpushed (by show h3.objs.size < h'.objs.size; omega) hgod ?_
        exact allBare_setGen (s := { s2 with gens := s2.gens.push (.fresh (.compStart (.GeneratorExp elt [⟨tg, iter, ifs, 0⟩] scope gpos) 0 (.ref it) .none (genEnv scope (cloFrom X.env.cells scope.names []) h3.objs.size code builtinsNs X.env))) }) (AllBare.push I2.bare rfl) rfl
      have fpi : ∀ b ∈ fp, FpOk (genC X X.A.in1.in1 { s2 with heap := h3, toks := tk } (upd H2 P (.tbl (ps ++ more))) scope N (genEnv scope (cloFrom X.env.cells scope.names []) h3.objs.size code builtinsNs X.env) fp [(h'.objs.size, go)]) [] (upd H2 P (.tbl (ps ++ more))) b := fun b hb => by
        obtain ⟨⟨z1, z2, z3, z4, z5, z6⟩, z7⟩ := fpo b hb
        refine ⟨z1, Nat.ne_of_lt z7, fun z => ?_, .inl hb, fun y c' e z => ?_, fun p hp z => ?_⟩
        · rcases List.mem_cons.mp (I4.stkSub b z) with y | y
          · exact z2 y
          · exact z3 y
        · refine z5 y c' ?_ z
          rcases cloFrom_mem (PySem.mem_of_lookup e) with hm | ⟨hm1, rfl⟩
          · cases hm
          · obtain ⟨c1, hc1⟩ := hfree _ hm1 rfl
            rw [hc1]
            rfl
        · have e : p = (h'.objs.size, go) := by simpa using hp
          rw [e] at z
          have z' : h'.objs.size = b := z
          rw [hsz'] at z'
          rw [← z'] at z7
          exact absurd (Nat.lt_of_succ_lt z7) (Nat.lt_irrefl _)
      refine seg_start (X := X) (fun A Q' E' hq => TT.self A 0 _ Q' E' (TT.keep _ _ _ st2 fun b hb o e => kp5 b o (keep3 b o (nP b hb) e)) hq) ?_
      exact seg_quant (scope := scope) (iter := iter) (ds := ds) ok.co hgen TT io (hg _ _ _ _ _ _ _ hgr) (hc _ _ _ _ _ _ _ hgr) (hb _ _ _ _ _ _ _ hgr) ds.length 0 ds.length _ _ _ _ _ _ (by omega) (Nat.le_refl _) (Nat.zero_le _) Is
        (TT.keep _ _ _ st2 fun b hb o e => kp5 b o (keep3 b o (nP b hb) e)) fpi SC .refl (by rw [List.drop_zero]; exact w3)
    · intro b s' ⟨qb, σ', H', G', env', I', h', sG'⟩
      have Io : Inv X pins σ H' s' := by
        refine I4.call' (ch := fp) I'.os I'.base I'.hok I'.bare fun b hb => ?_
        obtain ⟨⟨z1, z2, z3, z4, z5, z6⟩, _⟩ := fpo b hb
        exact ⟨z4, z2, z5, z6⟩
      have kept : Kept fr.tabs (fun _ => False) (upd H2 P (.tbl (ps ++ more))) (lay G2 (upd H2 P (.tbl (ps ++ more))) (ownA env2 σ)) H' G' := fun b o e1 e2 e3 e4 => by
        rw [Lw] at e2
        have e5 : privOf fr.tabs (fun _ => False) (upd H2 P (.tbl (ps ++ more))) (lay G2 H2 (ownA env2 σ)) b = some o := by
          unfold privOf
          rw [if_pos ⟨e2, e3, id⟩]
          exact e1
        exact ⟨h'.prot b o e5, h'.dj b (ne_none_of e5)⟩
      obtain ⟨h9, s9⟩ := S4.keptB (by rw [Lw]; exact sG') h'.sub h'.tab kept
      exact ⟨.bl b, H', Io, rfl, qb H' _ _ h9 (sG2.trans s9) (.bl b)⟩
  cases hf : codeAmong gpos ps.toList with
  | none =>
    refine wpAny_genexprCodeX hcode (cd.code hPs ht) (cd.tab hPs) hf fun c' h' tk hx hge hlt hco' _ htab' _ => ?_
    obtain ⟨o1, vs, f1, tf, fl, tg, inF, tx, tt, op, _, _, _, _, _, _, _, _, _, htr, _⟩ := hco'
    exact cont _ h' tk _ hx (Nat.le_trans hge (Nat.le_of_lt hlt)) htab'.2 ⟨_, rfl⟩ htr
  | some cv =>
    refine wpAny_genexprCode_hit hcode (cd.code hPs ht) hf ?_
    exact cont cv s2.heap s2.toks ps (Heap.ExtBut.refl _ _) (Nat.le_refl _) hPs ⟨#[], by simp⟩ ht
end

section
variable {X : Cx} {fr : Fr} {k m : Nat} {tg elt iter : Expr} {ifs : List Expr} {scope : Scope} {N : List Str} {ixs : List Nat} {ws : List Nat} {I : Mo (List PyData)} {T : PyData → Mo Unit} {C B : Mo Bool} {c P : Addr} {p pos gpos : Pos}
theorem eb_all (hr : Room (k + 3) X.A) (hgl : Gl X "all") (hm : X.mg "all" = none) (TB : TabB X.base X.mg c P) (hcode : X.env.code = .ref c) (hPt : P ∈ fr.tabs) (ok : GenOk X.N X.env.scope scope N ixs m)
    (hi : PIq X fr tg iter I) (hg : InGen X fr k scope N fun X fr => PGv X fr tg ws T) (hc : InGen X fr k scope N fun X fr => PTsv X fr ifs C) (hb : InGen X fr k scope N fun X fr => PBv X fr elt B)
    (hs : ∀ v, genFold iter X.env v = pure v := by intro _; rfl)
    (he : starEach [.GeneratorExp elt [⟨tg, iter, ifs, 0⟩] scope gpos] X.env = (false, eval (.GeneratorExp elt [⟨tg, iter, ifs, 0⟩] scope gpos) X.env) :: starEach [] X.env := by rfl) :
    PBv X fr (.Call (.Name "all" p) [.GeneratorExp elt [⟨tg, iter, ifs, 0⟩] scope gpos] [] pos) (quantF false ixs m I T C B) := by
  refine ⟨fun pins s σ H Q I0 h => ?_⟩
  refine wpAny_Call_Name_kw (ld_blt I0 hgl hm bt_all ?_)
  refine PyProof.Rows.callWith_builtin1 ?_ he (by rfl)
  rw [he]
  show wpAny _ _ (spliced ((false, eval (.GeneratorExp elt [⟨tg, iter, ifs, 0⟩] scope gpos) X.env) :: backTo pos (starEach [] X.env))) _ _ s
  refine Calls.spliced_cons (gen_made hr TB hcode hPt ok hi hg hc hb hs I0 h fun X' fr' G0 Qb a g n s5 hl5 hg5 hgo hfin => ?_)
  refine Calls.spliced_nil ?_
  refine call_function_tree F.kind_all F.plain_all F.entry_all (F.args_all1 _) ?_
  unfold Builtin.«all»
  refine wpAny_bind (m := oneArg "all" _) (wpAny_pure ?_)
  refine wpAny_bind (wpAny_pyIter_gen hg5 ?_)
  exact wpAny_pure ⟨plainId_quiet F.plain_all_loop _, all_loop hr.hd hr.depth (fun b s' q => hfin b s' q) n s5 hl5 hg5 hgo⟩
theorem eb_any (hr : Room (k + 3) X.A) (hgl : Gl X "any") (hm : X.mg "any" = none) (TB : TabB X.base X.mg c P) (hcode : X.env.code = .ref c) (hPt : P ∈ fr.tabs) (ok : GenOk X.N X.env.scope scope N ixs m)
    (hi : PIq X fr tg iter I) (hg : InGen X fr k scope N fun X fr => PGv X fr tg ws T) (hc : InGen X fr k scope N fun X fr => PTsv X fr ifs C) (hb : InGen X fr k scope N fun X fr => PBv X fr elt B)
    (hs : ∀ v, genFold iter X.env v = pure v := by intro _; rfl)
    (he : starEach [.GeneratorExp elt [⟨tg, iter, ifs, 0⟩] scope gpos] X.env = (false, eval (.GeneratorExp elt [⟨tg, iter, ifs, 0⟩] scope gpos) X.env) :: starEach [] X.env := by rfl) :
    PBv X fr (.Call (.Name "any" p) [.GeneratorExp elt [⟨tg, iter, ifs, 0⟩] scope gpos] [] pos) (quantF true ixs m I T C B) := by
  refine ⟨fun pins s σ H Q I0 h => ?_⟩
  refine wpAny_Call_Name_kw (ld_blt I0 hgl hm bt_any ?_)
  refine PyProof.Rows.callWith_builtin1 ?_ he (by rfl)
  rw [he]
  show wpAny _ _ (spliced ((false, eval (.GeneratorExp elt [⟨tg, iter, ifs, 0⟩] scope gpos) X.env) :: backTo pos (starEach [] X.env))) _ _ s
  refine Calls.spliced_cons (gen_made hr TB hcode hPt ok hi hg hc hb hs I0 h fun X' fr' G0 Qb a g n s5 hl5 hg5 hgo hfin => ?_)
  refine Calls.spliced_nil ?_
  refine call_function_tree F.kind_any F.plain_any F.entry_any (F.args_any1 _) ?_
  unfold Builtin.«any»
  refine wpAny_bind (m := oneArg "any" _) (wpAny_pure ?_)
  refine wpAny_bind (wpAny_pyIter_gen hg5 ?_)
  exact wpAny_pure ⟨plainId_quiet F.plain_any_loop _, any_loop hr.hd hr.depth (fun b s' q => hfin b s' q) n s5 hl5 hg5 hgo⟩
end
end Cf
/-! Cf, part T: enumerate, zip. -/
namespace Cf
open PySem PySem.Spec PyProof.Rows L2

/-! ### a list or a tuple, whichever it is (b: a tuple) -/
def SrcAt (K : PySem.W.Frag) (b : Bool) (H : Hp) (a : Addr) (xs : List V) : Prop := match b with
  | true => SqT K H a xs
  | false => SqL K H a xs
def IterAt (b : Bool) (h : Heap) (it a : Addr) (i : Nat) : Prop := match b with
  | true => h.IsTupleIter it a i
  | false => h.IsListIter it a i
def SeqIs (b : Bool) (h : Heap) (a : Addr) (items : Array Value) : Prop := match b with
  | true => h.IsTuple a items
  | false => h.IsList a items
def itObj (b : Bool) (a : Addr) : Obj := match b with
  | true => { cls := .type "tuple_iterator", data := .fields #[.ref a, .int 0 0] }
  | false => { cls := .type "list_iterator", data := .fields #[.ref a, .int 0 0] }
theorem draws_at {prog : Program} {w : World} {A : Around} (b : Bool) (hh : A.handled = none) (it a : Addr) (hne : a ≠ it) (items : Array Value) :
    Draws prog w A it [it, a] items.size (fun i v => items[i]? = some v) (fun i h => IterAt b h it a i ∧ SeqIs b h a items) := by
  cases b
  · exact Draws.list hh it a hne items
  · exact Draws.tuple hh it a hne items
theorem begins_at (b : Bool) (a : Addr) (items : Array Value) : Begins (.ref a) (itObj b a) fun h => SeqIs b h a items := by
  cases b
  · exact begins_list a items
  · exact begins_tuple a items
theorem iter_new {b : Bool} {h : Heap} {it a : Addr} (e : h.get? it = some (itObj b a)) : IterAt b h it a 0 := by
  cases b
  · exact ⟨_, e, rfl, rfl⟩
  · exact ⟨_, e, rfl, rfl⟩
theorem IterAt.keep {b : Bool} {h h' : Heap} {it a : Addr} {i : Nat} (x : IterAt b h it a i) (k : ∀ o, h.get? it = some o → h'.get? it = some o) : IterAt b h' it a i := by
  cases b
  · exact Heap.IsListIter.at x fun o e => k o e
  · exact Heap.IsTupleIter.at x fun o e => k o e
theorem IterAt.obj {b : Bool} {h : Heap} {it a : Addr} {i : Nat} (x : IterAt b h it a i) : ∃ o, h.get? it = some o ∧ ∀ v, o.data ≠ .cell v := by
  cases b
  · obtain ⟨o, e, _, d⟩ := x
    exact ⟨o, e, fun v z => by rw [d] at z; cases z⟩
  · obtain ⟨o, e, _, d⟩ := x
    exact ⟨o, e, fun v z => by rw [d] at z; cases z⟩
theorem SeqIs.lt {b : Bool} {h : Heap} {a : Addr} {items : Array Value} (x : SeqIs b h a items) : a < h.objs.size := by
  cases b
  · obtain ⟨o, e, _⟩ := x; exact Heap.lt_size e
  · obtain ⟨o, e, _⟩ := x; exact Heap.lt_size e
theorem Inv.src {X : Cx} {pins : List (Addr × Obj)} {σ : L2.St} {H : Hp} {s : Shared} (I : Inv X pins σ H s) {b : Bool} {a : Addr} {xs : List V} (h : SrcAt X.K b H a xs) : ∃ its, Vals xs its ∧ SeqIs b s.heap a its.toArray := by
  cases b
  · obtain ⟨its, rv, p, _⟩ := I.list h
    exact ⟨its, rv, p.isList⟩
  · obtain ⟨its, rv, p, _⟩ := I.tuple h
    exact ⟨its, rv, p⟩

/-! ### new tuples, one a turn -/
def Itp (S : Hp → Prop) (f : Nat → List V) (n : Nat) : It :=
  ⟨fun i H => i < n ∧ S H, fun i H v H' => ∃ T, v = .ref T ∧ H T = none ∧ H' = upd H T (.tup (f i)), fun i H => i = n ∧ S H⟩
/-- one turn -/
theorem step_walksT {X : Cx} {pins : List (Addr × Obj)} {s : Shared} {σ : L2.St} {H : Hp} {E : Value → Shared → Prop} {e : Addr} {fp wr : List Addr} {n i : Nat} {Pt : Nat → Array Value → Prop} {Sn : Nat → Heap → Prop} {Mid : Nat → Addr → Heap → Prop} {elts : List Expr} {kk : Nat} {tpos : Pos} {xs : List V} {R : Heap → Prop} {L : List Addr} (hL : ∀ b ∈ L, H b = none ∧ b < s.heap.objs.size)
    (W : WalksT X.prog X.w X.A e fp wr n Pt Sn Mid) (I : Inv X pins σ H s) (hf : ∀ b ∈ wr, FpOk X pins H b) (hi : i < n) (st : Sn i s.heap) (hz : xs.length ≤ sizeLine) (hP : ∀ vals, Pt i vals → Vals xs vals.toList)
    (hR : ∀ h', Sn (i + 1) h' → (∀ b o, b ∉ wr → s.heap.get? b = some o → h'.get? b = some o) → R h') :
    wpAny (model X.prog X.w) X.A (pyNext (.ref e)) (fun r s1 => ∃ u, r = some u ∧
      wpAny (model X.prog X.w) X.A (letOwnedTupleGo (.Tuple elts kk tpos) (.ref e) u) (fun _ s2 => ∃ x H', Inv X pins σ H' s2 ∧ RelV x u ∧ (∃ T, x = .ref T ∧ H T = none ∧ H' = upd H T (.tup xs)) ∧ R s2.heap ∧ ∀ b ∈ L, H' b = none) E s1) E s := by
  refine W.item i s _ _ hi st fun T vals h' tk hp hT ht hm hk => ⟨_, rfl, W.go elts kk tpos i T _ _ _ hm fun h'' st' hk' => ?_⟩
  have ht' : h''.IsTuple T vals := by
    obtain ⟨o, e1, r⟩ := ht
    exact ⟨o, hk' T o (W.apart _ _ _ hm) e1, r⟩
  have new : ObjOk X.prog X.w (upd H T (.tup xs)) h'' T (.tup xs) := ⟨hz, vals.toList, hP vals hp, by rw [Array.toArray_toList]; exact ht'⟩
  have kk2 : ∀ b o, b ∉ wr → s.heap.get? b = some o → h''.get? b = some o := fun b o hb q => hk' b o hb (hk b o hb q)
  have I1 : Inv X pins σ (upd H T (.tup xs)) { s with heap := h'', toks := tk } := I.turnedNew kk2 hf hT new
  refine ⟨.ref T, _, I1, rfl, ⟨T, rfl, I.hok.fresh hT, rfl⟩, hR h'' st' kk2, fun b hb => ?_⟩
  rw [upd_ne (Nat.ne_of_lt (Nat.lt_of_lt_of_le (hL b hb).2 hT))]
  exact (hL b hb).1

theorem itOk_pairs {K : PySem.W.Frag} {S : Hp → Prop} {f : Nat → List V} {n : Nat} {G : Hp} {gs : List PyData} (hl : gs.length = n) (hS : ∀ H G', Sub G G' → Sub G' H → S H) (hf : ∀ i, i < n → ∃ es, gs[i]? = some (.tuple es) ∧ DqAll K G (f i) es) : ItOk K (Itp S f n) G gs := by
  refine ⟨fun i H G1 s1 s2 hi => ⟨by omega, hS H G1 s1 s2⟩, fun H G1 s1 s2 => ⟨hl, hS H G1 s1 s2⟩, fun i H G1 x H' s1 s2 hi y => ?_⟩
  obtain ⟨T, rfl, hT, rfl⟩ := y
  obtain ⟨es, e1, e2⟩ := hf i (by omega)
  have st := Stp.fix (o := .tup (f i)) s2 hT
  exact ⟨_, _, e1, st, .tup (.inl (.inl upd_same)) (Sub.dqAll (s1.trans st.mono) _ _ e2)⟩

/-! ### enumerate -/
theorem turn_enumA {P : Program} {w : World} {K : PySem.W.Frag} {elts : List Expr} {kk : Nat} {tpos : Pos} (b : Bool) (a e it : Addr) (xs : List V) (hea : e ≠ a) (hia : a ≠ it) (hei : e ≠ it) :
    Turn P w K (.Tuple elts kk tpos) (Itp (fun H => SrcAt K b H a xs) (fun i => [.int (i : Nat), xs.getD i .non]) xs.length) [e, it] e (fun i h => (∃ old, IsEnum h e it ((i : Nat) : Int) old) ∧ IterAt b h it a i) where
  mem := by simp
  obj := fun i h st c hc => by
    obtain ⟨⟨old, he⟩, hi⟩ := st
    have e' : c = e ∨ c = it := by simpa using hc
    rcases e' with z | z
    · rw [z]; exact ⟨_, he, fun v q => nomatch q⟩
    · rw [z]; exact hi.obj
  keep := fun i h h' st k => let ⟨⟨old, he⟩, hi⟩ := st; ⟨⟨old, k e (by simp) _ he⟩, hi.keep fun o q => k it (by simp) o q⟩
  item := by
    intro X hP hw hK hc i pins s σ H E I hf st hg
    subst hP hw hK
    obtain ⟨⟨old, he⟩, hit⟩ := st
    obtain ⟨hi, hS⟩ := hg
    obtain ⟨its, rv, p⟩ := Inv.src I hS
    have hl := rv.length
    have D := draws_at (prog := X.prog) (w := X.w) (A := X.A.in1) b (I.ok.hd hc) it a hia its.toArray
    have W := WalksT.enumFrom (A := X.A) 0 D e hei (by simp; exact ⟨hei, hea⟩) (by simp)
    refine step_walksT (R := fun h => (∃ old, IsEnum h e it (((i + 1 : Nat) : Nat) : Int) old) ∧ IterAt b h it a (i + 1)) (L := [e, it]) (fun c hc => ⟨(hf c hc).1, by
      have e' : c = e ∨ c = it := by simpa using hc
      rcases e' with z | z
      · rw [z]; exact Heap.lt_size he
      · rw [z]; obtain ⟨o, ho, _⟩ := hit.obj; exact Heap.lt_size ho⟩) W I hf (i := i) (xs := [.int (i : Nat), xs.getD i .non]) (by simp; omega) ⟨⟨old, by rw [Int.zero_add]; exact he⟩, hit, p⟩ (by show 2 ≤ sizeLine; decide) (fun vals ⟨t, x, hx, ev⟩ => ?_) fun h' st' _ => ?_
    · subst ev
      have hx' : its[i]? = some x := by simpa using hx
      have hx2 : xs[i]? = some (xs.getD i .non) := by rw [List.getD_eq_getElem?_getD, List.getElem?_eq_getElem hi]; rfl
      obtain ⟨u, hu, ru⟩ := rv.get hx2
      rw [hx'] at hu
      cases hu
      exact .cons ⟨t, by rw [Int.zero_add]⟩ (.cons ru .nil)
    · obtain ⟨⟨old', he'⟩, hit', _⟩ := st'
      exact ⟨⟨old', by rw [Int.zero_add] at he'; exact he'⟩, hit'⟩
  done := by
    intro X hP hw hK hc i pins s σ H E I hf st hg
    subst hP hw hK
    obtain ⟨⟨old, he⟩, hit⟩ := st
    obtain ⟨hi, hS⟩ := hg
    obtain ⟨its, rv, p⟩ := Inv.src I hS
    have hl := rv.length
    have D := draws_at (prog := X.prog) (w := X.w) (A := X.A.in1) b (I.ok.hd hc) it a hia its.toArray
    subst hi
    rw [hl, show its.length = its.toArray.size by simp] at he hit
    refine wpAny_pyNext_enum_endD D he ⟨hit, p⟩ fun h' hx => ⟨rfl, ?_⟩
    obtain ⟨f0, f1, f2, f3, f4, f5⟩ := hf it (by simp)
    exact I.turned (t' := s.toks) (fun c o hc q => hx c o hc q) f0 f1 f3 f4 f5
  self := fun A i s Q E st h => let ⟨⟨_, he⟩, _⟩ := st; wpAny_pyIter_enum he h

set_option maxHeartbeats 1000000 in
theorem meets_enumerate1 {v : Value} {o : Obj} {H : Heap → Prop} (B : Begins v o H) :
    Meets (Builtin.«enumerate.__new__» ⟨[.type "enumerate", v], []⟩) (fun _ R s => H s.heap ∧
      R (.ok (.ret (.ref (s.heap.push o).objs.size))) { s with heap := (s.heap.push o).push { cls := .type "enumerate", data := .fields #[.none, .bool false, .ref s.heap.objs.size, rawInt 0, .none, .none] } }) :=
  .of_wp fun prog w A R s h => by
    obtain ⟨hp, g, d, tk, os⟩ := s; obtain ⟨h1, h⟩ := h
    have hsub := sub_enumerate
    have q1 : ∀ {A' : Around} {E : Value → Shared → Prop} {Q : Value → Shared → Prop}, Q (.ref hp.objs.size) ⟨hp.push o, g, d, tk, os⟩ → wpAny (model prog w) A' (pyIter v) Q E ⟨hp, g, d, tk, os⟩ :=
      fun q => B.iter prog w _ _ ⟨hp, g, d, tk, os⟩ _ h1 q
    wp_walk using q1
    refine wpAny_stack_any fun st => wpAny_pure ?_
    split
    · rename_i c _ _ _ _ _
      cases (c == Value.type "enumerate")
      · wp_walk using q1
        exact ⟨_, rfl, h⟩
      · wp_walk using q1
        exact ⟨_, rfl, h⟩
    · wp_walk using q1
      exact ⟨_, rfl, h⟩
section
variable {prog : Program} {w : World} {A : Around} {E : Value → Shared → Prop} {s : Shared}
theorem enum_begins1 {v : Value} {o : Obj} {H : Heap → Prop} {Q : Value → Shared → Prop} (B : Begins v o H) (h1 : H s.heap)
    (h : ∀ h', IsEnum h' (s.heap.objs.size + 1) s.heap.objs.size 0 .none → h'.get? s.heap.objs.size = some o → h'.objs.size = s.heap.objs.size + 2 →
      (∀ b o, s.heap.get? b = some o → h'.get? b = some o) → Q (.ref (s.heap.objs.size + 1)) { s with heap := h' }) :
    wpAny (model prog w) A (call (.type "enumerate") [v]) Q E s := by
  refine callType_new F.called_enumerate (by decide) (F.typeCall_enumerate_1 _) (F.newCall_enumerate_1 _) (fun obj => F.args_object_init_2 obj _) F.entry_enumerate_new
    (meets_enumerate1 B) ⟨h1, ?_⟩
  have hz : (s.heap.push o).objs.size = s.heap.objs.size + 1 := Heap.size_push ..
  show _ ∧ _
  rw [hz]
  have he : IsEnum ((s.heap.push o).push { cls := .type "enumerate", data := .fields #[.none, .bool false, .ref s.heap.objs.size, rawInt 0, .none, .none] }) (s.heap.objs.size + 1) s.heap.objs.size 0 .none := by
    have := Heap.get?_push_size (s.heap.push o) (o := { cls := .type "enumerate", data := .fields #[.none, .bool false, .ref s.heap.objs.size, rawInt 0, .none, .none] }) rfl
    rw [hz] at this; exact this
  refine ⟨⟨_, he, rfl⟩, h _ he (Heap.get?_push_of_some _ (Heap.get?_push_size _ B.free)) (by rw [Heap.size_push, hz]) fun b o x => Heap.get?_push_of_some _ (Heap.get?_push_of_some _ x)⟩
end
def enumD (ds : List PyData) : List PyData := ds.mapIdx fun i d => .tuple [.int (i : Nat), d]
def enumI (F : Mo Rv) : Mo (List PyData) := do
  let r ← F
  let d ← force r
  let ds ← liftO (itemsG d)
  pure (enumD ds)
section
variable {X : Cx} {fr : Fr} {elts : List Expr} {kk : Nat} {tpos : Pos}
theorem ei_enum {e : Expr} {F : Mo Rv} {p pos : Pos} (hg : Gl X "enumerate") (hm : X.mg "enumerate" = none) (he : PEv X fr e F) (hs : starEach [e] X.env = [(false, eval e X.env)] := by rfl) (hs' : starEach [e] X.env = (false, eval e X.env) :: starEach [] X.env := by rfl) :
    PIv X fr (.Tuple elts kk tpos) (.Call (.Name "enumerate" p) [e] [] pos) (enumI F) := by
  refine ⟨fun pins s σ H R I ⟨env, G, h, w⟩ => ?_⟩
  unfold enumI at w
  have hE : tCons (tE X.K fr F) tNil σ H fun vs H1 => ∃ v a b xs, vs = [v] ∧ v = .ref a ∧ SrcAt X.K b H1 a xs ∧ R (Itp (fun H => SrcAt X.K b H a xs) (fun i => [.int (i : Nat), xs.getD i .non]) xs.length) H1 := by
    show tE X.K fr F σ H _
    refine tE_then h w (fun r env1 H1 G1 v h1 s1 q1 w1 => ?_) fun c e1 E1 H1 G1 h1 s1 => E1 H1 G1 h1 s1
    obtain ⟨d, env2, G2, h2, s2, d2, w2⟩ := force_ok h1 q1 (wpM_bind.mp w1)
    obtain ⟨ds, e, w3⟩ := wpM_lift (wpM_bind.mp w2)
    have fin : ∀ (b : Bool) (a : Addr) (xs : List V), v = .ref a → SrcAt X.K b G2 a xs → DqAll X.K G2 xs ds → (∀ {G H : Hp}, Sub G H → SrcAt X.K b G a xs → SrcAt X.K b H a xs) →
        ∃ v' a b xs, [v] = [v'] ∧ v' = .ref a ∧ SrcAt X.K b H1 a xs ∧ R (Itp (fun H => SrcAt X.K b H a xs) (fun i => [.int (i : Nat), xs.getD i .non]) xs.length) H1 := fun b a xs ev hS q mono => by
      refine ⟨v, a, b, xs, rfl, ev, mono h2.sub hS, w3 H1 G2 _ h2 (s1.trans s2) (itOk_pairs (by unfold enumD; simp [q.length]) (fun H G' z1 z2 => mono z2 (mono z1 hS)) fun i hi => ?_)⟩
      have hx : xs[i]? = some (xs.getD i .non) := by rw [List.getD_eq_getElem?_getD, List.getElem?_eq_getElem hi]; rfl
      obtain ⟨d', e1, e2⟩ := q.getV hx
      exact ⟨[.int (i : Nat), d'], by unfold enumD; rw [List.getElem?_mapIdx, e1]; rfl, .cons (.int _) (.cons e2 .nil)⟩
    cases d2 with
    | lst k1 k2 => cases e; exact fin false _ _ rfl (.of k1) k2 fun s z => s.sqL z
    | tup k1 k2 => cases e; exact fin true _ _ rfl k1 k2 fun s z => s.sqT z
    | scr k1 k2 => cases e; exact fin false _ _ rfl k1 k2 fun s z => s.sqL z
    | _ => cases e
  refine Call_ (ld_blt I hg hm boot_enumerate (PyProof.Rows.callWith_type1 (thn ((pa_cons he pa_nil hs').run pos pins s σ H _ I hE) fun us s1 ⟨vs, H1, I1, r1, v, a, b, xs, ev, ea, hS, q⟩ => ?_) hs rfl))
  subst ev ea
  cases r1 with
  | cons r rr =>
    cases rr
    cases r
    obtain ⟨its, rv, p'⟩ := Inv.src I1 hS
    refine enum_begins1 (begins_at b a its.toArray) p' fun h' he ho hsz hk => wpAny_pyIter_enum he ?_
    have I2 : Inv X pins σ H1 { s1 with heap := h' } := I1.kept (t' := s1.toks) hk
    have hlt := p'.lt
    refine ⟨s1.heap.objs.size + 1, [s1.heap.objs.size + 1, s1.heap.objs.size], _, _, H1, rfl, I2, turn_enumA b a (s1.heap.objs.size + 1) s1.heap.objs.size xs (Nat.ne_of_gt (Nat.lt_succ_of_lt hlt)) (Nat.ne_of_lt hlt) (Nat.succ_ne_self _), ⟨⟨.none, he⟩, iter_new ho⟩, fun c hc => ?_, q⟩
    have e' : c = s1.heap.objs.size + 1 ∨ c = s1.heap.objs.size := by simpa using hc
    have hle : s1.heap.objs.size ≤ c := by
      rcases e' with z | z
      · rw [z]; exact Nat.le_add_right _ _
      · rw [z]; exact Nat.le_refl _
    exact I1.fpOk hle (I1.hok.fresh hle)
end

/-! ### zip -/
theorem turn_zipA {P : Program} {w : World} {K : PySem.W.Frag} {elts : List Expr} {kk : Nat} {tpos : Pos} (b1 b2 : Bool) {a1 a2 z TI TO i1 i2 : Addr} (xs ys : List V) (S : ZipSep2 z TI TO i1 i2 [i1, a1] [i2, a2]) (h1 : a1 ≠ i1) (h2 : a2 ≠ i2) :
    Turn P w K (.Tuple elts kk tpos) (Itp (fun H => SrcAt K b1 H a1 xs ∧ SrcAt K b2 H a2 ys) (fun i => [xs.getD i .non, ys.getD i .non]) (min xs.length ys.length)) [z, TO, i1, i2, TI] z
      (fun i h => IsZip h z TI TO .none ∧ IsTupOf2 h TI (.ref i1) (.ref i2) ∧ (∃ x y, IsTupOf2 h TO x y) ∧ IterAt b1 h i1 a1 i ∧ IterAt b2 h i2 a2 i) where
  mem := by simp
  obj := fun i h st c hc => by
    obtain ⟨hz, hTI, ⟨x, y, hTO⟩, k1, k2⟩ := st
    have e' : c = z ∨ c = TO ∨ c = i1 ∨ c = i2 ∨ c = TI := by simpa using hc
    rcases e' with q | q | q | q | q
    · rw [q]; exact ⟨_, hz, fun v q => nomatch q⟩
    · rw [q]; exact ⟨_, hTO, fun v q => nomatch q⟩
    · rw [q]; exact k1.obj
    · rw [q]; exact k2.obj
    · rw [q]; exact ⟨_, hTI, fun v q => nomatch q⟩
  keep := fun i h h' st k => by
    obtain ⟨hz, hTI, ⟨x, y, hTO⟩, k1, k2⟩ := st
    exact ⟨k z (by simp) _ hz, k TI (by simp) _ hTI, ⟨x, y, k TO (by simp) _ hTO⟩, k1.keep fun o q => k i1 (by simp) o q, k2.keep fun o q => k i2 (by simp) o q⟩
  item := by
    intro X hP hw hK hc i pins s σ H E I hf st hg
    subst hP hw hK
    obtain ⟨hz, hTI, hTO, k1, k2⟩ := st
    obtain ⟨hi, hS1, hS2⟩ := hg
    obtain ⟨its1, rv1, p1⟩ := Inv.src I hS1
    obtain ⟨its2, rv2, p2⟩ := Inv.src I hS2
    have l1 := rv1.length
    have l2 := rv2.length
    have W := WalksT.zipD2 (A := X.A) S (draws_at (prog := X.prog) (w := X.w) (A := X.A.in1) b1 (I.ok.hd hc) i1 a1 h1 its1.toArray) (draws_at (prog := X.prog) (w := X.w) (A := X.A.in1) b2 (I.ok.hd hc) i2 a2 h2 its2.toArray)
    have hf' : ∀ b ∈ [z, TO, i1, i2], FpOk X pins H b := fun b hb => hf b (by simp at hb ⊢; rcases hb with h | h | h | h <;> simp [h])
    have hTIn : TI ∉ [z, TO, i1, i2] := by
      simp only [List.mem_cons, List.not_mem_nil, or_false, not_or]
      exact ⟨S.TIz, S.TITO, S.TIi1, S.TIi2⟩
    refine step_walksT (L := [z, TO, i1, i2, TI]) (fun c hc => ⟨(hf c hc).1, by
      have e' : c = z ∨ c = TO ∨ c = i1 ∨ c = i2 ∨ c = TI := by simpa using hc
      obtain ⟨_, _, hTO⟩ := hTO
      rcases e' with q | q | q | q | q
      · rw [q]; exact Heap.lt_size hz
      · rw [q]; exact Heap.lt_size hTO
      · rw [q]; obtain ⟨o, ho, _⟩ := k1.obj; exact Heap.lt_size ho
      · rw [q]; obtain ⟨o, ho, _⟩ := k2.obj; exact Heap.lt_size ho
      · rw [q]; exact Heap.lt_size hTI⟩) (elts := elts) (kk := kk) (tpos := tpos) (E := E) (R := fun h => (IsZip h z TI TO .none ∧ IsTupOf2 h TI (.ref i1) (.ref i2) ∧ (∃ x y, IsTupOf2 h TO x y) ∧ IterAt b1 h i1 a1 (i + 1) ∧ IterAt b2 h i2 a2 (i + 1))) W I hf' (i := i) (xs := [xs.getD i .non, ys.getD i .non])
      (by simp; omega) ⟨hz, hTI, hTO, ⟨k1, p1⟩, ⟨k2, p2⟩⟩ (by show 2 ≤ sizeLine; decide) (fun vals ⟨x1, x2, hx1, hx2, ev⟩ => ?_) fun h' st' _ => ⟨st'.1, st'.2.1, st'.2.2.1, st'.2.2.2.1.1, st'.2.2.2.2.1⟩
    · subst ev
      have m1 : i < xs.length := by omega
      have m2 : i < ys.length := by omega
      have g1 : xs[i]? = some (xs.getD i .non) := by rw [List.getD_eq_getElem?_getD, List.getElem?_eq_getElem m1]; rfl
      have g2 : ys[i]? = some (ys.getD i .non) := by rw [List.getD_eq_getElem?_getD, List.getElem?_eq_getElem m2]; rfl
      obtain ⟨u1, hu1, ru1⟩ := rv1.get g1
      obtain ⟨u2, hu2, ru2⟩ := rv2.get g2
      have q1 : its1[i]? = some x1 := by simpa using hx1
      have q2 : its2[i]? = some x2 := by simpa using hx2
      rw [q1] at hu1
      rw [q2] at hu2
      cases hu1
      cases hu2
      exact .cons ru1 (.cons ru2 .nil)
  done := by
    intro X hP hw hK hc i pins s σ H E I hf st hg
    subst hP hw hK
    obtain ⟨hz, hTI, hTO, k1, k2⟩ := st
    obtain ⟨hi, hS1, hS2⟩ := hg
    obtain ⟨its1, rv1, p1⟩ := Inv.src I hS1
    obtain ⟨its2, rv2, p2⟩ := Inv.src I hS2
    have l1 := rv1.length
    have l2 := rv2.length
    have W := WalksT.zipD2 (A := X.A) S (draws_at (prog := X.prog) (w := X.w) (A := X.A.in1) b1 (I.ok.hd hc) i1 a1 h1 its1.toArray) (draws_at (prog := X.prog) (w := X.w) (A := X.A.in1) b2 (I.ok.hd hc) i2 a2 h2 its2.toArray)
    subst hi
    rw [l1, l2, show its1.length = its1.toArray.size by simp, show its2.length = its2.toArray.size by simp] at k1 k2
    refine W.done s _ _ ⟨hz, hTI, hTO, ⟨k1, p1⟩, ⟨k2, p2⟩⟩ fun h' tk hk => ⟨rfl, ?_⟩
    exact I.turnedL (ch := [z, TO, i1, i2]) hk fun b hb => hf b (by simp at hb ⊢; rcases hb with h | h | h | h <;> simp [h])
  self := fun A i s Q E st h => wpAny_pyIter_zip st.1 h

def zipD (xs ys : List PyData) : List PyData := List.zipWith (fun x y => .tuple [x, y]) xs ys
@[simp] def zipG : List PyData → Option (List PyData)
  | [a, b] => do
    let xs ← itemsG a
    let ys ← itemsG b
    pure (zipD xs ys)
  | _ => none
def zipI (Fs : Mo (List Rv)) : Mo (List PyData) := do
  let rs ← Fs
  let ds ← forces rs
  liftO (zipG ds)
theorem items_dq {K : PySem.W.Frag} {G : Hp} {d : PyData} {v : V} {ds : List PyData} (h : Dq K G v d) (e : itemsG d = some ds) : ∃ b a xs, v = .ref a ∧ SrcAt K b G a xs ∧ DqAll K G xs ds := by
  cases h with
  | lst k1 k2 => cases e; exact ⟨false, _, _, rfl, .of k1, k2⟩
  | tup k1 k2 => cases e; exact ⟨true, _, _, rfl, k1, k2⟩
  | scr k1 k2 => cases e; exact ⟨false, _, _, rfl, k1, k2⟩
  | _ => cases e
theorem SrcAt.mono {K : PySem.W.Frag} {b : Bool} {G H : Hp} {a : Addr} {xs : List V} (s : Sub G H) (h : SrcAt K b G a xs) : SrcAt K b H a xs := by
  cases b
  · exact s.sqL h
  · exact s.sqT h
section
variable {X : Cx} {fr : Fr} {elts : List Expr} {kk : Nat} {tpos : Pos}
theorem ei_zip {e e2 : Expr} {Fs : Mo (List Rv)} {p pos : Pos} (hg : Gl X "zip") (hm : X.mg "zip" = none) (ha : PAv X fr [e, e2] Fs) (hs : starEach [e, e2] X.env = (false, eval e X.env) :: starEach [e2] X.env := by rfl) (hpl : (backTo pos (starEach [e2] X.env)).any (·.1) = false := by rfl) :
    PIv X fr (.Tuple elts kk tpos) (.Call (.Name "zip" p) [e, e2] [] pos) (zipI Fs) := by
  refine ⟨fun pins s σ H R I ⟨env, G, h, w⟩ => ?_⟩
  unfold zipI at w
  have hE : tA X.K fr Fs σ H fun vs H1 => ∃ a1 a2 b1 b2 xs ys, vs = [.ref a1, .ref a2] ∧ SrcAt X.K b1 H1 a1 xs ∧ SrcAt X.K b2 H1 a2 ys ∧ R (Itp (fun H => SrcAt X.K b1 H a1 xs ∧ SrcAt X.K b2 H a2 ys) (fun i => [xs.getD i .non, ys.getD i .non]) (min xs.length ys.length)) H1 := by
    refine tA_then h w (fun rs env1 H1 G1 vs h1 s1 q1 w1 => ?_) fun c e1 E1 H1 G1 h1 s1 => E1 H1 G1 h1 s1
    obtain ⟨ds, env2, G2, h2, s2, d2, w2⟩ := forces_ok h1 q1 (wpM_bind.mp w1)
    obtain ⟨ds', e, w3⟩ := wpM_lift w2
    match ds, d2, e with
    | [d1, d3], .cons (v := v1) r1 (.cons (v := v2) r2 .nil), e =>
      simp only [zipG, Option.bind_eq_bind, Option.bind_eq_some_iff, Option.pure_def, Option.some.injEq] at e
      obtain ⟨l1, e1, l2, e2, rfl⟩ := e
      obtain ⟨b1, a1, xs, rfl, S1, y1⟩ := items_dq r1 e1
      obtain ⟨b2, a2, ys, rfl, S2, y2⟩ := items_dq r2 e2
      refine ⟨a1, a2, b1, b2, xs, ys, rfl, S1.mono h2.sub, S2.mono h2.sub, w3 H1 G2 _ h2 (s1.trans s2) (itOk_pairs (by unfold zipD; simp [y1.length, y2.length]) (fun H G' z1 z2 => ⟨(S1.mono z1).mono z2, (S2.mono z1).mono z2⟩) fun i hi => ?_)⟩
      have m1 : i < xs.length := by omega
      have m2 : i < ys.length := by omega
      have g1 : xs[i]? = some (xs.getD i .non) := by rw [List.getD_eq_getElem?_getD, List.getElem?_eq_getElem m1]; rfl
      have g2 : ys[i]? = some (ys.getD i .non) := by rw [List.getD_eq_getElem?_getD, List.getElem?_eq_getElem m2]; rfl
      obtain ⟨x, u1, u2⟩ := y1.getV g1
      obtain ⟨y, u3, u4⟩ := y2.getV g2
      exact ⟨[x, y], by unfold zipD; rw [List.getElem?_zipWith, u1, u3], .cons u2 (.cons u4 .nil)⟩
    | [], _, e => simp [zipG] at e
    | [_], _, e => simp [zipG] at e
    | _ :: _ :: _ :: _, _, e => simp [zipG] at e
  refine Call_ (ld_blt I hg hm PyProof.Rows.boot_zip (PyProof.Rows.callWith_type1 (thn (ha.run pos pins s σ H _ I hE) fun us s1 ⟨vs, H1, I1, r1, a1, a2, b1, b2, xs, ys, ev, S1, S2, q⟩ => ?_) hs hpl))
  subst ev
  cases r1 with
  | cons r rr =>
    cases rr with
    | cons r' rr =>
      cases rr
      cases r
      cases r'
      obtain ⟨its1, _, p1⟩ := Inv.src I1 S1
      obtain ⟨its2, _, p2⟩ := Inv.src I1 S2
      refine zip_begins2 (begins_at b1 a1 its1.toArray) (begins_at b2 a2 its2.toArray) p1 p2 fun h' hz hTI hTO h1 h2 hsz hk => wpAny_pyIter_zip hz ?_
      have I2 : Inv X pins σ H1 { s1 with heap := h' } := I1.kept (t' := s1.toks) hk
      have S := zip_sep2 (N := s1.heap.objs.size) (fp1 := [a1]) (fp2 := [a2]) (fun b hb => by rw [List.mem_singleton.mp hb]; exact p1.lt) (fun b hb => by rw [List.mem_singleton.mp hb]; exact p2.lt)
      refine ⟨_, [s1.heap.objs.size + 4, s1.heap.objs.size + 3, s1.heap.objs.size, s1.heap.objs.size + 1, s1.heap.objs.size + 2], _, _, H1, rfl, I2, turn_zipA b1 b2 xs ys S (Nat.ne_of_lt p1.lt) (Nat.ne_of_lt (Nat.lt_succ_of_lt p2.lt)), ⟨hz, hTI, ⟨_, _, hTO⟩, iter_new h1, iter_new h2⟩, fun c hc => ?_, q⟩
      have e' : c = s1.heap.objs.size + 4 ∨ c = s1.heap.objs.size + 3 ∨ c = s1.heap.objs.size ∨ c = s1.heap.objs.size + 1 ∨ c = s1.heap.objs.size + 2 := by simpa using hc
      have hle : s1.heap.objs.size ≤ c := by
        rcases e' with z | z | z | z | z
        · rw [z]; exact Nat.le_add_right _ _
        · rw [z]; exact Nat.le_add_right _ _
        · rw [z]; exact Nat.le_refl _
        · rw [z]; exact Nat.le_add_right _ _
        · rw [z]; exact Nat.le_add_right _ _
      exact I1.fpOk hle (I1.hok.fresh hle)
end
end Cf
/-! Cf, part U: defs that hold generator expressions; the end with their tables. -/
namespace Cf
open PySem PySem.Spec PyProof.Rows L2 GxR LamX

section
variable {P : Program} {w : World} {K : PySem.W.Frag} {mg : Str → Option Value} {base : Heap} {tabs : List Addr}
/-- THE RULE for a def whose code object is known -/
theorem Fun.okC {x qual : Str} {st : Stmt} {f c : Addr} {fd : FuncData} {N ps : List Str} {k : Nat} {sp : Sp} (F : Fun K x qual st f fd) (hcd : fd.code = .ref c) (S : FnScope N ps (defScope st)) (len : ∀ vs H Q E, sp vs H Q E → vs.length = ps.length)
    (hbody : ∀ (A : Around) (outer : List Env) (s : Shared) (H : Hp) (vs : List V) (Q : VK) (E : XK), Room k (A.deeper (envOfC qual (defScope st) s.heap.objs.size f (.ref c))) → sp vs H Q E →
      ∃ t, PSs (cxOf CX0 P w K mg base N qual (defScope st) f (.ref c) A outer s H E).nox (defBody st) t ∧ t { nx := fun _ H' => Q .non H', rt := Q } (start N vs) H) : FnOk P w K mg base CX0 (k + 1) f fd ps sp := by
  obtain ⟨oc, od, kV, doc, pm, an, cdv, ct, osl, rfl, lk, hcd'⟩ := F.ex
  have e : cdv = .ref c := hcd
  subst e
  refine fn_of lk hcd' S len fun A outer s H vs Q E hr hsp => ?_
  obtain ⟨t, h, q⟩ := hbody A outer s H vs Q E hr hsp
  exact ⟨t, h.nox, q⟩
theorem fn0C {x qual : Str} {st : Stmt} {f c : Addr} {fd : FuncData} {N ps : List Str} {k : Nat} {B : Mo Out} (F : Fun K x qual st f fd) (hcd : fd.code = .ref c) (S : FnScope N ps (defScope st)) (hp : ps.length ≤ N.length)
    (hbody : ∀ (A : Around) (outer : List Env) (s : Shared) (H : Hp) (E : XK) (p : Hp), Room k (A.deeper (envOfC qual (defScope st) s.heap.objs.size f (.ref c))) →
      PBs (cxOf CX0 P w K mg base N qual (defScope st) f (.ref c) A outer s H E).nox ⟨p, [], tabs, fun _ _ => False⟩ (defBody st) B) : FnOk P w K mg base CX0 (k + 1) f fd ps (sp0 K tabs ps.length (runF N.length B)) := by
  refine Fun.okC F hcd S (fun vs H Q E ⟨G, ds, _, _, h1, h2, _⟩ => h2.length.trans h1) (fun A outer s H vs Q E hr h => ?_)
  obtain ⟨G, ds, h1, h2, h3, h4, r, h5, h6⟩ := h
  refine ⟨_, hbody A outer s H E _ hr, _, G, sr_start (W := fun _ _ => False) h1 h2 h4 (by omega), ?_⟩
  have new : ∀ {H' G' : Hp}, Sub G G' → (∀ P ∈ tabs, TabOk H' P ∧ G' P = none) → ∀ a xs, H' a = some (.lst xs) → G' a = none → privOf tabs (fun _ => False) H G a = none → a ∉ ([] : List Addr) → H a = none := fun sG tb a xs k1 k2 k3 _ => by
    refine privOf_none k3 (sub_none sG k2) (fun z => ?_) id
    obtain ⟨⟨ps', e, _⟩, _⟩ := tb a z
    rw [e] at k1
    cases k1
  have kept : ∀ {env' : Fv} {σ' : L2.St} {H' G' : Hp}, SR K ⟨privOf tabs (fun _ => False) H G, [], tabs, fun _ _ => False⟩ env' σ' H' G' → Kept tabs (fun _ => False) H G H' G' := fun h b o e1 e2 e3 e4 => by
    have e5 : privOf tabs (fun _ => False) H G b = some o := by
      unfold privOf
      rw [if_pos ⟨e2, e3, id⟩]
      exact e1
    exact ⟨h.prot b o e5, h.dj b (ne_none_of e5)⟩
  unfold runF at h5
  unfold wpM
  cases z : (B (env0 N.length (ds.map .sh)) : Res Out) with
  | stuck => rw [z] at h5; cases h5
  | exc c e => rw [z] at h5; cases h5
  | ok o e =>
    rw [z] at h5
    unfold finF at h5
    cases o with
    | nx =>
      cases h5
      exact fun σ' H' G' h s => h6 H' G' .non s h.sub h.tab (kept h) .non
    | rt r1 =>
      have h7 : outV (.rt r1) e = some r := by
        cases y : outV (.rt r1) e with
        | none => simp only [y] at h5; cases h5
        | some r2 => simp only [y] at h5; cases h5; rfl
      exact fun σ' H' G' v h s q => h6 H' G' v s h.sub h.tab (kept h) (retV_ok h q h7 (new s h.tab))
    | bk => cases h5
    | ct => cases h5
end

/-- the tables of the defs that the top has made are empty at the law's call -/
theorem walk_owns {l : PySem.W.OpenLaw} {n k : Nat} {q : Program} {loose : List Str} {XP : (Str → Option Value) → Heap → Prop} {YP : World → Heap → Prop} {d : DefRec} {K : Params → PySem.W.Frag} {CX : World → CXT} {x : Str}
    (hn : l.most = some n) (hn2 : n ≤ sizeLine) (hdf : d.params.defaults = []) (hr : Room k callerA) (hY : ∀ (w : World) (h : Heap), YP w h → (K w.params).In h)
    (F : ∀ (w : World) (mg : Str → Option Value) (fa : Addr) (h : Heap), (K w.params).In h → h.Ns mainGlobals mg → mg d.name = some (.ref fa) →
      (∀ (y : Str) (f : Addr), ((recsOf q).any fun e => e.name == y) = true → mg y = some (.ref f) → OwnTab (K w.params) f h) → LawAtS l w (K w.params) (CX w) k n x mg fa h)
    (hCX : ∀ (w : World) (H : Hp) (s : Shared) (e : Value) (s' : Shared), CX w [] H s (fun _ _ _ => False) e s' → False) :
    PySem.W.WalkO q loose XP YP l.row.toRowW d [] (fun f vs => PySem.call f vs) := by
  refine Att.attach_callB hn hdf fun w s₀ s₁ mg mb fa o pm cd doc a vs ns G Y ho hd hcd hmg hobj hints hlen hbits hg => ?_
  have KX := hY w _ Y
  have own : ∀ (y : Str) (f : Addr), ((recsOf q).any fun e => e.name == y) = true → mg y = some (.ref f) → OwnTab (K w.params) f s₁.heap := fun y f hrec hmy c P o1 fd1 e dd vs1 sl k1 k2 k3 k4 k5 => by
    obtain ⟨dL, hm, hn1⟩ := List.any_eq_true.mp hrec
    have hn2 : dL.name = y := beq_iff_eq.mp hn1
    obtain ⟨a', o', fd', c', P', h1, h2, h3, h4, h5, h6⟩ := G.T.tab dL hm
    rw [hn2, hmy] at h1
    cases h1
    have g1 := KX _ _ k1
    rw [g1] at h2
    cases h2
    rw [k2] at h3
    cases h3
    rw [k3] at h4
    cases h4
    obtain ⟨⟨oc, vc, e1, _, e3, e4⟩, hP⟩ := h6
    have g2 := KX _ _ k4
    rw [g2] at e1
    cases e1
    cases e3
    rw [k5] at e4
    cases e4
    exact hP
  obtain ⟨fd, cs, sp, hT, nT, C, hb, hsp, hF⟩ := F w mg fa _ KX G.T.g hmg own
  exact law_callTs KX G.T.g G.T.b G.T.builtins G.T.nolimit hg hT nT C G.T.bmain hobj hints (Nat.le_trans hlen hn2) hr hF hb (fun H hH hS => hsp H a ns hlen hbits hH hS) fun H e s' => hCX w H s₁ e s'

/-! ### constants of the module: texts, tuples of the written part -/
def mapO {α β : Type} (f : α → Option β) : List α → Option (List β)
  | [] => some []
  | u :: us => match f u with
    | some d => (mapO f us).map (d :: ·)
    | none => none
/-- a value of the written part -/
def readK (K : PySem.W.Frag) : Nat → Value → Option PyData
  | 0, _ => none
  | n + 1, u => match u with
    | .none => some .none
    | .bool b => some (.bool b)
    | .int i _ => some (.int i)
    | .str x _ => some (.str x)
    | .ref a => match K.lookup a with
      | some o => match o.cls, o.data with
        | .type c, .seq its _ => if c = "tuple" ∧ its.size ≤ sizeLine then (mapO (readK K n) its.toList).map .tuple else none
        | _, _ => none
      | _ => none
    | _ => none
theorem mapO_dq {K : PySem.W.Frag} {f : Value → Option PyData} (hf : ∀ u d, f u = some d → ∃ v, RelV v u ∧ Dq K (fun _ => none) v d) : ∀ (us : List Value) (ds : List PyData), mapO f us = some ds → ∃ vs, Vals vs us ∧ DqAll K (fun _ => none) vs ds
  | [], ds, h => by simp only [mapO, Option.some.injEq] at h; subst h; exact ⟨[], .nil, .nil⟩
  | u :: us, ds, h => by
    unfold mapO at h
    split at h
    · rename_i d e
      simp only [Option.map_eq_some_iff] at h
      obtain ⟨ds', h1, rfl⟩ := h
      obtain ⟨v, r, q⟩ := hf u d e
      obtain ⟨vs, r', q'⟩ := mapO_dq hf us ds' h1
      exact ⟨v :: vs, .cons r r', .cons q q'⟩
    · cases h
theorem readK_dq {K : PySem.W.Frag} : ∀ (n : Nat) (u : Value) (d : PyData), readK K n u = some d → ∃ v, RelV v u ∧ Dq K (fun _ => none) v d
  | 0, u, d, h => by simp [readK] at h
  | n + 1, u, d, h => by
    unfold readK at h
    split at h
    · simp only [Option.some.injEq] at h; subst h; exact ⟨.non, rfl, .non⟩
    · simp only [Option.some.injEq] at h; subst h; exact ⟨.bl _, rfl, .bl _⟩
    · simp only [Option.some.injEq] at h; subst h; exact ⟨.int _, ⟨_, rfl⟩, .int _⟩
    · simp only [Option.some.injEq] at h; subst h; exact ⟨.str _, ⟨_, rfl⟩, .str _⟩
    · rename_i a
      split at h
      · rename_i o e
        split at h
        · rename_i c its m e1 e2
          split at h
          · rename_i hz
            simp only [Option.map_eq_some_iff] at h
            obtain ⟨ds, h1, rfl⟩ := h
            obtain ⟨vs, r, q⟩ := mapO_dq (readK_dq n) _ _ h1
            exact ⟨.ref a, rfl, .tup (.inr ⟨o, its, m, e, by rw [e1, hz.1], e2, hz.2, r⟩) q⟩
          · cases h
        · cases h
      · cases h
    · cases h
theorem ev_globD {X : Cx} {fr : Fr} {x : Str} {pos : Pos} {d : PyData} (hg : Gl X x) (hm : ∃ u n, X.mg x = some u ∧ readK X.K n u = some d) (hdb : (x == ("__debug__" : Str)) = false := by decide) : PEv X fr (.Name x pos) (constF d) := by
  obtain ⟨u, n, h, e⟩ := hm
  obtain ⟨v, r, q⟩ := readK_dq n u d e
  exact ev_glob hg h r q hdb
end Cf
namespace Cf
open PySem PySem.Spec PyProof.Rows L2
theorem hid_eb {X : Cx} {fr : Fr} {e : Expr} {F : Mo Bool} (h : PBv X fr e F) : PBv X fr e (hide F) := by
  rw [hide_eq]
  exact h
end Cf
namespace Cf
open PySem PySem.Spec PyProof.Rows L2
theorem ev_call0 {X : Cx} {fr : Fr} {x : Str} {p pos : Pos} {k : Nat} {f : Addr} {fd : FuncData} {ps : List Str} {g : List PyData → FnR} (F : FnOk X.prog X.w X.K X.mg X.base CX0 k f fd ps (sp0 X.K fr.tabs 0 g)) (hr : Room k X.A) (hg : Gl X x) (hm : X.mg x = some (.ref f)) (hk : PySem.W.keepIn X.K (.ref f) = true) (hb : Binds X.K fd ps [])
    (hdb : (x == ("__debug__" : Str)) = false := by decide) :
    PEv X fr (.Call (.Name x p) [] [] pos) (callF 0 g nilF) :=
  weakE (pe_call0 F hr hg hm hk hb .nil (pass0) hdb) fun σ H Q ⟨env, G, h, w⟩ => by
    have w' : wpM (endF (g [])) env (fun r env' => ∀ H' G' v, SR X.K fr env' σ H' G' → Sub G G' → RvOk X.K fr env' σ H' G' v r → Q v H') (fun c env' => ∀ H' G', SR X.K fr env' σ H' G' → Sub G G' → fr.W c H') := w
    show sp0 X.K fr.tabs 0 g ([] ++ []) H Q E0
    cases z : g [] with
    | exc c => rw [z] at w'; exact w'.elim
    | stuck => rw [z] at w'; exact w'.elim
    | ok r =>
      rw [z] at w'
      exact ⟨G, [], h.sub, h.tab, rfl, .nil, r, z, fun H' G' v sG sH t k q => w' H' G' v (h.kept sG sH t k) sG (q.ok h)⟩
end Cf
/-! Cf, part V: how generator expressions, pairs, loops are reckoned. -/
namespace Cf
open PySem PySem.Spec PyProof.Rows L2

@[simp ↓] theorem pkI_app (F : Mo Rv) (e : Fv) : pkI F e = (do
  let r ← F
  let d ← peek (hold r)
  liftO (itemsG d) : Mo (List PyData)) e := Eq.trans rfl rfl
@[simp ↓] theorem enumI_app (F : Mo Rv) (e : Fv) : enumI F e = (do
  let r ← F
  let d ← force r
  let ds ← liftO (itemsG d)
  pure (enumD ds) : Mo (List PyData)) e := Eq.trans rfl rfl
@[simp ↓] theorem zipI_app (Fs : Mo (List Rv)) (e : Fv) : zipI Fs e = (do
  let rs ← Fs
  let ds ← forces rs
  liftO (zipG ds) : Mo (List PyData)) e := Eq.trans rfl rfl
/-- the answer of all, any over one name -/
def quantB (stop : Bool) (p : PyData → Bool) (ds : List PyData) : Bool := if stop = true then ds.any p else ds.all p
theorem quantL_one {stop : Bool} {v : Nat} {C B : Mo Bool} {c : Fv} {q p : PyData → Bool} :
    ∀ (ds : List PyData) (x : Sl), (∀ d ∈ ds, C (c.set v (.sh d)) = .ok (q d) (c.set v (.sh d))) → (∀ d ∈ ds, q d = true → B (c.set v (.sh d)) = .ok (p d) (c.set v (.sh d))) →
    ∃ e', quantL stop (toSlot v) C B ds (c.set v x) = .ok (quantB stop (fun d => if stop = true then q d && p d else !q d || p d) ds) e'
  | [], x, _, _ => ⟨c.set v x, by cases stop <;> rfl⟩
  | d :: ds, x, hC, hB => by
    have e1 : (c.set v x).set v (.sh d) = c.set v (.sh d) := by rw [List.set_set]
    obtain ⟨e', ih⟩ := quantL_one (stop := stop) ds (.sh d) (fun y hy => hC y (by simp [hy])) (fun y hy => hB y (by simp [hy]))
    unfold quantL
    simp only [thenU, toSlot, storeF, e1, bind_app, hC d (by simp)]
    cases hq : q d with
    | false =>
      simp only [Bool.false_eq_true, if_false]
      exact ⟨e', by rw [ih]; cases stop <;> simp [quantB, hq]⟩
    | true =>
      simp only [if_true, bind_app, hB d (by simp) hq]
      by_cases hs : p d = stop
      · refine ⟨c.set v (.sh d), ?_⟩
        rw [if_pos hs]
        cases stop <;> simp [quantB, hq, hs]
      · refine ⟨e', ?_⟩
        rw [if_neg hs, ih]
        cases stop <;> simp_all [quantB]
/-- all(.. for x in ..) -/
theorem all_one {v : Nat} {ixs : List Nat} {m : Nat} {Io : Mo (List PyData)} {B : Mo Bool} {e e' : Fv} {ds : List PyData} (p : PyData → Bool) (hI : Io e = .ok ds e') (hv : (capE ixs m e')[v]? = some .un)
    (hB : ∀ d ∈ ds, B ((capE ixs m e').set v (.sh d)) = .ok (p d) ((capE ixs m e').set v (.sh d))) : quantF false ixs m Io (toSlot v) yesF B e = .ok (ds.all p) e' := by
  unfold quantF
  simp only [bind_app, hI]
  unfold inGen
  have e0 : capE ixs m e' = (capE ixs m e').set v .un := by
    obtain ⟨h1, h2⟩ := List.getElem?_eq_some_iff.mp hv
    rw [← h2]
    simp
  obtain ⟨e'', h⟩ := quantL_one (stop := false) (v := v) (C := yesF) (B := B) (c := capE ixs m e') (q := fun _ => true) (p := p) ds .un (fun d _ => yesF_app _) (fun d hd _ => hB d hd)
  rw [← e0] at h
  rw [h]
  simp [quantB]
theorem any_one {v : Nat} {ixs : List Nat} {m : Nat} {Io : Mo (List PyData)} {B : Mo Bool} {e e' : Fv} {ds : List PyData} (p : PyData → Bool) (hI : Io e = .ok ds e') (hv : (capE ixs m e')[v]? = some .un)
    (hB : ∀ d ∈ ds, B ((capE ixs m e').set v (.sh d)) = .ok (p d) ((capE ixs m e').set v (.sh d))) : quantF true ixs m Io (toSlot v) yesF B e = .ok (ds.any p) e' := by
  unfold quantF
  simp only [bind_app, hI]
  unfold inGen
  have e0 : capE ixs m e' = (capE ixs m e').set v .un := by
    obtain ⟨h1, h2⟩ := List.getElem?_eq_some_iff.mp hv
    rw [← h2]
    simp
  obtain ⟨e'', h⟩ := quantL_one (stop := true) (v := v) (C := yesF) (B := B) (c := capE ixs m e') (q := fun _ => true) (p := p) ds .un (fun d _ => yesF_app _) (fun d hd _ => hB d hd)
  rw [← e0] at h
  rw [h]
  simp [quantB]
/-- a loop that returns k at the first d with p, else goes on and leaves the slots but v as they were -/
theorem loop_first {v : Nat} {B : Mo Out} {c : Fv} {p : PyData → Bool} {r : PyData → Rv} :
    ∀ (ds : List PyData) (x : Sl), (∀ d ∈ ds, ∃ y, B (c.set v (.sh d)) = if p d = true then .ok (.rt (r d)) (c.set v y) else .ok .nx (c.set v y)) →
    ∃ e' , loopF (toSlot v) B ds (c.set v x) = (match ds.find? p with
      | some d => .ok (.rt (r d)) (c.set v e')
      | none => .ok .nx (c.set v e'))
  | [], x, _ => ⟨x, rfl⟩
  | d :: ds, x, h => by
    obtain ⟨y, hy⟩ := h d (by simp)
    have e1 : (c.set v x).set v (.sh d) = c.set v (.sh d) := by rw [List.set_set]
    rw [loop_cons]
    simp only [thenU, toSlot, storeF, e1, hy]
    cases hp : p d with
    | true => exact ⟨y, by simp [hp]⟩
    | false =>
      obtain ⟨e', ih⟩ := loop_first ds y (fun z hz => h z (by simp [hz]))
      exact ⟨e', by simp [hp, ih]⟩
end Cf
namespace Cf
open PySem PySem.Spec PyProof.Rows L2
/-- enumerate from j -/
def en (j : Int) : List PyData → List PyData
  | [] => []
  | d :: ds => .tuple [.int j, d] :: en (j + 1) ds
theorem enumD_go : ∀ (ds : List PyData) (j : Nat), ds.mapIdx (fun i d => PyData.tuple [.int ((j + i : Nat) : Int), d]) = en j ds
  | [], j => rfl
  | d :: ds, j => by
    rw [List.mapIdx_cons]
    show _ :: _ = _ :: en ((j : Int) + 1) ds
    congr 1
    have e : ((j : Int) + 1) = ((j + 1 : Nat) : Int) := by omega
    rw [e, ← enumD_go ds (j + 1)]
    congr 1
    funext i d
    rw [show j + (i + 1) = j + 1 + i by omega]
theorem enumD_eq (ds : List PyData) : enumD ds = en 0 ds := by
  have := enumD_go ds 0
  simpa [enumD] using this
end Cf
namespace Cf
open PySem PySem.Spec PyProof.Rows L2
/-- a comprehension that nothing passes -/
theorem lc_none {v : Nat} {Io : Mo (List PyData)} {C : Mo Bool} {F : Mo Rv} {e0 e : Fv} {ds : List PyData} (hI : Io e0 = .ok ds e) (hv : v < e.length) (no : noOwn [v] e = true) (hl : ds.length ≤ sizeLine)
    (hC : ∀ d ∈ ds, C (e.set v (.sh d)) = .ok false (e.set v (.sh d))) : lcF [v] Io (toSlot v) C F e0 = .ok (.fr []) e := by
  have := lc_one (F := F) (fun _ => false) id hI hv no hl hC fun _ _ z => by cases z
  rw [List.filter_eq_nil_iff.mpr (by simp)] at this
  exact this
theorem seqI_sh {i : Nat} {e : Fv} {ds : List PyData} (h : e[i]? = some (.sh (.list ds))) : seqI (readF i) e = .ok ds e := by
  simp [h]
theorem seqI_tup {i : Nat} {e : Fv} {ds : List PyData} (h : e[i]? = some (.sh (.tuple ds))) : seqI (readF i) e = .ok ds e := by
  simp [h]
theorem seqI_own {i : Nat} {e : Fv} {ds : List PyData} (h : e[i]? = some (.own none ds)) : seqI (readF i) e = .ok ds (e.set i (.sh (.list ds))) := by
  simp [h]
theorem eqG_empty : eqG (.list []) (.list []) = some (.sh (.bool true)) := eqG_nil0
theorem neG_empty : neG (.list []) (.list []) = some (.sh (.bool false)) := by
  simp [neG, eqOk, PyData.canLay0, PyData.canLayAll0, PyData.depth, PyData.depthAll, PyData.eqv, PyData.eqvAll]
theorem neG_nil {ds : List PyData} (h : ∀ d ∈ ds, d.canLay0 = true) : neG (.list ds) (.list []) = some (.sh (.bool (!ds.isEmpty))) := by
  have e := eqG_nil h
  unfold eqG at e
  unfold neG
  split at e
  · rename_i c
    rw [if_pos c]
    simp only [Option.some.injEq, Rv.sh.injEq, PyData.bool.injEq] at e
    rw [e]
  · cases e
end Cf
namespace Cf
open PySem PySem.Spec PyProof.Rows L2
theorem lcLoop_map {α : Type} {D : α → PyData} {v : Nat} {C : Mo Bool} {F : Mo Rv} {e : Fv} (hv : v < e.length) {p : α → Bool} {g : α → PyData} :
    ∀ (ds : List α) (acc : List PyData) (e' : Fv), e'.set v .un = e.set v .un → acc.length + ds.length ≤ sizeLine →
    (∀ d ∈ ds, C (e.set v (.sh (D d))) = .ok (p d) (e.set v (.sh (D d)))) →
    (∀ d ∈ ds, p d = true → (F >>= force) (e.set v (.sh (D d))) = .ok (g d) (e.set v (.sh (D d)))) →
    ∃ e'', e''.set v .un = e.set v .un ∧ lcLoop [v] (toSlot v) C F (ds.map D) acc e' = .ok (acc ++ (ds.filter p).map g) e''
  | [], acc, e', he, _, _, _ => ⟨e', he, by simp [lcLoop]⟩
  | d :: ds, acc, e', he, hl, hC, hF => by
    have e1 : (e.set v Sl.un).set v (.sh (D d)) = e.set v (.sh (D d)) := by rw [List.set_set]
    rw [List.map_cons]
    unfold lcLoop
    simp only [wipeE, he, thenU, toSlot, storeF, e1, bind_app, hC d (by simp)]
    have hl' : acc.length + (ds.length + 1) ≤ sizeLine := by simpa using hl
    by_cases hp : p d = true
    · have f := hF d (by simp) hp
      simp only [hp, if_true]
      rw [bind_app] at f
      rw [bind_app]
      cases z : (F (e.set v (.sh (D d))) : Res Rv) with
      | exc c e2 => rw [z] at f; simp at f
      | stuck => rw [z] at f; simp at f
      | ok r e2 =>
        rw [z] at f
        simp only [f, bind_app] at f ⊢
        rw [if_pos (by omega)]
        obtain ⟨e'', h1, h2⟩ := lcLoop_map hv ds (acc ++ [g d]) (e.set v (.sh (D d))) (by rw [List.set_set]) (by simp; omega) (fun x hx => hC x (by simp [hx])) (fun x hx => hF x (by simp [hx]))
        exact ⟨e'', h1, by rw [h2]; simp [hp]⟩
    · simp only [hp, if_false]
      obtain ⟨e'', h1, h2⟩ := lcLoop_map hv ds acc (e.set v (.sh (D d))) (by rw [List.set_set]) (by omega) (fun x hx => hC x (by simp [hx])) (fun x hx => hF x (by simp [hx]))
      exact ⟨e'', h1, by simp [h2, hp]⟩
theorem lc_map {α : Type} {D : α → PyData} {v : Nat} {Io : Mo (List PyData)} {C : Mo Bool} {F : Mo Rv} {e0 e : Fv} {l : List α} (p : α → Bool) (g : α → PyData) (hI : Io e0 = .ok (l.map D) e) (hv : v < e.length) (no : noOwn [v] e = true) (hl : l.length ≤ sizeLine)
    (hC : ∀ d ∈ l, C (e.set v (.sh (D d))) = .ok (p d) (e.set v (.sh (D d))))
    (hF : ∀ d ∈ l, p d = true → (F >>= force) (e.set v (.sh (D d))) = .ok (g d) (e.set v (.sh (D d)))) : lcF [v] Io (toSlot v) C F e0 = .ok (.fr ((l.filter p).map g)) e := by
  obtain ⟨e'', h1, h2⟩ := lcLoop_map (D := D) hv l [] e rfl (by simpa using hl) hC hF
  have hb : restE e [v] e'' = e := by
    simp only [restE]
    have : ∀ x, e''.set v x = e.set v x := fun x => by
      have := congrArg (fun l : Fv => l.set v x) h1
      simpa [List.set_set] using this
    rw [this, List.getElem?_eq_getElem hv]
    simp
  unfold lcF
  simp only [bind_app, hI]
  unfold block
  rw [if_pos no, h2]
  simp only [hb, pure_app, List.nil_append]
end Cf
/-! Cf, part X: sum, min, max, sorted, gcd; order of alike data. -/
namespace Cf
open PySem PySem.Spec PyProof.Rows L2 PySem.W

/-! ### sum of ints -/
def intsOf : List PyData → Option (List Int)
  | [] => some []
  | .int i :: ds => (intsOf ds).map (i :: ·)
  | _ :: _ => none
def sumG : List PyData → Option Rv
  | [.list ds] => (intsOf ds).map fun ns => .sh (.int ns.sum)
  | [.tuple ds] => (intsOf ds).map fun ns => .sh (.int ns.sum)
  | _ => none
theorem intsOf_map (ns : List Int) : intsOf (ns.map .int) = some ns := by
  induction ns with
  | nil => rfl
  | cons n ns ih => rw [List.map_cons, intsOf, ih]; rfl
theorem intsOf_some : ∀ {ds : List PyData} {ns : List Int}, intsOf ds = some ns → ds = ns.map .int
  | [], ns, h => by cases h; rfl
  | d :: ds, ns, h => by
    cases d <;> simp only [intsOf] at h <;> try cases h
    cases q : intsOf ds with
    | none => rw [q] at h; cases h
    | some ms => rw [q] at h; cases h; rw [intsOf_some q]; rfl
theorem dq_intsV {K : PySem.W.Frag} {G : Hp} : ∀ {ns : List Int} {xs : List V}, DqAll K G xs (ns.map .int) → xs = ns.map V.int
  | [], xs, h => by cases h; rfl
  | n :: ns, xs, h => by
    cases h with
    | cons h1 h2 => rw [dq_int h1, dq_intsV h2]; rfl
section
variable {X : Cx}
def rSumT (K : PySem.W.Frag) : List V → Hp → VK → Prop := fun vs H Q => ∃ (a : Addr) (ns : List Int), vs = [V.ref a] ∧ SqT K H a (ns.map V.int) ∧ Q (.int ns.sum) H
theorem cr_sumT (hc : X.calm = true) : CallR X (.builtin "sum") (rSumT X.K) := by
  intro pins s σ H vs us Q I r h
  obtain ⟨a, ns, rfl, hs, q⟩ := h
  obtain ⟨its, rv, hl, _⟩ := I.tuple hs
  rw [Vals.ref1 r]
  have hi := rv.ints
  obtain ⟨xs, hx⟩ := hi.allInts.items
  have hn : numsOf its.toArray.toList = ns := by rw [show its.toArray.toList = its from rfl, hi.numsOf]
  have hl' : s.heap.IsTuple a its.toArray := hl
  rw [hx] at hl' hn
  rw [nums_intItems] at hn
  refine ktm_sumG (I.ok.hd hc) hl' fun h' tk t' hk => ?_
  rw [preSum_eq, List.take_of_length_le (by simp), hn]
  exact ⟨.int _, H, I.kept hk, ⟨_, rfl⟩, q⟩
theorem opN_sum (hc : X.calm = true) : OpN X (.builtin "sum") sumG := by
  refine ⟨_, (cr_sum hc).or (cr_sumT hc), fun vs H G ds res Q s p e q => ?_⟩
  match ds, e with
  | [.list ds], e =>
    simp only [sumG, Option.map_eq_some_iff] at e
    obtain ⟨ns, e1, rfl⟩ := e
    have := intsOf_some e1
    subst this
    obtain ⟨v, rfl, p1⟩ := pks1 p
    obtain ⟨a, xs, rfl, h1, h2⟩ := p1
    rw [dq_intsV h2] at h1
    exact .inl ⟨a, ns, rfl, .of h1, q H G _ (.refl s) (.int _)⟩
  | [.tuple ds], e =>
    simp only [sumG, Option.map_eq_some_iff] at e
    obtain ⟨ns, e1, rfl⟩ := e
    have := intsOf_some e1
    subst this
    obtain ⟨v, rfl, p1⟩ := pks1 p
    obtain ⟨a, xs, rfl, h1, h2⟩ := dq_tup p1
    rw [dq_intsV h2] at h1
    exact .inr ⟨a, ns, rfl, s.sqT h1, q H G _ (.refl s) (.int _)⟩
end

/-! ### alike data -/
def alikesB (ds : List PyData) : Bool := (ds.all fun a => ds.all fun b => alike a b) && ds.all fun a => !isNoneD a
def alikeOk (ds : List PyData) : Bool := alikesB ds && PyData.canLayAll0 ds && decide (PyData.depthAll ds ≤ 60)
theorem alikeOk_p {ds : List PyData} (h : alikeOk ds = true) : AlikeAll ds ∧ PyData.canLayAll0 ds = true ∧ PyData.depthAll ds ≤ 60 := by
  simp only [alikeOk, alikesB, Bool.and_eq_true, decide_eq_true_eq, List.all_eq_true] at h
  refine ⟨⟨h.1.1.1, fun x hx e => ?_⟩, h.1.2, h.2⟩
  have := h.1.1.2 x hx
  rw [e] at this
  cases this
theorem each_of {K : PySem.W.Frag} {G : Hp} : ∀ {xs : List V} {us : List Value} {ds : List PyData}, Vals xs us → DqAll K G xs ds → EachIs (fun u d => ∃ x, RelV x u ∧ Dq K G x d) us ds
  | _, _, _, .nil, .nil => .nil
  | _, _, _, .cons r t, .cons d e => .cons ⟨_, r, d⟩ (each_of t e)
theorem of_each {K : PySem.W.Frag} {G : Hp} : ∀ {us : List Value} {ds : List PyData}, EachIs (fun u d => ∃ x, RelV x u ∧ Dq K G x d) us ds → ∃ xs, Vals xs us ∧ DqAll K G xs ds
  | _, _, .nil => ⟨[], .nil, .nil⟩
  | _, _, .cons ⟨x, r, d⟩ t => by
    obtain ⟨xs, h1, h2⟩ := of_each t
    exact ⟨x :: xs, .cons r h1, .cons d h2⟩
theorem each_reads {h : Heap} : ∀ {vs : List Value} {ds : List PyData} {as : List Addr}, ReadsAll h vs ds as → EachIs (fun v d => ∃ as, Reads h v d as) vs ds
  | _, _, _, .nil => .nil
  | _, _, _, .cons r t => .cons ⟨_, r⟩ (each_reads t)

/-! ### min, max -/
def minG : List PyData → Option Rv
  | [.list (x :: xs)] => if alikeOk (x :: xs) = true then some (.sh (minD x xs)) else none
  | [.tuple (x :: xs)] => if alikeOk (x :: xs) = true then some (.sh (minD x xs)) else none
  | _ => none
def maxG : List PyData → Option Rv
  | [.list (x :: xs)] => if alikeOk (x :: xs) = true then some (.sh (maxD x xs)) else none
  | [.tuple (x :: xs)] => if alikeOk (x :: xs) = true then some (.sh (maxD x xs)) else none
  | _ => none
section
variable {X : Cx}
/-- b: a tuple -/
def rBest (X : Cx) (b : Bool) (f : PyData → List PyData → PyData) : List V → Hp → VK → Prop := fun vs H Q => ∃ (a : Addr) (xs : List V) (d : PyData) (ds : List PyData) (G : Hp), Sub G H ∧ vs = [V.ref a] ∧ SrcAt X.K b H a xs ∧ DqAll X.K G xs (d :: ds) ∧ alikeOk (d :: ds) = true ∧
  ∀ z, Dq X.K G z (f d ds) → Q z H
theorem best_take {K : PySem.W.Frag} {G : Hp} {f : PyData → PyData → Bool} {xs : List V} {its : List Value} {d : PyData} {ds : List PyData} {v : Value} (rv : Vals xs its) (hd : DqAll K G xs (d :: ds))
    (hv : its.toArray[argBest (fun i j => f ((d :: ds).getD i .none) ((d :: ds).getD j .none)) (its.toArray.size - 1)]? = some v) : ∃ x, RelV x v ∧ Dq K G x (ds.foldl (fun a y => if f y a then y else a) d) := by
  have hl : its.length = ds.length + 1 := by rw [← rv.length, hd.length]; rfl
  have e1 : its.toArray.size - 1 = ds.length := by simp [hl]
  rw [e1] at hv
  obtain ⟨i1, i2⟩ := argBest_fold f PyData.none d ds ds.length (Nat.le_refl _)
  rw [List.take_length] at i2
  generalize hj : argBest (fun i j => f ((d :: ds).getD i .none) ((d :: ds).getD j .none)) ds.length = j at hv i1 i2
  have hv' : its[j]? = some v := by simpa using hv
  have hj2 : j < (d :: ds).length := by simp only [List.length_cons]; omega
  obtain ⟨x, h1, h2⟩ := hd.get (i := j) (d := (d :: ds)[j]) (List.getElem?_eq_getElem hj2)
  obtain ⟨u, hu, ru⟩ := rv.get h1
  rw [hv'] at hu
  cases hu
  refine ⟨x, ru, ?_⟩
  rw [← i2, List.getD_eq_getElem?_getD, List.getElem?_eq_getElem hj2]
  exact h2
theorem cr_minB (hc : X.calm = true) (hu : X.A.units + 100 < cLine) (b : Bool) : CallR X (.builtin "min") (rBest X b minD) := by
  intro pins s σ H vs us Q I r h
  obtain ⟨a, xs, d, ds, G, sG, rfl, hs, hd, hok, q⟩ := h
  obtain ⟨its, rv, hl⟩ := Inv.src I hs
  obtain ⟨al, cl, dp⟩ := alikeOk_p hok
  rw [Vals.ref1 r]
  obtain ⟨as, hr⟩ := Dp.readsAll I (d :: ds) _ its (canLay_dps (d :: ds) cl _ (Sub.dqAll sG _ _ hd)) rv
  have hn : its.toArray.size = ds.length + 1 := by rw [List.size_toArray, ← rv.length, hd.length]; rfl
  have hr' : ReadsAll s.heap its.toArray.toList (d :: ds) as := hr
  have fin : ∀ (v : Value) (h' : Heap) (tk : Tok), its.toArray[argBest (fun i j => dataLt ((d :: ds).getD i .none) ((d :: ds).getD j .none)) (its.toArray.size - 1)]? = some v → (∀ b o, s.heap.get? b = some o → h'.get? b = some o) →
      ∃ x H', Inv X pins σ H' { s with heap := h', toks := tk } ∧ RelV x v ∧ Q x H' := fun v h' tk hv hk => by
    obtain ⟨x, rx, dx⟩ := best_take (f := dataLt) rv hd hv
    exact ⟨x, H, I.kept hk, rx, q x dx⟩
  cases b with
  | false =>
    refine call_min_walkH (iter_listW (A := X.A.in1) (I.ok.hd hc) (show s.heap.IsList a its.toArray from hl) fun s₂ e W st hfp hw hk => ?_)
    refine ⟨_, _, _, _, _, _, _, s.heap, _, rfl, W, st, hfp, by omega, hw, hk, cmpIn_lt (A := X.A.in1) hr' al (by show X.A.units + 1 + _ < _; omega), fun v s' hP m => ?_⟩
    obtain ⟨h', tk, rfl, hk'⟩ := moved_old e rfl m
    exact fin v h' tk hP hk'
  | true =>
    refine call_min_walkH (iter_tupleW (A := X.A.in1) (I.ok.hd hc) (show s.heap.IsTuple a its.toArray from hl) fun s₂ e W st hfp hw hk => ?_)
    refine ⟨_, _, _, _, _, _, _, s.heap, _, rfl, W, st, hfp, by omega, hw, hk, cmpIn_lt (A := X.A.in1) hr' al (by show X.A.units + 1 + _ < _; omega), fun v s' hP m => ?_⟩
    obtain ⟨h', tk, rfl, hk'⟩ := moved_old e rfl m
    exact fin v h' tk hP hk'
theorem cr_maxB (hc : X.calm = true) (hu : X.A.units + 100 < cLine) (b : Bool) : CallR X (.builtin "max") (rBest X b maxD) := by
  intro pins s σ H vs us Q I r h
  obtain ⟨a, xs, d, ds, G, sG, rfl, hs, hd, hok, q⟩ := h
  obtain ⟨its, rv, hl⟩ := Inv.src I hs
  obtain ⟨al, cl, dp⟩ := alikeOk_p hok
  rw [Vals.ref1 r]
  obtain ⟨as, hr⟩ := Dp.readsAll I (d :: ds) _ its (canLay_dps (d :: ds) cl _ (Sub.dqAll sG _ _ hd)) rv
  have hn : its.toArray.size = ds.length + 1 := by rw [List.size_toArray, ← rv.length, hd.length]; rfl
  have hr' : ReadsAll s.heap its.toArray.toList (d :: ds) as := hr
  have fin : ∀ (v : Value) (h' : Heap) (tk : Tok), its.toArray[argBest (fun i j => dataLt ((d :: ds).getD j .none) ((d :: ds).getD i .none)) (its.toArray.size - 1)]? = some v → (∀ b o, s.heap.get? b = some o → h'.get? b = some o) →
      ∃ x H', Inv X pins σ H' { s with heap := h', toks := tk } ∧ RelV x v ∧ Q x H' := fun v h' tk hv hk => by
    obtain ⟨x, rx, dx⟩ := best_take (f := fun x y => dataLt y x) rv hd hv
    exact ⟨x, H, I.kept hk, rx, q x dx⟩
  cases b with
  | false =>
    refine call_max_walkH (iter_listW (A := X.A.in1) (I.ok.hd hc) (show s.heap.IsList a its.toArray from hl) fun s₂ e W st hfp hw hk => ?_)
    refine ⟨_, _, _, _, _, _, _, s.heap, _, rfl, W, st, hfp, by omega, hw, hk, cmpIn_gt (A := X.A.in1) hr' al (by show X.A.units + 1 + _ < _; omega), fun v s' hP m => ?_⟩
    obtain ⟨h', tk, rfl, hk'⟩ := moved_old e rfl m
    exact fin v h' tk hP hk'
  | true =>
    refine call_max_walkH (iter_tupleW (A := X.A.in1) (I.ok.hd hc) (show s.heap.IsTuple a its.toArray from hl) fun s₂ e W st hfp hw hk => ?_)
    refine ⟨_, _, _, _, _, _, _, s.heap, _, rfl, W, st, hfp, by omega, hw, hk, cmpIn_gt (A := X.A.in1) hr' al (by show X.A.units + 1 + _ < _; omega), fun v s' hP m => ?_⟩
    obtain ⟨h', tk, rfl, hk'⟩ := moved_old e rfl m
    exact fin v h' tk hP hk'
theorem opN_best {f : PyData → List PyData → PyData} {nm : String} {g : List PyData → Option Rv} (h : ∀ b, CallR X (.builtin nm) (rBest X b f))
    (hg : ∀ ds r, g ds = some r → ∃ x xs, (ds = [.list (x :: xs)] ∨ ds = [.tuple (x :: xs)]) ∧ alikeOk (x :: xs) = true ∧ r = .sh (f x xs)) : OpN X (.builtin nm) g := by
  refine ⟨_, (h false).or (h true), fun vs H G ds res Q s p e q => ?_⟩
  obtain ⟨x, xs, hd, ok, rfl⟩ := hg ds res e
  rcases hd with rfl | rfl
  · obtain ⟨v, rfl, p1⟩ := pks1 p
    obtain ⟨a, ys, rfl, h1, h2⟩ := p1
    exact .inl ⟨a, ys, x, xs, G, s, rfl, .of h1, h2, ok, fun z hz => q H G z (.refl s) hz⟩
  · obtain ⟨v, rfl, p1⟩ := pks1 p
    obtain ⟨a, ys, rfl, h1, h2⟩ := dq_tup p1
    exact .inr ⟨a, ys, x, xs, G, s, rfl, s.sqT h1, h2, ok, fun z hz => q H G z (.refl s) hz⟩
theorem opN_min (hc : X.calm = true) (hu : X.A.units + 100 < cLine) : OpN X (.builtin "min") minG := by
  refine opN_best (cr_minB hc hu) fun ds r e => ?_
  match ds, e with
  | [.list (x :: xs)], e =>
    simp only [minG] at e
    split at e <;> cases e
    exact ⟨x, xs, .inl rfl, by assumption, rfl⟩
  | [.tuple (x :: xs)], e =>
    simp only [minG] at e
    split at e <;> cases e
    exact ⟨x, xs, .inr rfl, by assumption, rfl⟩
theorem opN_max (hc : X.calm = true) (hu : X.A.units + 100 < cLine) : OpN X (.builtin "max") maxG := by
  refine opN_best (cr_maxB hc hu) fun ds r e => ?_
  match ds, e with
  | [.list (x :: xs)], e =>
    simp only [maxG] at e
    split at e <;> cases e
    exact ⟨x, xs, .inl rfl, by assumption, rfl⟩
  | [.tuple (x :: xs)], e =>
    simp only [maxG] at e
    split at e <;> cases e
    exact ⟨x, xs, .inr rfl, by assumption, rfl⟩
end

/-! ### sorted -/
def sortD (ds : List PyData) : List PyData := ds.mergeSort (dataLe false id)
def isTupD : PyData → Bool
  | .tuple (_ :: _) => true
  | _ => false
def isTup0 : PyData → Bool
  | .tuple _ => true
  | _ => false
def sortableB (ds : List PyData) : Bool := ds.all isTupD || ds.all fun d => !isTup0 d
def sortG : List PyData → Option Rv
  | [.list ds] => if alikeOk ds = true ∧ sortableB ds = true then some (.fr (sortD ds)) else none
  | _ => none
theorem sortable_p {ds : List PyData} (h : sortableB ds = true) (al : AlikeAll ds) : Sortable ds := by
  simp only [sortableB, Bool.or_eq_true, List.all_eq_true] at h
  rcases h with h | h
  · refine .inl fun d hd => ?_
    have := h d hd
    match d, this with
    | .tuple (x :: r), _ => exact ⟨x, r, rfl⟩
  · refine .inr fun d hd => ⟨al.2 d hd, fun xs e => ?_⟩
    have := h d hd
    rw [e] at this
    cases this
section
variable {X : Cx}
def rSortedD (K : PySem.W.Frag) : List V → Hp → VK → Prop := fun vs H Q => ∃ (a : Addr) (xs : List V) (ds : List PyData) (G : Hp), Sub G H ∧ vs = [V.ref a] ∧ SqL K H a xs ∧ DqAll K G xs ds ∧ alikeOk ds = true ∧ sortableB ds = true ∧
  ∀ ys p, DqAll K G ys (sortD ds) → H p = none → Q (.ref p) (upd H p (.lst ys))
theorem cr_sortedD (hu : X.A.units + 100 < cLine) : CallR X (.builtin "sorted") (rSortedD X.K) := by
  intro pins s σ H vs us Q I r h
  obtain ⟨a, xs, ds, G, sG, rfl, hs, hd, hok, hso, q⟩ := h
  obtain ⟨its, rv, hl, hz⟩ := I.list hs
  obtain ⟨al, cl, dp⟩ := alikeOk_p hok
  rw [Vals.ref1 r]
  obtain ⟨as, hr⟩ := Dp.readsAll I ds _ its (canLay_dps ds cl _ (Sub.dqAll sG _ _ hd)) rv
  have hz' : its.length ≤ sizeLine := by rw [← rv.length]; exact hz
  have keep : ∀ b o, s.heap.get? b = some o → (sortingHeap (copyHeap s.heap its) (s.heap.objs.size + 1) its).get? b = some o := fun b o e => sorting_copy_old e
  have dle : ∀ d, d ∈ ds → d.depth ≤ 60 := fun d hm => by
    obtain ⟨j, hj, e⟩ := List.getElem_of_mem hm
    have hj2 : j < its.length := by rw [← rv.length, hd.length]; exact hj
    obtain ⟨bs, _, _, _, z⟩ := readsAll_at hr j its[j] (List.getElem?_eq_getElem hj2)
    rw [List.getD_eq_getElem?_getD, List.getElem?_eq_getElem hj] at z
    simp only [Option.getD_some, e] at z
    omega
  have eR : EachIs (fun v d => ∃ as, Reads (sortingHeap (copyHeap s.heap its) (s.heap.objs.size + 1) its) v d as) its ds := (each_reads hr).mono fun v d ⟨as, r⟩ => ⟨as, Reads.keeps keep r⟩
  have S := SortsAt.data (prog := X.prog) (w := X.w) (A := X.A.in1.in1) (s := { s with heap := sortingHeap (copyHeap s.heap its) (s.heap.objs.size + 1) its }) eR al.1 (sortable_p hso al) (fun d hm => by
    have := dle d hm
    show X.A.units + 1 + 1 + d.depth < cLine
    omega)
  refine sorted_vals hl.isList S hz' ?_
  obtain ⟨ys, v1, v2⟩ := of_each (sortVals_each (rev := false) (β := PyData) (κ := dataKind (sortingHeap (copyHeap s.heap its) (s.heap.objs.size + 1) its) ds) (fun d => keyToks d) (each_of rv hd) (each_keys al.1 eR))
  obtain ⟨ep, he'⟩ := PyProof.Rows.sortedAll_at s.heap its (sortVals (dataKind (sortingHeap (copyHeap s.heap its) (s.heap.objs.size + 1) its) ds) false its its).toArray
  have hlen : ys.length ≤ sizeLine := by
    rw [v1.length, sortVals_length false rfl]
    exact hz'
  exact ⟨.ref _, upd H (s.heap.objs.size + 1) (.lst ys), I.laid (t' := s.toks) (fun _ _ => PyProof.Rows.sortedAll_old) (Nat.le_succ _) ⟨hlen, _, ep, v1, he'⟩, rfl, q _ _ v2 (I.hok.fresh (Nat.le_succ _))⟩
theorem opN_sorted (hu : X.A.units + 100 < cLine) : OpN X (.builtin "sorted") sortG := by
  refine ⟨_, cr_sortedD hu, fun vs H G ds res Q s p e q => ?_⟩
  match ds, e with
  | [.list ds], e =>
    simp only [sortG] at e
    split at e <;> cases e
    rename_i ok
    obtain ⟨v, rfl, p1⟩ := pks1 p
    obtain ⟨a, xs, rfl, h1, h2⟩ := p1
    refine ⟨a, xs, ds, G, s, rfl, .of h1, h2, ok.1, ok.2, fun ys p hy hp => ?_⟩
    have := rvFresh s hp hy
    exact q _ _ _ this.1 this.2

/-! ### gcd -/
@[simp] def gcdG : List PyData → Option Rv
  | [.int a, .int b] => some (.sh (.int ((Nat.gcd a.natAbs b.natAbs : Nat) : Int)))
  | _ => none
theorem opN_gcd : OpN X (.builtin "math.gcd") gcdG := by
  refine ⟨_, cr_gcd, fun vs H G ds res Q s p e q => ?_⟩
  match ds, e with
  | [.int a, .int b], e =>
    cases e
    obtain ⟨v, u, rfl, p1, p2⟩ := pks2 p
    exact ⟨a, b, by rw [dq_int p1, dq_int p2], q H G _ (.refl s) (.int _)⟩
/-- f(e, ..), f a module's name for a built-in function -/
theorem ev_callBfun {fr : Fr} {e : Expr} {es : List Expr} {Fs : Mo (List Rv)} {x : Str} {p pos : Pos} {id : String} {g : List PyData → Option Rv} (hc : OpN X (.builtin id) g) (hg : Gl X x) (hm : X.mg x = some (.builtin id)) (ha : PAv X fr (e :: es) Fs) (hdb : (x == ("__debug__" : Str)) = false := by decide)
    (he : starEach (e :: es) X.env = (false, eval e X.env) :: starEach es X.env := by rfl) (hpl : (backTo pos (starEach es X.env)).any (·.1) = false := by rfl) : PEv X fr (.Call (.Name x p) (e :: es) [] pos) (callBF g Fs) :=
  let ⟨_, hr, hq⟩ := hc
  weakE (pe_callBfun hr hg hm ha hdb he hpl) (callB_reads hq)
theorem OpN.or {f : Value} {g g' : List PyData → Option Rv} (h : OpN X f g) (h' : OpN X f g') : OpN X f (fun ds => (g ds).or (g' ds)) := by
  obtain ⟨r, h1, h2⟩ := h
  obtain ⟨r', h1', h2'⟩ := h'
  refine ⟨_, h1.or h1', fun vs H G ds res Q s p e q => ?_⟩
  simp only at e
  cases z : g ds with
  | some a => rw [z] at e; exact .inl (h2 vs H G ds res Q s p (by rw [z]; exact e) q)
  | none => rw [z] at e; exact .inr (h2' vs H G ds res Q s p (by simpa using e) q)
end
end Cf
/-! Cf, part Y: x[i] += e, bits, range(a, b, c). -/
namespace Cf
open PySem PySem.Spec PyProof.Rows L2

/-! ### x[i] op= e -/
section
variable {X : Cx}
def rGetL : V → V → Hp → VK → Prop := fun o i H Q => ∃ p xs k v, o = .ref p ∧ i = .int k ∧ H p = some (.lst xs) ∧ atI xs k = some v ∧ Q v H
theorem get_list : PGet X rGetL := by
  intro pins s σ H o i ov iv Q I ro ri h
  obtain ⟨p, xs, k, z, rfl, rfl, hq, he, q⟩ := h
  cases ro
  obtain ⟨t, rfl⟩ := ri
  obtain ⟨its, r, pl, hz⟩ := I.list (.of hq)
  obtain ⟨j, h1, h2, h3, h4, h5⟩ := atI_get he
  obtain ⟨w, ew, rw'⟩ := r.get h2
  have hl := r.length
  have hn := line63
  have fin : EP X pins σ Q w s := ⟨z, H, I, rw', q⟩
  by_cases h0 : 0 ≤ k
  · have hj : k.toNat = j := by
      rw [seqIndex_of h0 h5] at h1
      exact Option.some.inj h1
    exact wpAny_getItem_list (x := w) pl.isList h0 (by omega) (by rw [hj]; simpa using ew) fin
  · have hj : (k + (its.toArray.size : Int)).toNat = j := by
      rw [seqIndex_neg (by omega) h4] at h1
      rw [List.size_toArray, ← hl]
      exact Option.some.inj h1
    exact wpAny_getItem_list_neg (x := w) pl.isList (by omega) (by rw [List.size_toArray] <;> omega) (by omega) (by rw [hj]; simpa using ew) fin
end
def augItemF (i : Nat) (g : PyData → PyData → Option Rv) (Fi F : Mo Rv) : Mo Out := do
  needOwn i
  let rj ← Fi
  let dj ← peek rj
  let ds ← getOwn i
  match dj with
  | .int k => match atI ds k with
    | some old => do
      let r ← F
      let d2 ← peek r
      let res ← liftO (g old d2)
      let ds' ← getOwn i
      match res with
      | .sh d => match ixN ds'.length k with
        | some j => do
          putOwn i (ds'.set j d)
          pure .nx
        | none => stuckM
      | _ => stuckM
    | none => stuckM
  | _ => stuckM
section
variable {X : Cx} {fr : Fr} {o ix e : Expr} {i : Nat} {F Fi : Mo Rv} {pos tpos : Pos} {op : Operator} {g : PyData → PyData → Option Rv}
theorem es_augItem (hop : Op2 X (inplaceOp op) g) (ho : PEv X fr o (readF i)) (hi : PEv X fr ix Fi) (he : PEv X fr e F)
    (ha : ∀ ov iv new, augStore ix ov iv new = (do holding [new, ov, iv] (setItem ov iv new); release [new, ov, iv] []; pure .next) := by intros; rfl) :
    PSv X fr (.AugAssign (.Subscript o ix tpos) op e pos) (augItemF i g Fi F) := by
  obtain ⟨r, hr, hg⟩ := hop
  refine weakS (ps_augS ho hi get_list he (tip := fun x y H Q => r x y H Q) (fun pins s σ H x y v u Q I rx ry h => hr pins s σ H x y v u Q I rx ry h) set_list ha) fun D σ H ⟨env, G, h, w⟩ => ?_
  unfold augItemF at w
  obtain ⟨t0, ds0, e0, w0⟩ := wpM_need w
  refine tE_read h e0 fun a H1 G1 xs1 h1 s1 z1 _ _ => ?_
  refine tE_then h1 w0 (fun rj env2 H2 G2 vj h2 s2 q2 w2 => ?_) fun c e1 E1 H2 G2 h2 s2 => E1 σ H2 G2 h2 (s1.trans s2)
  obtain ⟨dj, p2, w3⟩ := peek_ok h2 q2 (wpM_bind.mp w2)
  obtain ⟨t3, ds3, e3, w4⟩ := wpM_own w3
  obtain ⟨a', xs3, y1, y2, y3, _⟩ := h2.ownAt e3
  rw [z1] at y1
  cases y1
  cases dj with
  | int k =>
    simp only at w4
    cases z : atI ds3 k with
    | none => rw [z] at w4; exact w4.elim
    | some old =>
      rw [z] at w4
      obtain ⟨v, ev, dv⟩ := atI_dq y3 z
      refine ⟨a, xs3, k, v, rfl, dq_int p2, y2, ev, ?_⟩
      refine tE_then h2 w4 (fun r5 env5 H5 G5 v5 h5 s5 q5 w5 => ?_) fun c e1 E1 H5 G5 h5 s5 => E1 σ H5 G5 h5 ((s1.trans s2).trans s5)
      obtain ⟨d5, p5, w6⟩ := peek_ok h5 q5 (wpM_bind.mp w5)
      obtain ⟨res, er, w7⟩ := wpM_lift (wpM_bind.mp w6)
      obtain ⟨t8, ds8, e8, w8⟩ := wpM_own w7
      cases res with
      | sh d =>
        simp only at w8
        cases zj : ixN ds8.length k with
        | none => rw [zj] at w8; exact w8.elim
        | some j =>
          rw [zj] at w8
          have w9 := wpM_put e8 w8
          refine hg v v5 H5 G5 old d5 _ _ h5.sub (.of h5.sub (Sub.dq s5 _ _ dv)) p5 er fun H6 G6 zz st rn => ?_
          have h6 := h5.stp st
          obtain ⟨a'', xs8, y1', y2', y3', _⟩ := h6.ownAt e8
          rw [z1] at y1'
          cases y1'
          refine ⟨a, xs8, k, j, rfl, dq_int p2, y2', by rw [y3'.length]; exact zj, ?_⟩
          exact w9 σ _ G6 (h6.write e8 z1 (y3'.set rn j)) (((s1.trans s2).trans s5).trans st.mono)
      | _ => exact w8.elim
  | _ => exact w4.elim
end
section
variable {X : Cx}
@[simp] def iaddI : PyData → PyData → Option Rv
  | .int i, .int j => some (.sh (.int (i + j)))
  | _, _ => none

end
section
variable {X : Cx} {fr : Fr} {a b c : Expr} {Fa Fb Fc : Mo Rv} {pos : Pos}
theorem chain_reads {r r' : R2} {g g' : PyData → PyData → Option Rv}
    (hg : ∀ x y H G d1 d2 res Q, Sub G H → Pk X.K H G x d1 → Pk X.K H G y d2 → g d1 d2 = some res → (∀ H' G' z, Stp H G H' G' → RvNew X.K H H' G' z res → Q z H') → r x y H Q)
    (hg' : ∀ x y H G d1 d2 res Q, Sub G H → Pk X.K H G x d1 → Pk X.K H G y d2 → g' d1 d2 = some res → (∀ H' G' z, Stp H G H' G' → RvNew X.K H H' G' z res → Q z H') → r' x y H Q) :
    ∀ σ H Q, tE X.K fr (chainF g g' Fa Fb Fc) σ H Q → tChain r r' (tE X.K fr Fa) (tE X.K fr Fb) (tE X.K fr Fc) σ H Q := fun σ H Q ⟨env, G, h, w⟩ => by
  refine tE_then h w (fun r1 env1 H1 G1 v1 h1 s1 q1 w1 => ?_) fun c e1 E1 H1 G1 h1 s1 => E1 H1 G1 h1 s1
  obtain ⟨G1', h1', s1', q1'⟩ := hold_ok' h1 q1
  refine tE_then h1' w1 (fun r2 env2 H2 G2 v2 h2 s2 q2 w2 => ?_) fun c e1 E1 H2 G2 h2 s2 => E1 H2 G2 h2 ((s1.trans s1').trans s2)
  have sA := (s1.trans s1').trans s2
  obtain ⟨d1, p1, w3⟩ := peek_ok h2 (HeldOk.ok (q1'.mono s2)) (wpM_bind.mp w2)
  obtain ⟨G2', h2', s2', q2'⟩ := hold_ok' h2 q2
  have p1' : Pk X.K H2 G2' v1 d1 := by
    cases d1 with
    | list ds => obtain ⟨l, xs, e, k1, k2⟩ := p1; exact ⟨l, xs, e, k1, Sub.dqAll s2' _ _ k2⟩
    | _ => exact Sub.dq s2' _ _ p1
  obtain ⟨d2, p2, w4⟩ := peek_ok h2' (HeldOk.ok q2') (wpM_bind.mp w3)
  cases e : g d1 d2 with
  | none => rw [e] at w4; exact w4.elim
  | some res =>
    rw [e] at w4
    cases res with
    | fr _ => exact w4.elim
    | sl _ => exact w4.elim
    | sh d =>
      cases d with
      | bool k =>
        refine hg v1 v2 H2 G2' d1 d2 _ _ h2'.sub p1' p2 e fun H3 G3 z st rn => ?_
        have hz := dq_bl (show Dq X.K G3 z (.bool k) from rn)
        subst hz
        have h3 := h2'.stp st
        refine ⟨k, rfl, ?_⟩
        cases k with
        | false =>
          replace w4 := show wpM (if false = true then _ else _) env2 _ _ from w4
          rw [if_neg Bool.false_ne_true] at w4 ⊢
          exact w4 H3 G3 _ h3 ((sA.trans s2').trans st.mono) (.bl false)
        | true =>
          replace w4 := show wpM (if true = true then _ else _) env2 _ _ from w4
          rw [if_pos rfl] at w4 ⊢
          refine tE_then h3 w4 (fun r3 env4 H4 G4 v3 h4 s4 q4 w5 => ?_) fun c e1 E1 H4 G4 h4 s4 => E1 H4 G4 h4 (((sA.trans s2').trans st.mono).trans s4)
          obtain ⟨d2', p2', w6⟩ := peek_ok h4 (HeldOk.ok ((q2'.mono st.mono).mono s4)) (wpM_bind.mp w5)
          obtain ⟨d3, p3, w7⟩ := peek_ok h4 q4 (wpM_bind.mp w6)
          obtain ⟨res, e', qf⟩ := wpM_lift w7
          exact hg' v2 v3 H4 G4 d2' d3 res Q h4.sub p2' p3 e' fun H' G' z st' rn' => qf H' G' z (h4.stp st') ((((sA.trans s2').trans st.mono).trans s4).trans st'.mono) (rn'.ok h4)
      | _ => exact w4.elim

theorem et_chain2 {op op' : CmpOp} {g g' : PyData → PyData → Option Rv} (ho : Op2 X (compareOp op) g) (ho' : Op2 X (compareOp op') g') (ha : PEv X fr a Fa) (hb : PEv X fr b Fb) (hc : PEv X fr c Fc)
    (hm : lastMarks [op, op'] [b, c] = false := by with_unfolding_all rfl) : PTv X fr (.Compare a [op, op'] [b, c] pos) (boolF (chainF g g' Fa Fb Fc)) :=
  let ⟨_, hr, hg⟩ := ho
  let ⟨_, hr', hg'⟩ := ho'
  weakT (pt_chain hr hr' ha hb hc hm) fun σ H Q h => chain_reads hg hg' σ H _ (tT_bool h)
end
section
variable {X : Cx}
/-! ### tuple * 1 -/
theorem tuple_mul1 (l : Addr) (items : Array Value) (n : Nat) (dd : Option Addr) (sl : Array (Option Value)) (u : Tok) :
    Meets (Builtin.«tuple.__mul__» ⟨[.ref l, .int 1 u], []⟩) (fun _ R s => s.heap.get? l = some { cls := .type "tuple", dict := dd, data := .seq items n, slots := sl } ∧ R (.ok (.ret (Value.ref l))) s) :=
  .of_wp fun prog w A R s h => by
    obtain ⟨hp, g, d, tk, os⟩ := s
    obtain ⟨hl, h⟩ := h
    have f1 := AutoSeq1.idx_int
    wp_walk using PySem.AutoSeq1.wpAny_loadPart' hl
    exact ⟨_, rfl, h⟩
def rRep1 (K : PySem.W.Frag) : R2 := fun x y H Q => ∃ l xs, x = .ref l ∧ y = .int 1 ∧ SqT K H l xs ∧ Q (.ref l) H
theorem op_rep1 : OpR X (binaryOp .Mult) (rRep1 X.K) := by
  intro pins s σ H x y v u Q I rx ry h
  obtain ⟨l, xs, rfl, rfl, hT, q⟩ := h
  cases rx
  obtain ⟨t, rfl⟩ := ry
  obtain ⟨its, r, ⟨⟨cls, dd, data, sl⟩, ho, hc, n, hd⟩, hs⟩ := I.tuple hT
  simp only at hc hd
  subst hc hd
  refine wpAny_binaryOp_repeat_ref (T := "tuple") (U := "int") (by decide) ⟨_, ho, rfl⟩ (fun s' => typeIs_int s' 1 t) noFill_tuple_mul F.fills_int_mul F.slot_int_rmul repeat_tuple F.slot_int_index.lookup
    (call_meets F.slot_int_rmul (typeIs_int s 1 t) F.entry_int_rmul (F.args_int_rmul_2 _ _) (int_rmul_tuple 1 t l its.toArray n dd sl)
      ⟨ho, rfl, ⟨_, ho, rfl⟩, call_meets F.slot_tuple_mul ⟨_, ho, rfl⟩ F.entry_tuple_mul (F.args_tuple_mul_2 _ _) (tuple_mul1 l its.toArray n dd sl t) ⟨ho, ?_⟩⟩)
  exact ⟨.ref l, H, I, rfl, q⟩
def mulG1 : PyData → PyData → Option Rv := fun a b => match a, b with
  | .tuple xs, .int k => if k = 1 then some (.sh (.tuple xs)) else mulG (.tuple xs) (.int k)
  | a, b => mulG a b
theorem op2_mul1 : Op2 X (binaryOp .Mult) mulG1 := by
  let g1 : PyData → PyData → Option Rv := fun a b => match a, b with
    | .tuple xs, .int k => if k = 1 then some (.sh (.tuple xs)) else none
    | _, _ => none
  have h1 : Op2 X (binaryOp .Mult) g1 := ⟨_, op_rep1, fun x y H G d1 d2 res Q s p1 p2 e q => by
    cases d1 <;> cases d2 <;> simp only [g1] at e <;> try cases e
    split at e <;> cases e
    rename_i k hk
    subst hk
    obtain ⟨a, xs, rfl, t1, a1⟩ := dq_tup p1
    exact ⟨a, xs, rfl, dq_int p2, s.sqT t1, q H G _ (.refl s) (.tup t1 a1)⟩⟩
  refine (h1.or op2_mul).weak fun a b r e => ?_
  cases a <;> cases b <;> simp only [mulG1, g1] at e ⊢ <;> try exact e
  split at e
  · rename_i k hk; rw [if_pos hk]; exact e
  · rename_i k hk; rw [if_neg hk]; exact e
/-! ### bits -/
@[simp] def xorG : PyData → PyData → Option Rv
  | .int i, .int j => some (.sh (.int (Builtin.bitXor i j)))
  | _, _ => none
@[simp] def bandG : PyData → PyData → Option Rv
  | .int i, .int j => some (.sh (.int (Builtin.bitAnd i j)))
  | _, _ => none
@[simp] def borG : PyData → PyData → Option Rv
  | .int i, .int j => some (.sh (.int (Builtin.bitOr i j)))
  | _, _ => none
def shlG : PyData → PyData → Option Rv
  | .int i, .int j => if i.natAbs < 2 ^ 32 ∧ 0 ≤ j ∧ j ≤ 1000 then some (.sh (.int (i * 2 ^ j.toNat))) else none
  | _, _ => none
def shrG : PyData → PyData → Option Rv
  | .int i, .int j => if 0 ≤ j then some (.sh (.int (i / 2 ^ j.toNat))) else none
  | _, _ => none
theorem op2_xor : Op2 X (binaryOp .BitXor) xorG := op2_int0 op_xor (fun _ _ _ _ => .int _) fun a b r e => by
  cases a <;> cases b <;> simp_all [xorG]
theorem op2_band : Op2 X (binaryOp .BitAnd) bandG := op2_int0 op_and (fun _ _ _ _ => .int _) fun a b r e => by
  cases a <;> cases b <;> simp_all [bandG]
theorem op2_bor : Op2 X (binaryOp .BitOr) borG := op2_int0 op_or (fun _ _ _ _ => .int _) fun a b r e => by
  cases a <;> cases b <;> simp_all [borG]
theorem op2_shr : Op2 X (binaryOp .RShift) shrG := op2_intI op_shr fun a b r e => by
  cases a <;> cases b <;> simp [shrG] at e
  obtain ⟨hz, rfl⟩ := e
  exact ⟨_, _, rfl, rfl, hz, rfl⟩
theorem op2_shl : Op2 X (binaryOp .LShift) shlG := op2_intI op_shl fun a b r e => by
  cases a <;> cases b <;> simp only [shlG] at e <;> try cases e
  split at e <;> cases e
  rename_i i j hz
  exact ⟨_, _, rfl, rfl, ⟨hz.2.1, by omega, by omega⟩, rfl⟩

/-! ### range(a, b, c) -/
def rangeC (i c : Int) (n : Nat) : List PyData := (List.range n).map fun (k : Nat) => .int (i + k * c)
/-- what range can take; how many -/
noncomputable def range3Ok (i j c : Int) : Bool := hide (decide (c ≠ 0 ∧ c.natAbs < 1073741824 ∧ Builtin.Range.small i j c = true ∧ 0 ≤ Builtin.Range.rangeSize i j c))
noncomputable def range3I (Fs : Mo (List Rv)) : Mo (List PyData) := do
  let rs ← Fs
  match rs with
  | [.sh (.int i), .sh (.int j), .sh (.int c)] => if range3Ok i j c = true then pure (rangeC i c (Builtin.Range.rangeSize i j c).toNat) else stuckM
  | _ => stuckM
theorem itOk_rangeC {K : PySem.W.Frag} {G : Hp} {lo c : Int} {n : Nat} : ItOk K (Itc lo c n) G (rangeC lo c n) := by
  have hl : (rangeC lo c n).length = n := by simp [rangeC]
  refine ⟨fun i H G1 s1 s2 hi => ?_, fun H G1 s1 s2 => ?_, fun i H G1 x H' s1 s2 hi y => ?_⟩
  · show i < n; omega
  · show n ≤ (rangeC lo c n).length; omega
  · obtain ⟨rfl, rfl⟩ := y
    rw [hl] at hi
    exact ⟨G1, .int (lo + i * c), by simp [rangeC, hi], .refl s2, .int _⟩
theorem ei_range3 {fr : Fr} {tg : Expr} {a b c : Expr} {Fs : Mo (List Rv)} {p pos : Pos} (hg : Gl X "range") (hm : X.mg "range" = none) (ha : PAv X fr [a, b, c] Fs)
    (hs : starEach [a, b, c] X.env = (false, eval a X.env) :: starEach [b, c] X.env := by rfl) (hpl : (backTo pos (starEach [b, c] X.env)).any (·.1) = false := by rfl) :
    PIv X fr tg (.Call (.Name "range" p) [a, b, c] [] pos) (range3I Fs) :=
  weakI (pi_range3 hg hm ha hs hpl) fun σ H R ⟨env, G, h, w⟩ => by
    unfold range3I at w
    refine tA_then h w (fun rs env1 H1 G1 vs h1 s1 q1 w1 => ?_) fun c e1 E1 H1 G1 h1 s1 => E1 H1 G1 h1 s1
    split at w1
    · rename_i i j c
      split at w1
      · rename_i hz
        unfold range3Ok at hz
        rw [hide_eq, decide_eq_true_eq] at hz
        match vs, q1 with
        | [v, u, z], q1 =>
          have e := dq_int (show Dq X.K G1 v (.int i) from q1.1)
          have e' := dq_int (show Dq X.K G1 u (.int j) from q1.2.1)
          have e'' := dq_int (show Dq X.K G1 z (.int c) from q1.2.2.1)
          subst e e' e''
          exact ⟨i, j, c, (Builtin.Range.rangeSize i j c).toNat, rfl, ⟨hz.1, hz.2.1, hz.2.2.1, by omega⟩, w1 H1 G1 _ h1 s1 itOk_rangeC⟩
        | [_], q1 => exact q1.2.elim
        | [_, _], q1 => exact q1.2.2.elim
        | _ :: _ :: _ :: _ :: _, q1 => exact q1.2.2.2.elim
      · exact w1.elim
    · exact w1.elim
end

/-! ### [e for x in xs if t for y in ys if u] -/
def lc2Loop (vs : List Nat) (T : PyData → Mo Unit) (C : Mo Bool) (vs1 : List Nat) (I1 : Mo (List PyData)) (T1 : PyData → Mo Unit) (C1 : Mo Bool) (F : Mo Rv) : List PyData → List PyData → Mo (List PyData)
  | [], acc => pure acc
  | d :: ds, acc => fun e => (thenU (T d) do
      let b ← C
      if b = true then do
        let ds1 ← I1
        let acc' ← lcLoop vs1 T1 C1 F ds1 acc
        lc2Loop vs T C vs1 I1 T1 C1 F ds acc'
      else lc2Loop vs T C vs1 I1 T1 C1 F ds acc) (wipeE vs e)
def lc2F (vs : List Nat) (I : Mo (List PyData)) (T : PyData → Mo Unit) (C : Mo Bool) (vs1 : List Nat) (I1 : Mo (List PyData)) (T1 : PyData → Mo Unit) (C1 : Mo Bool) (F : Mo Rv) : Mo Rv := do
  let ds ← I
  let acc ← block vs (lc2Loop vs T C vs1 I1 T1 C1 F ds [])
  pure (.fr acc)
theorem wipeE_wipeE {vs vs1 : List Nat} (hv : ∀ i ∈ vs1, i ∈ vs) (e : Fv) : wipeE vs (wipeE vs1 e) = wipeE vs e := by
  refine List.ext_getElem? fun i => ?_
  by_cases hl : i < e.length
  · by_cases hi : i ∈ vs
    · rw [wipeE_in hi (by rw [wipeE_length]; exact hl), wipeE_in hi hl]
    · rw [wipeE_out hi, wipeE_out hi, wipeE_out fun z => hi (hv i z)]
  · rw [List.getElem?_eq_none (by simp only [wipeE_length]; omega), List.getElem?_eq_none (by simp only [wipeE_length]; omega)]
theorem wipe_wipe {vs vs1 : List Nat} (hv : ∀ i ∈ vs1, i ∈ vs) (σ : L2.St) : L2.wipe (L2.wipe σ vs1) vs = L2.wipe σ vs := by
  refine List.ext_getElem? fun i => ?_
  by_cases hl : i < σ.length
  · by_cases hi : i ∈ vs
    · rw [wipe_in hi (by rw [wipe_length]; exact hl), wipe_in hi hl]
    · rw [wipe_at hi, wipe_at hi, wipe_at fun z => hi (hv i z)]
  · rw [List.getElem?_eq_none (by simp only [wipe_length]; omega), List.getElem?_eq_none (by simp only [wipe_length]; omega)]
section
variable {X : Cx} {fr : Fr} {elt tg iter tg1 iter1 : Expr} {ifs ifs1 : List Expr} {scope : Scope} {own : List (Str × Nat)} {pos : Pos} {I I1 : Mo (List PyData)} {T T1 : PyData → Mo Unit} {C C1 : Mo Bool} {F : Mo Rv} {ws ws1 vs1 : List Nat}
/-- what a turn of the inner loop leaves -/
structure In2 (X : Cx) (fr : Fr) (vs : List Nat) (σ : L2.St) (D : Addr) (G1 : Hp) (envw : Fv) (σw : L2.St) (H : Hp) (acc : List PyData) : Prop where
  ex : ∃ G accV, SR X.K fr envw σw H G ∧ Sub G1 G ∧ H D = some (.lst accV) ∧ DqAll X.K G accV acc ∧ G D = none ∧ ∀ (i : Nat) (t : Option Nat) (es : List PyData), envw[i]? = some (.own t es) → σw[i]? ≠ some (some (.ref D))
theorem lc2_reads (hv : ∀ i ∈ vs1, i ∈ own.map (·.2)) (hws : ∀ i ∈ ws, i ∈ own.map (·.2)) (hws1 : ∀ i ∈ ws1, i ∈ vs1) : ∀ σ H Q, tE X.K fr (lc2F (own.map (·.2)) I T C vs1 I1 T1 C1 F) σ H Q →
    tLc2 (tI X.K fr I) (fun v σ H Q => ∃ p, tG X.K (fr.in p) ws T v σ H Q) (fun σ H Q => ∃ p, tT X.K (fr.in p) C σ H Q) (fun σ H Q => ∃ p, tI X.K (fr.in p) I1 σ H Q) (fun v σ H Q => ∃ p, tG X.K (fr.in p) ws1 T1 v σ H Q) (fun σ H Q => ∃ p, tT X.K (fr.in p) C1 σ H Q) (fun σ H Q => ∃ p, tE X.K (fr.in p) F σ H Q) (own.map (·.2)) vs1 σ H Q := fun σ H Q ⟨env, G, h, w⟩ => by
  unfold lc2F at w
  generalize own.map (·.2) = vs at hws hv w ⊢
  refine ⟨env, G, h, wpM_mono (wpM_bind.mp w) (fun ds env1 w1 H1 G1 J h1 s1 io => ?_) fun c e1 E1 => E1⟩
  obtain ⟨no, w2⟩ := wpM_block w1
  intro D hD
  have pD : fr.prot D = none := by
    cases z : fr.prot D with
    | none => rfl
    | some o => rw [h1.prot D o z] at hD; cases hD
  have nT : D ∉ fr.tabs := fun z => by
    obtain ⟨⟨ps, e, _⟩, _⟩ := h1.tab D z
    rw [hD] at e
    cases e
  have stD := Stp.lay (o := .lst []) h1.sub hD
  have hw := (h1.stp stD).wipe vs
  let QQ : List PyData → Fv → Prop := fun acc e' => ∀ H' G' v, SR X.K fr (restE env1 vs e') σ H' G' → Sub G1 G' → RvOk X.K fr (restE env1 vs e') σ H' G' v (.fr acc) → Q v H'
  refine ⟨fun i m H' => ∃ env' G' acc accV, SR X.K fr (wipeE vs env') (wipe σ vs) H' G' ∧ Sub G1 G' ∧ H' D = some (.lst accV) ∧ DqAll X.K G' accV acc ∧ G' D = none ∧
      (∀ (i : Nat) (t : Option Nat) (es : List PyData), (wipeE vs env')[i]? = some (.own t es) → (wipe σ vs)[i]? ≠ some (some (.ref D))) ∧ m = ds.length - i ∧ i ≤ ds.length ∧
      wpM (lc2Loop vs T C vs1 I1 T1 C1 F (ds.drop i) acc) env' QQ (fun _ _ => False),
    ⟨ds.length, env1, G1, [], [], hw, .refl, upd_same, .nil, sub_none h1.sub hD, (h1.wipe vs).notOwn hD, by omega, by omega, wpM_mono w2 (fun acc e' q H' G' v h' s' r => q H' G' v h' (s1.trans s') r) fun _ _ z => z⟩, ?_⟩
  rintro i m H2 ⟨env2, G2, acc, accV, h2, s2, hA, qA, gA, nA, rfl, hi2, w3⟩
  by_cases hlt : i < ds.length
  · have hd : ds.drop i = ds[i] :: ds.drop (i + 1) := by rw [List.drop_eq_getElem_cons hlt]
    rw [hd] at w3
    unfold lc2Loop at w3
    refine .inr ⟨io.go i H2 G2 s2 h2.sub hlt, fun H3 => ∃ env' G' acc accV, SR X.K fr (wipeE vs env') (wipe σ vs) H3 G' ∧ Sub G1 G' ∧ H3 D = some (.lst accV) ∧ DqAll X.K G' accV acc ∧ G' D = none ∧
      (∀ (i : Nat) (t : Option Nat) (es : List PyData), (wipeE vs env')[i]? = some (.own t es) → (wipe σ vs)[i]? ≠ some (some (.ref D))) ∧
      wpM (lc2Loop vs T C vs1 I1 T1 C1 F (ds.drop (i + 1)) acc) env' QQ (fun _ _ => False), ?_, fun x H' y => ?_⟩
    · rintro H3 ⟨env', G', acc', accV', a1, a2, a3, a4, a5, a6, a7⟩
      exact ⟨ds.length - (i + 1), by omega, env', G', acc', accV', a1, a2, a3, a4, a5, a6, rfl, by omega, a7⟩
    · obtain ⟨G3, d, e3, st, q3⟩ := io.yld i H2 G2 x H' s2 h2.sub hlt y
      rw [List.getElem?_eq_getElem hlt] at e3
      cases e3
      have h3 := h2.stp st
      have gA3 : G3 D = none := by
        cases z : G3 D with
        | none => rfl
        | some o =>
          rcases st.new D (ne_none_of z) with q | q
          · exact absurd gA q
          · rw [hA] at q; cases q
      have h3g := h3.guard (st.ext _ _ hA) gA3 nT nA (fun _ _ => False)
      refine ⟨_, wipeE vs env2, G3, _, h3g, q3, wpM_mono (wpM_T (w3 : wpM (thenU _ _) (wipeE vs env2) _ _)) (fun _ env4 w4 σ4 G4 o4 h4 s4 => ?_) fun _ _ z => z⟩
      have e4 := wipe_off o4 hws
      refine ⟨e4, upd fr.prot D (.lst accV), env4, G4, h4, wpM_mono (wpM_bind.mp w4) (fun b env5 w5 H5 G5 h5 s5 => ?_) fun _ _ z => z.elim⟩
      have back : ∀ {accV' : List V} {env6 : Fv} {H6 G6 : Hp}, SR X.K (fr.in (upd fr.prot D (.lst accV'))) env6 σ4 H6 G6 → SR X.K fr (wipeE vs env6) (wipe σ vs) H6 G6 ∧ H6 D = some (.lst accV') ∧ G6 D = none ∧ ∀ (i : Nat) (t : Option Nat) (es : List PyData), (wipeE vs env6)[i]? = some (.own t es) → (wipe σ vs)[i]? ≠ some (some (.ref D)) := fun h6 => by
        have h7 := h6.wipe vs
        rw [e4] at h7
        exact SR.unguard pD h7
      cases b with
      | false =>
        rw [if_neg Bool.false_ne_true] at w5
        refine iteF ?_
        obtain ⟨b1, b2, b3, b4⟩ := back h5
        have s25 := (st.mono.trans s4).trans s5
        exact ⟨env5, G5, acc, accV, b1, s2.trans s25, b2, Sub.dqAll s25 _ _ qA, b3, b4, w5⟩
      | true =>
        rw [if_pos rfl] at w5
        refine iteT ?_
        refine ⟨upd fr.prot D (.lst accV), env5, G5, h5, wpM_mono (wpM_bind.mp w5) (fun ds1 env6 w6 H6 G6 J1 h6 s6 io1 => ?_) fun _ _ z => z.elim⟩
        have s26 := ((st.mono.trans s4).trans s5).trans s6
        have w6' := wpM_bind.mp w6
        -- the inner loop
        let QI : List PyData → Fv → Prop := fun acc' e' => wpM (lc2Loop vs T C vs1 I1 T1 C1 F (ds.drop (i + 1)) acc') e' QQ (fun _ _ => False)
        have unb : ∀ {accV' : List V} {env7 : Fv} {H7 G7 : Hp}, SR X.K (fr.in (upd fr.prot D (.lst accV'))) env7 σ4 H7 G7 → SR X.K (fr.in fr.prot) env7 σ4 H7 G7 ∧ H7 D = some (.lst accV') ∧ G7 D = none ∧ ∀ (i : Nat) (t : Option Nat) (es : List PyData), env7[i]? = some (.own t es) → σ4[i]? ≠ some (some (.ref D)) := fun h7 => SR.unguard (fr := fr.in fr.prot) pD h7
        obtain ⟨u1, u2, u3, u4⟩ := unb h6
        have u4w : ∀ (i : Nat) (t : Option Nat) (es : List PyData), (wipeE vs1 env6)[i]? = some (.own t es) → (wipe σ4 vs1)[i]? ≠ some (some (.ref D)) := (SR.unguard (fr := fr.in fr.prot) pD (h6.wipe vs1)).2.2.2
        refine ⟨fun j k H' => ∃ env' G' acc' accV', SR X.K (fr.in fr.prot) (wipeE vs1 env') (wipe σ4 vs1) H' G' ∧ Sub G6 G' ∧ H' D = some (.lst accV') ∧ DqAll X.K G' accV' acc' ∧ G' D = none ∧
            (∀ (i : Nat) (t : Option Nat) (es : List PyData), (wipeE vs1 env')[i]? = some (.own t es) → (wipe σ4 vs1)[i]? ≠ some (some (.ref D))) ∧ k = ds1.length - j ∧ j ≤ ds1.length ∧
            wpM (lcLoop vs1 T1 C1 F (ds1.drop j) acc') env' QI (fun _ _ => False),
          ⟨ds1.length, env6, G6, acc, accV, u1.wipe vs1, .refl, u2, Sub.dqAll s26 _ _ qA, u3, u4w, by omega, by omega, w6'⟩, ?_⟩
        rintro j k H7 ⟨env7, G7, acc7, accV7, h7, s7, hA7, qA7, gA7, nA7, rfl, hj7, w7⟩
        by_cases hlt1 : j < ds1.length
        · have hd1 : ds1.drop j = ds1[j] :: ds1.drop (j + 1) := by rw [List.drop_eq_getElem_cons hlt1]
          rw [hd1] at w7
          unfold lcLoop at w7
          refine .inr ⟨io1.go j H7 G7 s7 h7.sub hlt1, fun H8 => ∃ env' G' acc' accV', SR X.K (fr.in fr.prot) (wipeE vs1 env') (wipe σ4 vs1) H8 G' ∧ Sub G6 G' ∧ H8 D = some (.lst accV') ∧ DqAll X.K G' accV' acc' ∧ G' D = none ∧
            (∀ (i : Nat) (t : Option Nat) (es : List PyData), (wipeE vs1 env')[i]? = some (.own t es) → (wipe σ4 vs1)[i]? ≠ some (some (.ref D))) ∧
            wpM (lcLoop vs1 T1 C1 F (ds1.drop (j + 1)) acc') env' QI (fun _ _ => False), ?_, fun x1 H8 y1 => ?_⟩
          · rintro H3 ⟨env', G', acc', accV', a1, a2, a3, a4, a5, a6, a7⟩
            exact ⟨ds1.length - (j + 1), by omega, env', G', acc', accV', a1, a2, a3, a4, a5, a6, rfl, by omega, a7⟩
          · obtain ⟨G8, d1, e8, st8, q8⟩ := io1.yld j H7 G7 x1 H8 s7 h7.sub hlt1 y1
            rw [List.getElem?_eq_getElem hlt1] at e8
            cases e8
            have h8 := h7.stp st8
            have gA8 : G8 D = none := by
              cases z : G8 D with
              | none => rfl
              | some o =>
                rcases st8.new D (ne_none_of z) with q | q
                · exact absurd gA7 q
                · rw [hA7] at q; cases q
            have h8g := h8.guard (st8.ext _ _ hA7) gA8 nT nA7 (fun _ _ => False)
            refine ⟨_, wipeE vs1 env7, G8, _, h8g, q8, wpM_mono (wpM_T (w7 : wpM (thenU _ _) (wipeE vs1 env7) _ _)) (fun _ env9 w9 σ9 G9 o9 h9 s9 => ?_) fun _ _ z => z⟩
            have e9 := wipe_off o9 hws1
            refine ⟨e9, upd fr.prot D (.lst accV7), env9, G9, h9, wpM_mono (wpM_bind.mp w9) (fun b1 env10 w10 H10 G10 h10 s10 => ?_) fun _ _ z => z.elim⟩
            have back1 : ∀ {env6 : Fv} {H6 G6 : Hp}, SR X.K (fr.in (upd fr.prot D (.lst accV7))) env6 σ9 H6 G6 → SR X.K (fr.in fr.prot) (wipeE vs1 env6) (wipe σ4 vs1) H6 G6 ∧ H6 D = some (.lst accV7) ∧ G6 D = none ∧ ∀ (i : Nat) (t : Option Nat) (es : List PyData), (wipeE vs1 env6)[i]? = some (.own t es) → (wipe σ4 vs1)[i]? ≠ some (some (.ref D)) := fun h6 => by
              have h7 := h6.wipe vs1
              rw [e9] at h7
              exact SR.unguard (fr := fr.in fr.prot) pD h7
            cases b1 with
            | false =>
              rw [if_neg Bool.false_ne_true] at w10
              refine iteF ?_
              obtain ⟨b1, b2, b3, b4⟩ := back1 h10
              have s710 := (st8.mono.trans s9).trans s10
              exact ⟨env10, G10, acc7, accV7, b1, s7.trans s710, b2, Sub.dqAll s710 _ _ qA7, b3, b4, w10⟩
            | true =>
              rw [if_pos rfl] at w10
              refine iteT ?_
              refine ⟨upd fr.prot D (.lst accV7), env10, G10, h10, wpM_mono (wpM_bind.mp w10) (fun r env11 w11 H11 G11 v h11 s11 q11 => ?_) fun _ _ z => z.elim⟩
              obtain ⟨x12, env12, G12, h12, s12, d12, w12⟩ := force_ok h11 q11 (wpM_bind.mp w11)
              split at w12
              · rename_i hz
                obtain ⟨b1, b2, b3, b4⟩ := back1 h12
                have s712 := (((st8.mono.trans s9).trans s10).trans s11).trans s12
                have qA12 := Sub.dqAll s712 _ _ qA7
                exact ⟨accV7, b2, by rw [qA7.length]; exact hz, env12, G12, _, _, b1.poke b2 pD b3 nT b4, s7.trans s712, upd_same, qA12.append (.cons d12 .nil), b3, b4, w12⟩
              · exact w12.elim
        · have e : j = ds1.length := by omega
          subst e
          rw [List.drop_length] at w7
          refine .inl ⟨io1.stop H7 G7 s7 h7.sub, ?_⟩
          have h7w := h7.wipe vs
          rw [wipeE_wipeE hv, wipe_wipe hv, e4] at h7w
          have s27 := s26.trans s7
          have nA' : ∀ (i : Nat) (t : Option Nat) (es : List PyData), (wipeE vs env7)[i]? = some (.own t es) → (wipe σ vs)[i]? ≠ some (some (.ref D)) := fun i t es z => by
            rw [← e4]
            have hi : i ∉ vs := fun hi => by
              by_cases hl : i < env7.length
              · rw [wipeE_in hi hl] at z; cases z
              · rw [List.getElem?_eq_none (by rw [wipeE_length]; omega)] at z; cases z
            rw [wipeE_out hi] at z
            have hi1 : i ∉ vs1 := fun q => hi (hv i q)
            have := nA7 i t es (by rw [wipeE_out hi1]; exact z)
            rw [wipe_at hi1] at this
            rw [wipe_at hi]
            exact this
          exact ⟨env7, G7, acc7, accV7, ⟨h7w.sub, h7w.prot, h7w.dj, h7w.tab, h7w.pt, h7w.lent, h7w.len, h7w.slots, h7w.dist⟩, s2.trans s27, hA7, qA7, gA7, nA', w7⟩
  · have e : i = ds.length := by omega
    subst e
    rw [List.drop_length] at w3
    refine .inl ⟨io.stop H2 G2 s2 h2.sub, ?_⟩
    have h5 := h1.rest h2 s2 no
    exact w3 H2 G2 (.ref D) h5 s2 ⟨D, accV, rfl, hA, qA, gA, pD, fun z => h1.lent D z hD, fun i t es e1 e2 => by
      obtain ⟨hi, e3⟩ := restE_own no e1
      exact nA i t es e3 (by rw [wipe_at hi]; exact e2)⟩
theorem ev_lc2 (hv : ∀ i ∈ vs1, i ∈ own.map (·.2)) (hws : ∀ i ∈ ws, i ∈ own.map (·.2)) (hws1 : ∀ i ∈ ws1, i ∈ vs1) (hc : X.calm = true) (hN : X.N.Nodup) (hi : PIv X fr tg iter I) (ok : BlkOk X.N X.env.scope scope own) (hg : InBlk X fr scope fun X fr => PGv X fr tg ws T)
    (ht : InBlk X fr scope fun X fr => PTsv X fr ifs C) (hi1 : InBlk X fr scope fun X fr => PIv X fr tg1 iter1 I1) (hg1 : InBlk X fr scope fun X fr => PGv X fr tg1 ws1 T1) (ht1 : InBlk X fr scope fun X fr => PTsv X fr ifs1 C1) (he : InBlk X fr scope fun X fr => PEv X fr elt F)
    (hs : ∀ x, foldedSetIterable iter X.env x = pure x := by intro _; rfl) (hs1 : ∀ env x, foldedSetIterable iter1 env x = pure x := by intro _ _; rfl) :
    PEv X fr (.ListComp elt [⟨tg, iter, ifs, 0⟩, ⟨tg1, iter1, ifs1, 0⟩] scope pos) (lc2F (own.map (·.2)) I T C vs1 I1 T1 C1 F) :=
  weakE (pe_lc2 hc hN hi ok hv (fun s H C cl fp => ⟨fun pins s' σ H' v u Q I r ⟨p, q⟩ => (hg p s H C cl fp).run pins s' σ H' v u Q I r q⟩)
    (fun s H C cl fp => ⟨fun pins s' σ H' Q I ⟨p, q⟩ => (ht p s H C cl fp).run pins s' σ H' Q I q⟩)
    (fun s H C cl fp => ⟨fun pins s' σ H' R I ⟨p, q⟩ => (hi1 p s H C cl fp).run pins s' σ H' R I q⟩)
    (fun s H C cl fp => ⟨fun pins s' σ H' v u Q I r ⟨p, q⟩ => (hg1 p s H C cl fp).run pins s' σ H' v u Q I r q⟩)
    (fun s H C cl fp => ⟨fun pins s' σ H' Q I ⟨p, q⟩ => (ht1 p s H C cl fp).run pins s' σ H' Q I q⟩)
    (fun s H C cl fp => ⟨fun pins s' σ H' Q I ⟨p, q⟩ => (he p s H C cl fp).run pins s' σ H' Q I q⟩) hs hs1) (lc2_reads hv hws hws1)
end
end Cf
/-! Cf, part Z: reckoning with slots that are not spelt out; lists of ints that are counted up. -/
namespace Cf
open PySem PySem.Spec PyProof.Rows L2

/-- all slots but vs stand as they were -/
structure Agr (vs : List Nat) (e e' : Fv) : Prop where
  len : e'.length = e.length
  at_ : ∀ i, i ∉ vs → e'[i]? = e[i]?
theorem Agr.refl {vs : List Nat} {e : Fv} : Agr vs e e := ⟨rfl, fun _ _ => rfl⟩
theorem Agr.trans {vs : List Nat} {e e' e'' : Fv} (h : Agr vs e e') (h' : Agr vs e' e'') : Agr vs e e'' := ⟨h'.len.trans h.len, fun i hi => (h'.at_ i hi).trans (h.at_ i hi)⟩
theorem Agr.set {vs : List Nat} {e e' : Fv} {i : Nat} {x : Sl} (h : Agr vs e e') (hi : i ∈ vs) : Agr vs e (e'.set i x) := by
  refine ⟨by rw [List.length_set]; exact h.len, fun j hj => ?_⟩
  rw [List.getElem?_set_ne (fun z => hj (by rw [← z]; exact hi))]
  exact h.at_ j hj
theorem Agr.mono {vs ws : List Nat} {e e' : Fv} (h : Agr vs e e') (s : ∀ i ∈ vs, i ∈ ws) : Agr ws e e' := ⟨h.len, fun i hi => h.at_ i fun z => hi (s i z)⟩

/-- a loop that goes to its end: what holds behind each item -/
theorem loop_all {T : PyData → Mo Unit} {B : Mo Out} {α : Type} {D : α → PyData} {J : List α → Fv → Prop} : ∀ {ds done : List α} {e : Fv},
    (∀ d ds' done' e, done ++ ds = done' ++ d :: ds' → J done' e → ∃ e', (thenU (T (D d)) B e = .ok .nx e' ∨ thenU (T (D d)) B e = .ok .ct e') ∧ J (done' ++ [d]) e') → J done e → ∃ e', loopF T B (ds.map D) e = .ok .nx e' ∧ J (done ++ ds) e'
  | [], done, e, _, h => ⟨e, rfl, by simpa using h⟩
  | d :: ds, done, e, hs, h => by
    obtain ⟨e1, h1, h2⟩ := hs d ds done e rfl h
    obtain ⟨e2, h3, h4⟩ := loop_all (ds := ds) (done := done ++ [d]) (fun x ds' done' e hx hj => hs x ds' done' e (by rw [← hx]; simp) hj) h2
    refine ⟨e2, ?_, by rw [List.append_assoc] at h4; exact h4⟩
    rw [List.map_cons, loop_cons]
    rcases h1 with h1 | h1 <;> rw [h1] <;> exact h3

/-- .. what holds before the item at k -/
theorem loop_idx {T : PyData → Mo Unit} {B : Mo Out} {α : Type} {D : α → PyData} {J : Nat → Fv → Prop} : ∀ {ds : List α} {k : Nat} {e : Fv},
    (∀ i e, ∀ h : i < ds.length, J (k + i) e → ∃ e', (thenU (T (D ds[i])) B e = .ok .nx e' ∨ thenU (T (D ds[i])) B e = .ok .ct e') ∧ J (k + i + 1) e') → J k e → ∃ e', loopF T B (ds.map D) e = .ok .nx e' ∧ J (k + ds.length) e'
  | [], k, e, _, h => ⟨e, rfl, h⟩
  | d :: ds, k, e, hs, h => by
    obtain ⟨e1, h1, h2⟩ := hs 0 e (by simp) h
    obtain ⟨e2, h3, h4⟩ := loop_idx (ds := ds) (k := k + 1) (e := e1) (fun i e hi hj => by
      have := hs (i + 1) e (by simpa using hi) (by rw [show k + (i + 1) = k + 1 + i by omega]; exact hj)
      rw [show k + (i + 1) = k + 1 + i by omega] at this
      simpa using this) h2
    refine ⟨e2, ?_, by rw [List.length_cons, show k + (ds.length + 1) = k + 1 + ds.length by omega]; exact h4⟩
    rw [List.map_cons, loop_cons]
    rcases h1 with h1 | h1 <;> simp only [List.getElem_cons_zero] at h1 <;> rw [h1] <;> exact h3
theorem loop_range {T : PyData → Mo Unit} {B : Mo Out} {J : Nat → Fv → Prop} {cnt : Nat} {e : Fv} (hs : ∀ k e, k < cnt → J k e → ∃ e', (thenU (T (.int k)) B e = .ok .nx e' ∨ thenU (T (.int k)) B e = .ok .ct e') ∧ J (k + 1) e') (h : J 0 e) :
    ∃ e', loopF T B (rangeD 0 cnt) e = .ok .nx e' ∧ J cnt e' := by
  obtain ⟨e', h1, h2⟩ := loop_idx (T := T) (B := B) (D := fun k : Nat => PyData.int (0 + k)) (J := J) (ds := List.range cnt) (k := 0) (e := e) (fun i e hi hj => by
    have hi' : i < cnt := by simpa using hi
    have := hs i e hi' (by simpa using hj)
    simpa using this) h
  exact ⟨e', h1, by simpa using h2⟩
theorem loop_from {T : PyData → Mo Unit} {B : Mo Out} {J : Nat → Fv → Prop} {lo : Int} {cnt : Nat} {e : Fv} (hs : ∀ k e, k < cnt → J k e → ∃ e', (thenU (T (.int (lo + k))) B e = .ok .nx e' ∨ thenU (T (.int (lo + k))) B e = .ok .ct e') ∧ J (k + 1) e') (h : J 0 e) :
    ∃ e', loopF T B (rangeD lo cnt) e = .ok .nx e' ∧ J cnt e' := by
  obtain ⟨e', h1, h2⟩ := loop_idx (T := T) (B := B) (D := fun k : Nat => PyData.int (lo + k)) (J := J) (ds := List.range cnt) (k := 0) (e := e) (fun i e hi hj => by
    have hi' : i < cnt := by simpa using hi
    have := hs i e hi' (by simpa using hj)
    simpa using this) h
  exact ⟨e', h1, by simpa using h2⟩
/-- sums up to n -/
def sm (F : Nat → Int) : Nat → Int
  | 0 => 0
  | n + 1 => sm F n + F n
theorem sm_congr {F G : Nat → Int} : ∀ {n : Nat}, (∀ k, k < n → F k = G k) → sm F n = sm G n
  | 0, _ => rfl
  | n + 1, h => by rw [sm, sm, sm_congr fun k hk => h k (by omega), h n (by omega)]
theorem sm_mul {F : Nat → Int} {c : Int} : ∀ {n : Nat}, sm (fun k => c * F k) n = c * sm F n
  | 0 => by simp [sm]
  | n + 1 => by rw [sm, sm, sm_mul, Int.mul_add]
theorem sm_add {F G : Nat → Int} : ∀ {n : Nat}, sm (fun k => F k + G k) n = sm F n + sm G n
  | 0 => by simp [sm]
  | n + 1 => by rw [sm, sm, sm, sm_add]; omega
theorem sm_zero : ∀ {n : Nat}, sm (fun _ => 0) n = 0
  | 0 => rfl
  | n + 1 => by rw [sm, sm_zero]; rfl
theorem sm_single {j : Nat} {x : Int} : ∀ {n : Nat}, sm (fun k => if k = j then x else 0) n = if j < n then x else 0
  | 0 => by simp [sm]
  | n + 1 => by
    rw [sm, sm_single]
    by_cases h : j < n
    · rw [if_pos h, if_neg (by omega), if_pos (by omega)]; omega
    · by_cases h2 : n = j
      · rw [if_neg h, if_pos h2, if_pos (by omega)]; omega
      · rw [if_neg h, if_neg h2, if_neg (by omega)]; omega
/-- a sum over days of what comes again and again -/
theorem sm_period {g : Nat → Int} {R : Nat} (hR : 0 < R) (hg : ∀ d, g (d + R) = g d) : ∀ D : Nat, sm g D = sm (fun d => (if d < D % R then ((D / R : Nat) : Int) + 1 else (D / R : Nat)) * g d) R
  | 0 => by
    have : sm (fun d => (if d < 0 % R then ((0 / R : Nat) : Int) + 1 else (0 / R : Nat)) * g d) R = sm (fun _ => 0) R := sm_congr fun k hk => by simp
    rw [this, sm_zero]
    rfl
  | D + 1 => by
    have gm : g D = g (D % R) := by
      have : ∀ q r, g (r + q * R) = g r := fun q => by
        induction q with
        | zero => intro r; simp
        | succ q ih => intro r; rw [Nat.succ_mul, ← Nat.add_assoc, hg, ih]
      have e := Nat.mod_add_div D R
      rw [Nat.mul_comm] at e
      rw [← this (D / R) (D % R), e]
    have hlt : D % R < R := Nat.mod_lt _ hR
    rw [sm, sm_period hR hg D, gm]
    have e1 : sm (fun d => if d = D % R then g (D % R) else 0) R = g (D % R) := by rw [sm_single, if_pos hlt]
    rw [← e1, ← sm_add]
    refine sm_congr fun k hk => ?_
    have dm := Nat.mod_add_div D R
    by_cases hc : D % R + 1 < R
    · have m1 : (D + 1) % R = D % R + 1 := by
        rw [Nat.add_mod, Nat.mod_eq_of_lt (a := 1) (by omega), Nat.mod_eq_of_lt hc]
      have d1 : (D + 1) / R = D / R := by
        have := Nat.mod_add_div (D + 1) R
        have h2 : R * ((D + 1) / R) = R * (D / R) := by omega
        exact Nat.eq_of_mul_eq_mul_left hR h2
      rw [m1, d1]
      by_cases h3 : k = D % R
      · subst h3
        rw [if_neg (Nat.lt_irrefl _), if_pos rfl, if_pos (Nat.lt_succ_self _), Int.add_mul, Int.one_mul]
      · rw [if_neg h3, Int.add_zero]
        by_cases h4 : k < D % R
        · rw [if_pos h4, if_pos (by omega)]
        · rw [if_neg h4, if_neg (by omega)]
    · have hr : D % R = R - 1 := by omega
      have d1 : (D + 1) / R = D / R + 1 := by
        have : D + 1 = R * (D / R + 1) := by rw [Nat.mul_add]; omega
        rw [this, Nat.mul_div_cancel_left _ hR]
      have m1 : (D + 1) % R = 0 := by
        have : D + 1 = R * (D / R + 1) := by rw [Nat.mul_add]; omega
        rw [this, Nat.mul_mod_right]
      rw [m1, d1, hr]
      by_cases h3 : k = R - 1
      · subst h3
        rw [if_neg (Nat.lt_irrefl _), if_pos rfl, if_neg (Nat.not_lt_zero _)]
        push_cast
        rw [Int.add_mul, Int.one_mul]
      · rw [if_neg h3, if_pos (by omega), if_neg (Nat.not_lt_zero _), Int.add_zero]
        push_cast
        rfl

theorem set_sh {i : Nat} {F : Mo Rv} {e e' : Fv} {d : PyData} (h : F e = .ok (.sh d) e') : setF i F e = .ok .nx (e'.set i (.sh d)) := by
  simp [h]
theorem set_fr {i : Nat} {F : Mo Rv} {e e' : Fv} {ds : List PyData} (h : F e = .ok (.fr ds) e') : setF i F e = .ok .nx (e'.set i (.own none ds)) := by
  simp [h]
theorem set_nil {i : Nat} {e : Fv} : setF i (lstF nilF) e = .ok .nx (e.set i (.own none [])) := by
  simp [show 0 ≤ sizeLine by decide]
theorem ret_sh {F : Mo Rv} {e e' : Fv} {r : Rv} (h : F e = .ok r e') : retF F e = .ok (.rt r) e' := by
  simp [h]
theorem if_t {α : Type} {T : Mo Bool} {F1 F2 : Mo α} {e e' : Fv} (h : T e = .ok true e') : ifF T F1 F2 e = F1 e' := by
  simp [h]
theorem if_f {α : Type} {T : Mo Bool} {F1 F2 : Mo α} {e e' : Fv} (h : T e = .ok false e') : ifF T F1 F2 e = F2 e' := by
  simp [h]
theorem boolF_ok {F : Mo Rv} {e e' : Fv} {b : Bool} (h : F e = .ok (.sh (.bool b)) e') : boolF F e = .ok b e' := by
  simp [h]
theorem truthF_bool {F : Mo Rv} {e e' : Fv} {b : Bool} (h : F e = .ok (.sh (.bool b)) e') : truthF F e = .ok b e' := by
  simp [h]
theorem notF_ok {F : Mo Bool} {e e' : Fv} {b : Bool} (h : F e = .ok b e') : notF F e = .ok (!b) e' := by
  simp [h]
theorem or_f {F1 F2 : Mo Bool} {e e' : Fv} (h : F1 e = .ok false e') : orF F1 F2 e = F2 e' := by
  simp [h]
theorem or_t {F1 F2 : Mo Bool} {e e' : Fv} (h : F1 e = .ok true e') : orF F1 F2 e = .ok true e' := by
  simp [h]
theorem and_t {F1 F2 : Mo Bool} {e e' : Fv} (h : F1 e = .ok true e') : andF F1 F2 e = F2 e' := by
  simp [h]
theorem and_f {F1 F2 : Mo Bool} {e e' : Fv} (h : F1 e = .ok false e') : andF F1 F2 e = .ok false e' := by
  simp [h]
theorem skip_ok {e : Fv} : skipF e = .ok .nx e := rfl
/-- a check that is kept -/
theorem check_ok {T : Mo Bool} {F : Mo Out} {e e' : Fv} (h : T e = .ok false e') : ifF T F skipF e = .ok .nx e' := by
  rw [if_f h]
  rfl

theorem bin_ok {g : PyData → PyData → Option Rv} {F1 F2 : Mo Rv} {e e1 e2 : Fv} {r1 r2 res : Rv} {d1 d2 : PyData} (h1 : F1 e = .ok r1 e1) (h2 : F2 e1 = .ok r2 e2) (p1 : peek (hold r1) e2 = .ok d1 e2) (p2 : peek r2 e2 = .ok d2 e2) (h : g d1 d2 = some res) :
    binF g F1 F2 e = .ok res e2 := by
  unfold binF
  rw [bind_app, h1]
  show (F2 >>= _) e1 = _
  rw [bind_app, h2]
  show (peek (hold r1) >>= _) e2 = _
  rw [bind_app, p1]
  show (peek r2 >>= _) e2 = _
  rw [bind_app, p2]
  show liftO (g d1 d2) e2 = _
  rw [h]
  rfl
theorem call_ok {n : Nat} {g : List PyData → FnR} {Fs : Mo (List Rv)} {e e1 e2 : Fv} {rs : List Rv} {ds : List PyData} {r : Rv} (h1 : Fs e = .ok rs e1) (h2 : forces rs e1 = .ok ds e2) (hl : ds.length = n) (h : g ds = .ok r) : callF n g Fs e = .ok r e2 := by
  unfold callF
  rw [bind_app, h1]
  show (forces rs >>= _) e1 = _
  rw [bind_app, h2]
  show (if ds.length = n then endF (g ds) else stuckM) e2 = _
  rw [if_pos hl, h]
  rfl

theorem cut_to {ds : List PyData} {k : Nat} : cutD ds none (some (k : Int)) = ds.take k := by
  unfold cutD
  rw [HT.sIx_none, HT.sIx_nat, Nat.sub_zero, List.drop_zero, List.take_eq_take_min, Nat.min_comm]
  simp [Nat.min_comm]
theorem cut_from {ds : List PyData} {k : Nat} : cutD ds (some (k : Int)) none = ds.drop k := by
  unfold cutD
  rw [HT.sIx_none, HT.sIx_nat]
  by_cases h : k ≤ ds.length
  · rw [Nat.min_eq_left h, List.take_of_length_le (by rw [List.length_drop]; omega)]
  · rw [Nat.min_eq_right (by omega), List.drop_length, List.drop_of_length_le (by omega)]
    simp
theorem cut_between {ds : List PyData} {j k : Nat} (h : j ≤ k) (hk : k ≤ ds.length) : cutD ds (some (j : Int)) (some (k : Int)) = (ds.drop j).take (k - j) := by
  unfold cutD
  rw [HT.sIx_nat, HT.sIx_nat, Nat.min_eq_left hk, Nat.min_eq_left (Nat.le_trans h hk)]
/-! ### comprehensions that change what they run over -/
theorem lcLoop_inv {vs : List Nat} {T : PyData → Mo Unit} {C : Mo Bool} {F : Mo Rv} {J : List PyData → Fv → Prop} : ∀ {ds acc : List PyData} {e : Fv},
    (∀ d ∈ ds, ∀ acc e, J acc e → ∃ e1 b e2, T d (wipeE vs e) = .ok () e1 ∧ C e1 = .ok b e2 ∧ ((b = true ∧ ∃ x e3, (F >>= force) e2 = .ok x e3 ∧ J (acc ++ [x]) e3) ∨ (b = false ∧ J acc e2))) → acc.length + ds.length ≤ sizeLine → J acc e →
    ∃ acc' e', lcLoop vs T C F ds acc e = .ok acc' e' ∧ J acc' e'
  | [], acc, e, _, _, h => ⟨acc, e, rfl, h⟩
  | d :: ds, acc, e, hs, hl, h => by
    have hl' : acc.length + (ds.length + 1) ≤ sizeLine := by simpa using hl
    obtain ⟨e1, b, e2, h1, h2, h3⟩ := hs d (by simp) acc e h
    unfold lcLoop
    simp only [thenU, h1]
    rw [bind_app, h2]
    rcases h3 with ⟨rfl, x, e3, h4, h5⟩ | ⟨rfl, h5⟩
    · obtain ⟨acc', e', g1, g2⟩ := lcLoop_inv (ds := ds) (acc := acc ++ [x]) (e := e3) (fun y hy => hs y (by simp [hy])) (by simp; omega) h5
      refine ⟨acc', e', ?_, g2⟩
      rw [← g1]
      simp only [if_true]
      rw [bind_app] at h4 ⊢
      cases z : (F e2 : Res Rv) with
      | exc c e9 => rw [z] at h4; simp at h4
      | stuck => rw [z] at h4; simp at h4
      | ok r e9 =>
        rw [z] at h4
        simp only at h4 ⊢
        rw [bind_app, h4]
        simp only
        rw [if_pos (by omega)]
    · obtain ⟨acc', e', g1, g2⟩ := lcLoop_inv (ds := ds) (acc := acc) (e := e2) (fun y hy => hs y (by simp [hy])) (by omega) h5
      refine ⟨acc', e', ?_, g2⟩
      rw [← g1]
      simp only [Bool.false_eq_true, if_false]
theorem lc_inv {vs : List Nat} {Io : Mo (List PyData)} {T : PyData → Mo Unit} {C : Mo Bool} {F : Mo Rv} {J : List PyData → Fv → Prop} {e0 e : Fv} {ds : List PyData} (hI : Io e0 = .ok ds e) (no : noOwn vs e = true) (hl : ds.length ≤ sizeLine) (hJ : J [] e)
    (hs : ∀ d ∈ ds, ∀ acc e, J acc e → ∃ e1 b e2, T d (wipeE vs e) = .ok () e1 ∧ C e1 = .ok b e2 ∧ ((b = true ∧ ∃ x e3, (F >>= force) e2 = .ok x e3 ∧ J (acc ++ [x]) e3) ∨ (b = false ∧ J acc e2))) :
    ∃ acc e', lcF vs Io T C F e0 = .ok (.fr acc) (restE e vs e') ∧ J acc e' := by
  obtain ⟨acc, e', h1, h2⟩ := lcLoop_inv (J := J) (ds := ds) (acc := []) (e := e) hs (by simpa using hl) hJ
  refine ⟨acc, e', ?_, h2⟩
  unfold lcF
  simp only [bind_app, hI]
  unfold block
  rw [if_pos no, h1]
  simp only [pure_app]
theorem lcLoop_yes {vs : List Nat} {T : PyData → Mo Unit} {F : Mo Rv} {J : List PyData → Fv → Prop} : ∀ {ds acc : List PyData} {e : Fv},
    (∀ d ∈ ds, ∀ acc e, J acc e → ∃ e1 x e3, T d (wipeE vs e) = .ok () e1 ∧ (F >>= force) e1 = .ok x e3 ∧ J (acc ++ [x]) e3) → acc.length + ds.length ≤ sizeLine → J acc e →
    ∃ acc' e', lcLoop vs T yesF F ds acc e = .ok acc' e' ∧ J acc' e' ∧ acc'.length = acc.length + ds.length
  | [], acc, e, _, _, h => ⟨acc, e, rfl, h, rfl⟩
  | d :: ds, acc, e, hs, hl, h => by
    have hl' : acc.length + (ds.length + 1) ≤ sizeLine := by simpa using hl
    obtain ⟨e1, x, e3, h1, h4, h5⟩ := hs d (by simp) acc e h
    obtain ⟨acc', e', g1, g2, g3⟩ := lcLoop_yes (ds := ds) (acc := acc ++ [x]) (e := e3) (fun y hy => hs y (by simp [hy])) (by simp; omega) h5
    refine ⟨acc', e', ?_, g2, by rw [g3]; simp; omega⟩
    rw [← g1]
    show lcLoop vs T yesF F (d :: ds) acc e = _
    unfold lcLoop
    simp only [thenU, h1]
    rw [bind_app, yesF_app, pure_app]
    simp only [if_true]
    rw [bind_app] at h4 ⊢
    cases z : (F e1 : Res Rv) with
    | exc c e9 => rw [z] at h4; simp at h4
    | stuck => rw [z] at h4; simp at h4
    | ok r e9 =>
      rw [z] at h4
      simp only at h4 ⊢
      rw [bind_app, h4]
      simp only
      rw [if_pos (by omega)]
      cases ds <;> rfl
theorem lc_yes {vs : List Nat} {Io : Mo (List PyData)} {T : PyData → Mo Unit} {F : Mo Rv} {J : List PyData → Fv → Prop} {e0 e : Fv} {ds : List PyData} (hI : Io e0 = .ok ds e) (no : noOwn vs e = true) (hl : ds.length ≤ sizeLine) (hJ : J [] e)
    (hs : ∀ d ∈ ds, ∀ acc e, J acc e → ∃ e1 x e3, T d (wipeE vs e) = .ok () e1 ∧ (F >>= force) e1 = .ok x e3 ∧ J (acc ++ [x]) e3) :
    ∃ acc e', lcF vs Io T yesF F e0 = .ok (.fr acc) (restE e vs e') ∧ J acc e' ∧ acc.length = ds.length := by
  obtain ⟨acc, e', h1, h2, h3⟩ := lcLoop_yes (J := J) (ds := ds) (acc := []) (e := e) hs (by simpa using hl) hJ
  refine ⟨acc, e', ?_, h2, by simpa using h3⟩
  unfold lcF
  simp only [bind_app, hI]
  unfold block
  rw [if_pos no, h1]
  simp only [pure_app]
theorem restE_at {vs : List Nat} {e e' : Fv} {i : Nat} (h : i ∉ vs) : (restE e vs e')[i]? = e'[i]? := restE_out h
/-- what a block leaves: the slots of the block as they were -/
theorem restE_agr {vs ws : List Nat} {e e' : Fv} (h : Agr (vs ++ ws) e e') : Agr ws e (restE e vs e') := by
  refine ⟨by rw [restE_length]; exact h.len, fun i hi => ?_⟩
  by_cases hv : i ∈ vs
  · by_cases hl : i < e.length
    · rw [restE_in hv (by rw [h.len]; exact hl), List.getElem?_eq_getElem hl]
      rfl
    · rw [List.getElem?_eq_none (by rw [restE_length, h.len]; omega), List.getElem?_eq_none (by omega)]
  · rw [restE_at hv]
    exact h.at_ i (by simp [hv, hi])

/-- a comprehension of few items, told one by one -/
theorem lc_tab {v : Nat} {Io : Mo (List PyData)} {F : Mo Rv} {e0 e : Fv} (l : List (PyData × PyData)) (hI : Io e0 = .ok (l.map Prod.fst) e) (hv : v < e.length) (no : noOwn [v] e = true) (hl : l.length ≤ sizeLine)
    (hF : ∀ d ∈ l, (F >>= force) (e.set v (.sh d.1)) = .ok d.2 (e.set v (.sh d.1))) : lcF [v] Io (toSlot v) yesF F e0 = .ok (.fr (l.map Prod.snd)) e := by
  have := lc_map (D := Prod.fst) (C := yesF) (l := l) (fun _ => true) Prod.snd hI hv no hl (fun d _ => yesF_app _) fun d hd _ => hF d hd
  rw [List.filter_eq_self.mpr (by simp)] at this
  exact this
theorem noOwn_sh {v : Nat} {e : Fv} {d : PyData} (h : e[v]? = some (.sh d)) : noOwn [v] e = true := by
  simp [noOwn, h]
theorem noOwn_un {v : Nat} {e : Fv} (h : e[v]? = some .un) : noOwn [v] e = true := by
  simp [noOwn, h]
theorem noOwn_eq {v : Nat} {e e' : Fv} (h : e'[v]? = e[v]?) (no : noOwn [v] e = true) : noOwn [v] e' = true := by
  simp only [noOwn, List.all_cons, List.all_nil, Bool.and_true] at no ⊢
  rw [h]
  exact no
/-- range(2) -/
theorem range_two {k : Int} {e : Fv} (hk : k = 2) : range1I (consF (constF (.int k)) nilF) e = .ok [.int 0, .int 1] e := by
  subst hk
  rw [range1_ok (j := 2) (e' := e) (by simp) (by omega) (by omega)]
  rfl

/-! ### lists of ints by places -/
def vec (n : Nat) (f : Nat → Int) : List PyData := (List.range n).map fun k => .int (f k)
@[simp] theorem vec_length {n : Nat} {f : Nat → Int} : (vec n f).length = n := by simp [vec]
theorem vec_get {n : Nat} {f : Nat → Int} {k : Nat} (h : k < n) : (vec n f)[k]? = some (.int (f k)) := by simp [vec, h]
theorem vec_at {n : Nat} {f : Nat → Int} {k : Nat} (h : k < n) : atI (vec n f) (k : Int) = some (.int (f k)) := by
  rw [atI_nat (by omega) (by rw [vec_length]; omega), Int.toNat_natCast, vec_get h]
theorem vec_set {n : Nat} {f : Nat → Int} {j : Nat} {x : Int} (h : j < n) : (vec n f).set j (.int x) = vec n fun k => if k = j then x else f k := by
  refine List.ext_getElem? fun i => ?_
  by_cases hi : i < n
  · by_cases hj : j = i
    · subst hj
      rw [List.getElem?_set_self (by simpa using hi), vec_get hi]
      simp
    · rw [List.getElem?_set_ne hj, vec_get hi, vec_get hi]
      simp [Ne.symm hj]
  · rw [List.getElem?_eq_none (by simp; omega), List.getElem?_eq_none (by simp; omega)]
theorem vec_ix {n : Nat} {f : Nat → Int} {j : Nat} (h : j < n) : ixN (vec n f).length (j : Int) = some j := by
  simp [ixN, h]
theorem vec_congr {n : Nat} {f g : Nat → Int} (h : ∀ k, k < n → f k = g k) : vec n f = vec n g := by
  unfold vec
  exact List.map_congr_left fun k hk => by rw [h k (List.mem_range.mp hk)]
theorem vec_const {n : Nat} {c : Int} : vec n (fun _ => c) = List.replicate n (PyData.int c) := by
  unfold vec
  rw [List.map_const', List.length_range]
theorem vec_rep {n : Nat} {c : Int} : (List.replicate n [PyData.int c]).flatten = vec n fun _ => c := by
  rw [vec_const]
  induction n with
  | zero => rfl
  | succ n ih => rw [List.replicate_succ, List.flatten_cons, ih]; rfl
theorem mulG_lst {xs : List PyData} {k : Int} (h : -(2 ^ 63) ≤ k ∧ k < 2 ^ 63 ∧ xs.length * k.toNat ≤ sizeLine) : mulG (.list xs) (.int k) = some (.fr (List.replicate k.toNat xs).flatten) := by
  rw [mulG, if_pos h]
theorem mulG_tpl {xs : List PyData} {k : Int} (h : xs ≠ [] ∧ 2 ≤ k ∧ k ≤ 1000 ∧ xs.length ≤ 1000) : mulG (.tuple xs) (.int k) = some (.sh (.tuple (List.replicate k.toNat xs).flatten)) := by
  rw [mulG, if_pos h]
theorem mulG_vec {n : Nat} {c : Int} (h : n ≤ 100000) : mulG (.list [.int c]) (.int n) = some (.fr (vec n fun _ => c)) := by
  rw [mulG_lst ⟨by omega, by omega, by simp; unfold sizeLine; omega⟩, Int.toNat_natCast, vec_rep]
theorem flat_one {n : Nat} {d : PyData} : (List.replicate n [d]).flatten = List.replicate n d := by
  induction n with
  | zero => rfl
  | succ n ih => rw [List.replicate_succ, List.flatten_cons, ih]; rfl
theorem mulG1_tup {n : Nat} {d : PyData} (h0 : 1 ≤ n) (h : n ≤ 1000) : mulG1 (.tuple [d]) (.int n) = some (.sh (.tuple (List.replicate n d))) := by
  by_cases h1 : (n : Int) = 1
  · have : n = 1 := by omega
    subst this
    rfl
  · simp only [mulG1, if_neg h1]
    rw [mulG_tpl ⟨by simp, by omega, by omega, by simp⟩, Int.toNat_natCast, flat_one]
/-- xs = [c] * n -/
theorem zeros_ok {i j n : Nat} {c : Int} {e : Fv} (h : e[j]? = some (.sh (.int n))) (hn : n ≤ 100000) : setF i (binF mulG (lstF (consF (constF (.int c)) nilF)) (readF j)) e = .ok .nx (e.set i (.own none (vec n fun _ => c))) := by
  refine set_fr (bin_ok (e1 := e) (r1 := .fr [.int c]) (r2 := .sh (.int n)) (d1 := .list [.int c]) (d2 := .int n) ?_ ?_ rfl rfl (mulG_vec hn))
  · simp [show 1 ≤ sizeLine by decide]
  · simp [h]
theorem vec_plain {n : Nat} {f : Nat → Int} {m : Nat} : ∀ d ∈ vec n f, Plain m d := fun d hd => by
  obtain ⟨k, _, rfl⟩ := List.mem_map.mp hd
  exact .int _
theorem intsOf_vec {n : Nat} {f : Nat → Int} : intsOf (vec n f) = some ((List.range n).map f) := by
  have : vec n f = ((List.range n).map f).map PyData.int := by simp [vec, List.map_map]
  rw [this, intsOf_map]
theorem vec_inj {n : Nat} {f g : Nat → Int} (h : vec n f = vec n g) : ∀ k, k < n → f k = g k := fun k hk => by
  have := congrArg (·[k]?) h
  simpa [vec_get hk] using this
@[simp ↓] theorem augItemF_app (i : Nat) (g : PyData → PyData → Option Rv) (Fi F : Mo Rv) (e : Fv) : augItemF i g Fi F e = (do
  needOwn i
  let rj ← Fi
  let dj ← peek rj
  let ds ← getOwn i
  match dj with
  | .int k => match atI ds k with
    | some old => do
      let r ← F
      let d2 ← peek r
      let res ← liftO (g old d2)
      let ds' ← getOwn i
      match res with
      | .sh d => match ixN ds'.length k with
        | some j => do
          putOwn i (ds'.set j d)
          pure .nx
        | none => stuckM
      | _ => stuckM
    | none => stuckM
  | _ => stuckM : Mo Out) e := Eq.trans rfl rfl
end Cf
/-! Cg, part A: what is never come to. -/
namespace Cf
open PySem PySem.Spec PyProof.Rows L2
/-- a statement that is never come to -/
def neverF : Mo Out := stuckM
theorem es_never {X : Cx} {fr : Fr} {st : Stmt} : PSv X fr st neverF := ⟨fun pins s σ H D I ⟨env, G, h, w⟩ => w.elim⟩
end Cf
/-! Cg, part B: tuple(..) of a generator expression. -/
namespace Cf
open PySem PySem.Spec PyProof.Rows L2 GenW GxR

/-! ### the function -/
def collL (T : PyData → Mo Unit) (C : Mo Bool) (F : Mo Rv) : List PyData → List PyData → Mo (List PyData)
  | [], acc => pure acc
  | d :: ds, acc => thenU (T d) do
    let c ← C
    if c = true then do
      let r ← F
      let x ← force r
      if acc.length < sizeLine then collL T C F ds (acc ++ [x]) else stuckM
    else collL T C F ds acc
mutual
/-- no list within -/
def noLst : PyData → Bool
  | .list _ => false
  | .dict _ => false
  | .tuple ds => noLsts ds
  | _ => true
def noLsts : List PyData → Bool
  | [] => true
  | d :: ds => noLst d && noLsts ds
end
def collF (ixs : List Nat) (m : Nat) (I : Mo (List PyData)) (T : PyData → Mo Unit) (C : Mo Bool) (F : Mo Rv) : Mo (List PyData) := do
  let ds ← I
  inGen ixs m (do
    let xs ← collL T C F ds []
    if noLsts xs = true then pure xs else stuckM)
def tupGen (ixs : List Nat) (m : Nat) (I : Mo (List PyData)) (T : PyData → Mo Unit) (C : Mo Bool) (F : Mo Rv) : Mo Rv := do
  let xs ← collF ixs m I T C F
  pure (.sh (.tuple xs))

section
variable {K : PySem.W.Frag} {G G' : Hp} {A : Addr → Bool}
mutual
theorem Dq.dropped (hA : ∀ a, A a = true → ∀ o, G a = some o → ∃ xs, o = .lst xs) : ∀ (d : PyData) (v : V), noLst d = true → Dq K G v d → Dq K (drop G A) v d
  | .none, _, _, h => by cases h; exact .non
  | .bool b, _, _, h => by cases h; exact .bl b
  | .int i, _, _, h => by cases h; exact .int i
  | .str x, _, _, h => by cases h; exact .str x
  | .list ds, _, n, _ => by simp [noLst] at n
  | .dict kvs, _, n, _ => by simp [noLst] at n
  | .tuple ds, _, n, h => by
    cases h with
    | tup h1 h2 =>
      refine .tup ?_ (DqAll.dropped hA ds _ (by simpa [noLst] using n) h2)
      have key : ∀ {a : Addr} {o : HO}, (∀ xs, o ≠ .lst xs) → G a = some o → drop G A a = some o := fun {a o} hn e => by
        unfold drop
        cases z : A a with
        | false => simpa using e
        | true =>
          obtain ⟨xs, q⟩ := hA a z o e
          exact absurd q (hn xs)
      rcases h1 with h1 | h1
      · refine .inl ?_
        rcases h1 with h1 | ⟨x, h1⟩
        · exact .inl (key (fun _ z => by cases z) h1)
        · exact .inr ⟨x, key (fun _ z => by cases z) h1⟩
      · exact .inr h1
theorem DqAll.dropped (hA : ∀ a, A a = true → ∀ o, G a = some o → ∃ xs, o = .lst xs) : ∀ (ds : List PyData) (vs : List V), noLsts ds = true → DqAll K G vs ds → DqAll K (drop G A) vs ds
  | [], _, _, h => by cases h; exact .nil
  | d :: ds, _, n, h => by
    have n' : noLst d = true ∧ noLsts ds = true := by simpa [noLsts] using n
    cases h with
    | cons h1 h2 => exact .cons (Dq.dropped hA d _ n'.1 h1) (DqAll.dropped hA ds _ n'.2 h2)
end
end

/-! ### the run -/
structure GFinL (X' : Cx) (fr' : Fr) (G0 : Hp) (D : Addr) (Qd : List PyData → Prop) (s : Shared) (σ : L2.St) (H G : Hp) (env : Fv) (acc : List PyData) (accV : List V) : Prop where
  q : Qd acc
  inv : Inv X' [] σ H s
  sr : SR X'.K fr' env σ H G
  sub : Sub G0 G
  hD : H D = some (.lst accV)
  da : DqAll X'.K G accV acc
  gD : G D = none
def GRestL (X' : Cx) (fr' : Fr) (G0 : Hp) (D : Addr) (Qd : List PyData → Prop) : GenEnd := fun _ _ r s => r = .ok .next ∧ ∃ σ H G env acc accV, GFinL X' fr' G0 D Qd s σ H G env acc accV
/-- the consumer has pushed v on its list -/
structure Psh (D : Addr) (v : Value) (s s' : Shared) : Prop where
  os : s'.os = s.os
  bare : AllBare s'.gens
  heap : s'.heap = s.heap.update D (Obj.mapSeq (·.push v))
def GItemL (D a : Addr) (g : Nat) : Protocol := fun _ _ v s kap =>
  s.heap.NoLimit ∧ s.heap.IsGen a g ∧ AllBare s.gens ∧ (∃ acc c, s.heap.get? D = some (lstObj acc c) ∧ acc.size < sizeLine) ∧ ∀ s', Psh D v s s' → kap (.send .none) s'

section
variable {X : Cx} {A1 : Around} {s4 : Shared} {H4 : Hp} {scope : Scope} {N : List Str} {cenv : Env} {fp : List Addr} {a D : Addr} {go : Obj} {tg elt iter : Expr} {ifs : List Expr} {pos : Pos} {it : Addr} {J : It} {tn : Nat → Heap → Prop} {ws : List Nat}
  {T : PyData → Mo Unit} {C : Mo Bool} {F : Mo Rv} {p0 : Hp} {tabs : List Addr} {G0 : Hp} {ds : List PyData} {Qd : List PyData → Prop} {g : Nat}
theorem seg_coll (hco : cenv.scope.isCoroutine = false) (hgen : ∀ h : Heap, h.get? a = some go → h.IsGen a g) (TT : Turn X.prog X.w X.K tg J fp it tn) (io : ItOk X.K J G0 ds) (hDf : D ∉ fp) (pD : p0 D = none) (nT : D ∉ tabs)
    (hg : ∀ p', PGv (genC X A1 s4 H4 scope N cenv fp [(a, go)]) ⟨p', [], tabs, fun _ _ => False⟩ tg ws T) (hc : ∀ p', PTsv (genC X A1 s4 H4 scope N cenv fp [(a, go)]) ⟨p', [], tabs, fun _ _ => False⟩ ifs C)
    (hb : ∀ p', PEv (genC X A1 s4 H4 scope N cenv fp [(a, go)]) ⟨p', [], tabs, fun _ _ => False⟩ elt F) :
    ∀ (k i n : Nat) (s₀ s : Shared) (env : Fv) (σ : L2.St) (H G : Hp) (acc : List PyData) (accV : List V), ds.length - i = k → k ≤ n → i ≤ ds.length → Inv (genC X A1 s4 H4 scope N cenv fp [(a, go)]) [] σ H s → tn i s.heap → (∀ b ∈ fp, FpOk (genC X A1 s4 H4 scope N cenv fp [(a, go)]) [] H b) →
      SR X.K ⟨p0, [], tabs, fun _ _ => False⟩ env σ H G → Sub G0 G → H D = some (.lst accV) → DqAll X.K G accV acc → G D = none → (∀ (i : Nat) (t : Option Nat) (es : List PyData), env[i]? = some (.own t es) → σ[i]? ≠ some (some (.ref D))) →
      wpM (collL T C F (ds.drop i) acc) env (fun acc _ => Qd acc) (fun _ _ => False) →
      Seg (model X.prog X.w) A1 (GRestL (genC X A1 s4 H4 scope N cenv fp [(a, go)]) ⟨p0, [], tabs, fun _ _ => False⟩ G0 D Qd) (GItemL D a g) n s₀
        (.compLoop (.GeneratorExp elt [⟨tg, iter, ifs, 0⟩] scope pos) 0 (.ref it) .none cenv) ((model X.prog X.w).den (.compLoop (.GeneratorExp elt [⟨tg, iter, ifs, 0⟩] scope pos) 0 (.ref it) .none cenv)) [] s := by
  intro k
  induction k with
  | zero =>
    intro i n s₀ s env σ H G acc accV hk hn hi I st hf h sG hD dA gD nA w
    have hin : i = ds.length := by omega
    subst hin
    rw [List.drop_length] at w
    show Seg _ A1 _ _ _ s₀ _ ((compTurn (.GeneratorExp elt [⟨tg, iter, ifs, 0⟩] scope pos) 0 (.ref it) .none cenv).onRaise (leaving cenv)) [] s
    rw [compTurn_gen, Sem.onRaise_eq_wrap]
    refine seg_bind_wrap (wpAny_standAt ?_)
    refine seg_bind_wrap ?_
    rw [over_comp]
    refine wpAny_mono (TT.done (genC X A1 s4 H4 scope N cenv fp [(a, go)]) rfl rfl rfl rfl _ [] s σ H (fun _ _ => False) I hf st (io.stop H G sG h.sub)) (fun r s5 ⟨hr, I5⟩ => ?_) fun _ _ e => e.elim
    subst hr
    exact seg_end (.ok .next) ⟨rfl, σ, H, G, env, acc, accV, w, I5, h, sG, hD, dA, gD⟩
  | succ k ih =>
    intro i n s₀ s env σ H G acc accV hk hn hi I st hf h sG hD dA gD nA w
    have hlt : i < ds.length := by omega
    have stat : ∀ {H' : Hp}, (∀ b ∈ fp, H' b = none) → ∀ b ∈ fp, FpOk (genC X A1 s4 H4 scope N cenv fp [(a, go)]) [] H' b := fun hn b hb => ⟨hn b hb, (hf b hb).2⟩
    rw [List.drop_eq_getElem_cons hlt] at w
    unfold collL at w
    have w1 := wpM_T w
    show Seg _ A1 _ _ _ s₀ _ ((compTurn (.GeneratorExp elt [⟨tg, iter, ifs, 0⟩] scope pos) 0 (.ref it) .none cenv).onRaise (leaving cenv)) [] s
    rw [compTurn_gen, Sem.onRaise_eq_wrap]
    refine seg_bind_wrap (wpAny_standAt ?_)
    refine seg_bind_wrap ?_
    rw [over_comp]
    refine wpAny_mono (TT.item (genC X A1 s4 H4 scope N cenv fp [(a, go)]) rfl rfl rfl rfl i [] s σ H (fun _ _ => False) I hf st (io.go i H G sG h.sub hlt)) (fun r s4' ⟨u, hr, h4⟩ => ?_) fun _ _ e => e.elim
    subst hr
    refine seg_bind_wrap ?_
    rw [over_comp]
    refine wpAny_mono h4 (fun _ s5 ⟨x, H5, I5, r5, y5, st5, fr5⟩ => ?_) fun _ _ e => e.elim
    have I5' := I5.pinned (stat fr5) (TT.obj _ _ st5)
    obtain ⟨G5, d, e5, stp, q5⟩ := io.yld i H G x H5 sG h.sub hlt y5
    rw [List.getElem?_eq_getElem hlt] at e5
    cases e5
    have gD5 : G5 D = none := by
      cases z : G5 D with
      | none => rfl
      | some o =>
        rcases stp.new D (ne_none_of z) with q | q
        · exact absurd gD q
        · rw [hD] at q; cases q
    have h5 := (h.stp stp).guard (stp.ext _ _ hD) gD5 nT nA (fun _ _ => False)
    refine seg_bind_wrap ?_
    rw [over_comp]
    refine wpAny_mono ((hg (upd p0 D (.lst accV))).run _ s5 σ H5 x u (fun σ6 H6 => ∃ env6 G6, SR X.K ⟨upd p0 D (.lst accV), [], tabs, fun _ _ => False⟩ env6 σ6 H6 G6 ∧ Sub G5 G6 ∧ wpM (C >>= fun c => if c = true then (F >>= fun r => force r >>= fun x => if acc.length < sizeLine then collL T C F (ds.drop (i + 1)) (acc ++ [x]) else stuckM) else collL T C F (ds.drop (i + 1)) acc) env6 (fun b _ => Qd b) (fun _ _ => False)) I5' r5
      ⟨env, G5, _, h5, q5, wpM_mono w1 (fun _ env6 w6 σ6 G6 _ h6 s6 => ⟨env6, G6, h6, s6, w6⟩) fun _ _ z => z⟩) (fun _ s6 ⟨σ6, H6, I6, env6, G6, h6, s56, w6⟩ => ?_) fun _ _ e => e.elim
    have keep : ∀ {σ7 : L2.St} {H7 : Hp} {s7 : Shared}, Inv (genC X A1 s4 H4 scope N cenv fp [(a, go)]) ([] ++ pinsAt fp s5.heap) σ7 H7 s7 → tn (i + 1) s7.heap ∧ ∀ b ∈ fp, FpOk (genC X A1 s4 H4 scope N cenv fp [(a, go)]) [] H7 b := fun {σ7 H7 s7} I7 =>
      ⟨TT.keep _ _ _ st5 fun b hb o e => (I7.pin (b, o) (List.mem_append_right _ (List.mem_append_right _ (mem_pinsAt hb e)))).1, stat fun b hb => by
        obtain ⟨o, e, d⟩ := TT.obj _ _ st5 b hb
        exact (I7.pin (b, o) (List.mem_append_right _ (List.mem_append_right _ (mem_pinsAt hb e)))).2.1⟩
    have back : ∀ {env7 : Fv} {σ7 : L2.St} {H7 G7 : Hp}, SR X.K ⟨upd p0 D (.lst accV), [], tabs, fun _ _ => False⟩ env7 σ7 H7 G7 → SR X.K ⟨p0, [], tabs, fun _ _ => False⟩ env7 σ7 H7 G7 ∧ H7 D = some (.lst accV) ∧ G7 D = none ∧ ∀ (i : Nat) (t : Option Nat) (es : List PyData), env7[i]? = some (.own t es) → σ7[i]? ≠ some (some (.ref D)) := fun {env7 σ7 H7 G7} h7 =>
      SR.unguard (fr := ⟨p0, [], tabs, fun _ _ => False⟩) pD h7
    refine seg_bind_wrap ?_
    rw [over_comp]
    refine wpAny_mono ((hc (upd p0 D (.lst accV))).run _ s6 σ6 H6 (fun c H7 => ∃ env7 G7, SR X.K ⟨upd p0 D (.lst accV), [], tabs, fun _ _ => False⟩ env7 σ6 H7 G7 ∧ Sub G5 G7 ∧ wpM (if c = true then (F >>= fun r => force r >>= fun x => if acc.length < sizeLine then collL T C F (ds.drop (i + 1)) (acc ++ [x]) else stuckM) else collL T C F (ds.drop (i + 1)) acc) env7 (fun b _ => Qd b) (fun _ _ => False)) I6
      ⟨env6, G6, h6, wpM_mono (wpM_bind.mp w6) (fun c env7 w7 H7 G7 h7 s7 => ⟨env7, G7, h7, s56.trans s7, w7⟩) fun _ _ z => z.elim⟩) (fun ok s7 ⟨H7, I7, env7, G7, h7, s57, w7⟩ => ?_) fun _ _ e => e.elim
    cases ok with
    | false =>
      simp only [Bool.false_eq_true, if_false] at w7 ⊢
      obtain ⟨k1, k2⟩ := keep I7
      obtain ⟨b1, b2, b3, b4⟩ := back h7
      exact seg_again rfl (ih (i + 1) n s₀ s7 env7 σ6 H7 G7 acc accV (by omega) (by omega) hlt I7.unpinned k1 k2 b1 ((sG.trans stp.mono).trans s57) b2 (Sub.dqAll (stp.mono.trans s57) _ _ dA) b3 b4 w7)
    | true =>
      simp only [if_true] at w7 ⊢
      obtain ⟨n, rfl⟩ : ∃ m, n = m + 1 := ⟨n - 1, by omega⟩
      have hy : ∀ v, yieldOut cenv v = yieldValue v := fun v => by simp only [yieldOut, hco, Bool.false_eq_true, if_false]
      simp only [hy]
      rw [Sem.bind_eq_wrap', Sem.bind_eq_wrap', Sem.wrap_wrap, Sem.wrap_wrap]
      refine seg_wrap ?_
      rw [over_comp]
      refine wpAny_mono (PE.run (hb (upd p0 D (.lst accV))) _ s7 σ6 H7 (fun v H8 => ∃ x env8 G8, SR X.K ⟨upd p0 D (.lst accV), [], tabs, fun _ _ => False⟩ env8 σ6 H8 G8 ∧ Sub G5 G8 ∧ Dq X.K G8 v x ∧ wpM (if acc.length < sizeLine then collL T C F (ds.drop (i + 1)) (acc ++ [x]) else stuckM) env8 (fun b _ => Qd b) (fun _ _ => False)) I7
        (tE_then h7 w7 (fun r env8 H8 G8 v h8 s8 q8 w8 => by
          obtain ⟨x6, env9, G9, h9, s9, d9, w9⟩ := force_ok h8 q8 (wpM_bind.mp w8)
          exact ⟨x6, env9, G9, h9, (s57.trans s8).trans s9, d9, w9⟩) fun c e1 E1 H1 G1 h1 s1 => E1.elim)) (fun y s8 ⟨v, H8, I8, rv, x, env8, G8, h8, s58, d8, w8⟩ => ?_) fun _ _ e => e.elim
      split at w8
      case isFalse => exact w8.elim
      rename_i hz
      obtain ⟨k1, k2⟩ := keep I8
      obtain ⟨b1, b2, b3, b4⟩ := back h8
      have hgen8 := hgen _ (I8.pin (a, go) (List.mem_append_left _ (List.mem_singleton.mpr rfl))).1
      have dA8 := Sub.dqAll (stp.mono.trans s58) _ _ dA
      obtain ⟨hz1, its, c8, r8, l8, e8⟩ := I8.lstM b2
      have hz2 : its.toArray.size < sizeLine := by rw [List.size_toArray, ← l8, dA8.length]; exact hz
      refine seg_at (seg_yield rfl rfl rfl ⟨I8.nolimit, hgen8, I8.bare, ⟨_, _, e8, hz2⟩, fun s' z => ?_⟩)
      have I8' : Inv (genC X A1 s4 H4 scope N cenv fp [(a, go)]) [] σ6 (upd H8 D (.lst (accV ++ [v]))) s' := by
        have I9 := (I8.unpinned (pins := [])).lset (ys := accV ++ [v]) (its' := its ++ [y]) (f := (·.push y)) (t' := s8.toks) b2 e8 (by simp) (r8.append (.cons rv .nil)) (by rw [List.length_append, dA8.length]; show acc.length + 1 ≤ sizeLine; omega)
        obtain ⟨z1, z2, z3⟩ := z
        refine I9.call' (ch := []) z1 (Un.kept fun b o e => by rw [z3]; exact e) (I9.hok.kept fun b o e => by rw [z3]; exact e) z2 fun b z => by simp at z
      have k1' : tn (i + 1) s'.heap := by
        rw [z.heap]
        exact TT.keep _ _ _ k1 fun b hb o e => (Heap.get?_update_other _ _ (fun q => hDf (by rw [q]; exact hb))).trans e
      refine seg_again rfl (ih (i + 1) n s' s' env8 σ6 (upd H8 D (.lst (accV ++ [v]))) G8 (acc ++ [x]) (accV ++ [v]) (by omega) (by omega) hlt I8' k1' (fun b hb => ⟨by rw [upd_ne (fun q => hDf (by rw [← q]; exact hb))]; exact (k2 b hb).1, (k2 b hb).2⟩)
        (b1.poke b2 pD b3 nT b4) ((sG.trans stp.mono).trans s58) upd_same (dA8.append (.cons d8 .nil)) b3 b4 w8)
end

/-! ### the consumer -/
section
variable {P : Program} {w : World} {A : Around} {X' : Cx} {fr' : Fr} {G0 : Hp} {Qd : List PyData → Prop} {a D : Addr} {g : Nat} {res : Value} {R' : Result → Shared → Prop}
theorem ext_loop (hh : A.handled = none) (hroom : A.depth < recursionLimit) (hDa : D ≠ a) (hDc : D ≠ cStatics)
    (hR : ∀ s' σ H G env acc accV, GFinL X' fr' G0 D Qd s' σ H G env acc accV → R' (.ok (.ret res)) s') :
    ∀ (n : Nat) (s : Shared), s.heap.NoLimit → s.heap.IsGen a g → (∃ gs, s.gens[g]? = some gs ∧ gs.Goes (model P w) A.in1.in1 (GRestL X' fr' G0 D Qd) (GItemL D a g) n (.send .none) (s.setGen g .running)) →
      codeAny (model P w) A (.builtin "list.extend.loop" ⟨[.ref D, .ref a, res], []⟩) R' s := by
  have fin : ∀ (s1 : Shared) (h' : Heap), (∃ σ H G env acc accV, GFinL X' fr' G0 D Qd s1 σ H G env acc accV) → (∀ b o, s1.heap.get? b = some o → h'.get? b = some o) → R' (.ok (.ret res)) { s1.setGen g .finished with heap := h' } := by
    intro s1 h' ⟨σ, H, G, env, acc, accV, z⟩ hk
    refine hR _ σ H G env acc accV ⟨z.q, ?_, z.sr, z.sub, z.hD, z.da, z.gD⟩
    exact z.inv.call' (ch := []) rfl (Un.kept hk) (z.inv.hok.kept hk) (allBare_setGen z.inv.bare rfl) fun b z => by simp at z
  intro n
  induction n with
  | zero =>
    intro s hl hg ⟨gs, hgs, hgo⟩
    refine codeAny_builtin F.entry_extend_loop ?_
    rw [Around.under_plainId F.plain_extend_loop _]
    show wpAny _ A.in1 (pyNext (.ref a) >>= _) _ _ s
    refine wpAny_bind (wpAny_pyNext_genexpQ (A := A.in1) (P := fun _ _ s1 => ∃ σ H G env acc accV, GFinL X' fr' G0 D Qd s1 σ H G env acc accV) hh hl hroom hg hgs hgo (fun v s₁ gs' hb hv => ?_) (fun s₁ hp h' hk => ?_))
    · obtain ⟨_, _, hb1, ⟨acc, c, hS1, _⟩, hk⟩ := hv
      exact (hk { s₁ with heap := s₁.heap.update D (Obj.mapSeq (·.push v)) } ⟨rfl, hb1, rfl⟩).elim
    · exact wpAny_pure (fin s₁ h' hp hk)
  | succ n ih =>
    intro s hl hg ⟨gs, hgs, hgo⟩
    have hgl : g < s.gens.size := (Array.getElem?_eq_some_iff.mp hgs).1
    refine codeAny_builtin F.entry_extend_loop ?_
    rw [Around.under_plainId F.plain_extend_loop _]
    show wpAny _ A.in1 (pyNext (.ref a) >>= _) _ _ s
    refine wpAny_bind (wpAny_gsz (n := g + 1) hgl (wpAny_pyNext_genexpQ (A := A.in1) (P := fun _ _ s1 => ∃ σ H G env acc accV, GFinL X' fr' G0 D Qd s1 σ H G env acc accV) hh hl hroom hg hgs hgo (fun v s₁ gs' hb hv => ?_) (fun s₁ hp h' hk => ?_)))
    · intro hsz
      obtain ⟨hl1, hg1, hb1, ⟨acc, c, hS1, hasz⟩, hk⟩ := hv
      show wpAny _ A.in1 (updateSeq D (·.push v) >>= _) _ _ _
      refine wpAny_bind ?_
      refine wpAny_updateSeq hS1 rfl (wpAny_pure ⟨plainId_quiet F.plain_extend_loop _, ?_⟩) (Nat.le_of_lt hasz) (by show (acc.push v).size ≤ sizeLine + 1; rw [Array.size_push]; omega)
      have keep3 : ∀ b o, b ≠ D → s₁.heap.get? b = some o → (s₁.heap.update D (Obj.mapSeq (·.push v))).get? b = some o := fun b o hbS e => (Heap.get?_update_other _ _ (Ne.symm hbS)).trans e
      have hsz1 : g < s₁.gens.size := by
        have q : (s₁.setGen g gs').gens.size = s₁.gens.size := setGen_size _ _ _
        have hsz' : g + 1 ≤ (s₁.setGen g gs').gens.size := hsz
        omega
      refine ih { s₁.setGen g gs' with heap := s₁.heap.update D (Obj.mapSeq (·.push v)) } ?_ ?_ ⟨gs', setGen_at hsz1, ?_⟩
      · obtain ⟨mc, hns, hnn⟩ := hl1
        exact ⟨mc, hns.at' fun o e => keep3 _ o (Ne.symm hDc) e, hnn⟩
      · obtain ⟨o, nm, qn, ho, r⟩ := hg1
        exact ⟨o, nm, qn, keep3 a o (Ne.symm hDa) ho, r⟩
      · exact hk _ ⟨rfl, allBare_setGen (s := s₁.setGen g gs') (allBare_setGen hb1 hb) rfl, rfl⟩
    · intro _
      exact wpAny_pure (fin s₁ h' hp hk)
end

/-- in the generator's context, as tuple(..) runs it -/
abbrev gA (X : Cx) : Around := X.A.in1.in1.in1.in1
abbrev InGenT (X : Cx) (fr : Fr) (k : Nat) (scope : Scope) (N : List Str) (J : Cx → Fr → Prop) : Prop := ∀ (p : Hp) (s : Shared) (H : Hp) (C : Addr) (code : Value) (fp : List Addr) (pn : List (Addr × Obj)),
  Room k ((gA X).deeper (genEnv scope (cloFrom X.env.cells scope.names []) C code builtinsNs X.env)) →
    J (genC X (gA X) s H scope N (genEnv scope (cloFrom X.env.cells scope.names []) C code builtinsNs X.env) fp pn) ⟨p, [], fr.tabs, fun _ _ => False⟩

section
variable {X : Cx} {fr : Fr} {k m : Nat} {tg elt iter : Expr} {ifs : List Expr} {scope : Scope} {N : List Str} {ixs : List Nat} {ws : List Nat} {I : Mo (List PyData)} {T : PyData → Mo Unit} {C : Mo Bool} {F : Mo Rv} {c P : Addr} {gpos : Pos}
theorem gen_madeL (hr : Room (k + 5) X.A) (TB : TabB X.base X.mg c P) (hcode : X.env.code = .ref c) (hPt : P ∈ fr.tabs) (ok : GenOk X.N X.env.scope scope N ixs m)
    (hi : PIq X fr tg iter I) (hg : InGenT X fr k scope N fun X fr => PGv X fr tg ws T) (hc : InGenT X fr k scope N fun X fr => PTsv X fr ifs C) (hb : InGenT X fr k scope N fun X fr => PEv X fr elt F)
    (hs : ∀ v, genFold iter X.env v = pure v) {pins : List (Addr × Obj)} {s : Shared} {σ : L2.St} {H G : Hp} {env : Fv} {R : List PyData → Fv → Prop} (I0 : Inv X pins σ H s) (h0 : SR X.K fr env σ H G)
    (w : wpM (collF ixs m I T C F) env R fun c e' => ∀ H' G', SR X.K fr e' σ H' G' → Sub G G' → fr.W c H') {Qg : Value → Shared → Prop}
    (hQ : ∀ (X' : Cx) (fr' : Fr) (G0 : Hp) (Qd : List PyData → Prop) (a : Addr) (g n : Nat) (gs : GenState) (s5 : Shared), s5.heap.NoLimit → s5.heap.IsGen a g → s5.gens[g]? = some gs → AllBare s5.gens →
      (∀ (D : Addr) (cd : Nat) (sB : Shared), s5.heap.objs.size ≤ D → (∀ b o, s5.heap.get? b = some o → sB.heap.get? b = some o) → sB.heap.get? D = some (lstObj #[] cd) → sB.os = s5.os → AllBare sB.gens →
        gs.Goes (model X.prog X.w) (gA X) (GRestL X' fr' G0 D Qd) (GItemL D a g) n (.send .none) sB) →
      (∀ D s' σ' H' G' env' acc accV, s5.heap.objs.size ≤ D → GFinL X' fr' G0 D Qd s' σ' H' G' env' acc accV → ∃ env2 G2, Inv X pins σ H' s' ∧ SR X.K fr env2 σ H' G2 ∧ Sub G G2 ∧ H' D = some (.lst accV) ∧ DqAll X.K G2 accV acc ∧ R acc env2) → Qg (.ref a) s5) :
    wpAny (model X.prog X.w) X.A (eval (.GeneratorExp elt [⟨tg, iter, ifs, 0⟩] scope gpos) X.env) Qg X.xe s := by
  have hfree : ∀ y ∈ scope.names, y.2 = .free → ∃ c, X.env.cells.lookup y.1 = some c := fun y hy e => by
    rcases ok.free y hy e with k | k
    · exact I0.ok.has _ (.inl k)
    · exact I0.ok.has _ (.inr k)
  refine wpAny_GeneratorExp_make ok.co (closure_ok hfree) ok.cell ok.dot ok.kind hr.depth ?_ hs
  unfold collF at w
  have hTI : tIq X.K fr I σ H fun J H1 => ∃ env1 G1 ds, SR X.K fr env1 σ H1 G1 ∧ Sub G G1 ∧ ItOk X.K J (lay G1 H1 (ownA env1 σ)) ds ∧
      wpM (inGen ixs m (collL T C F ds [] >>= fun xs => if noLsts xs = true then pure xs else stuckM)) env1 R (fun c env' => ∀ H' G', SR X.K fr env' σ H' G' → Sub G G' → fr.W c H') :=
    ⟨env, G, h0, wpM_mono (wpM_bind.mp w) (fun ds env1 w1 H1 G1 J h1 s1 io => ⟨env1, G1, ds, h1, s1, io, w1⟩) fun _ _ q => q⟩
  refine thn (hi.run pins s σ H _ I0 hTI) fun xv s1 h1 => thn h1 fun itv s2 hp => ?_
  obtain ⟨it, fp, tn, J, H2, rfl, I2, TT, st2, f2, env2, G2, ds, h2, sG2, io, w2⟩ := hp
  refine ⟨I2.nolimit, ?_⟩
  obtain ⟨⟨ps, hP, ht⟩, gP⟩ := h2.tab P hPt
  have hPs : s2.heap.get? P = some { cls := .none, data := .fields ps } := I2.hok P _ hP
  have cd : PySem.W.CodeHd s2.heap c P := TB.code.keeps fun b u e => I2.bk b u e
  have cont : ∀ (code : Value) (h3 : Heap) (tk : Nat) (ps' : Array Value), Heap.ExtBut P s2.heap h3 → s2.heap.objs.size ≤ h3.objs.size → h3.get? P = some { cls := .none, data := .fields ps' } → (∃ more, ps' = ps ++ more) → TriplesOk ps'.toList →
      wpAny (model X.prog X.w) X.A (builtinsFor X.env.globals X.env.builtins) (fun bi s₄ => ∀ h', h'.Ns s₄.heap.objs.size (fun y => if y = ".0" then some (.ref it) else none) → Heap.SameBut s₄.heap.objs.size (s₄.heap.push { cls := .type "frame", data := .dict #[] }) h' →
          Qg (.ref h'.objs.size) { s₄ with
            gens := s₄.gens.push (.fresh (.compStart (.GeneratorExp elt [⟨tg, iter, ifs, 0⟩] scope gpos) 0 (.ref it) .none (genEnv scope (cloFrom X.env.cells scope.names []) s₄.heap.objs.size code bi X.env))),
            toks := s₄.toks + 1 + 1 + 1,
            heap := h'.push { cls := .type "generator", data := .fields #[.int s₄.gens.size 0, .str "<genexpr>" (s₄.toks + 1), .str (X.env.qual ++ "<genexpr>") (s₄.toks + 1 + 1)] } }) X.xe { s2 with heap := h3, toks := tk } := by
    intro code h3 tk ps' hx hsz hP3 hmore ht3
    obtain ⟨more, em⟩ := hmore
    obtain ⟨bm, ob, e1, e2, e3, e4, e5, e6, e7, e8⟩ := TB.bm
    have keep3 : ∀ b u, b ≠ P → s2.heap.get? b = some u → h3.get? b = some u := fun b u hb e => hx b u hb e
    have I4 : Inv X pins σ (upd H2 P (.tbl (ps ++ more))) { s2 with heap := h3, gens := s2.gens, drawn := s2.drawn, toks := tk } := inv_tab I2 hP keep3 (by rw [← em]; exact hP3) I2.bare
    have S4 : SR X.K fr env2 σ (upd H2 P (.tbl (ps ++ more))) G2 := h2.grow (ps := ps) hPt (by rw [← em]; exact ht3)
    refine wpAny_builtinsFor (m := X.mg) (by rw [I2.ok.glob]; exact (I2.mod.glob.keeps I2.bk).extBut hx TB.gP) e1 e2 (keep3 _ _ e4 (I2.bk _ _ e5)) e6 e7 e8 ?_
    intro h' hn' hs'
    have hsz' : h'.objs.size = h3.objs.size + 1 := by rw [hs'.1, Heap.size_push]
    have keep' : ∀ b o, h3.get? b = some o → h'.get? b = some o := fun b o e => hs'.extBut b o (Nat.ne_of_lt (Heap.lt_size e)) (Heap.get?_push_of_some _ e)
    have nP : ∀ b ∈ fp, b ≠ P := fun b hb z => by rw [z] at hb; have q := (f2 P hb).1; rw [hP] at q; cases q
    have own_P : ownA env2 σ P = false := by
      cases z : ownA env2 σ P with
      | false => rfl
      | true =>
        obtain ⟨⟨xs, e⟩, _⟩ := h2.ownA_at z
        rw [e] at hP; cases hP
    have fpo : ∀ b ∈ fp, FpOk X pins (upd H2 P (.tbl (ps ++ more))) b ∧ b < h3.objs.size := fun b hb => by
      refine ⟨⟨by rw [upd_ne (nP b hb)]; exact (f2 b hb).1, (f2 b hb).2⟩, ?_⟩
      obtain ⟨o, e, _⟩ := TT.obj _ _ st2 b hb
      exact Nat.lt_of_lt_of_le (Heap.lt_size e) hsz
    generalize hgo : ({ cls := .type "generator", data := .fields #[.int s2.gens.size 0, .str "<genexpr>" (tk + 1), .str (X.env.qual ++ "<genexpr>") (tk + 1 + 1)] } : Obj) = go
    have kp5 : ∀ b o, h3.get? b = some o → (h'.push go).get? b = some o := fun b o e => Heap.get?_push_of_some _ (keep' b o e)
    have hpushed : (h'.push go).get? h'.objs.size = some go := by subst hgo; exact Heap.get?_push_size _ rfl
    have hgen : ∀ h : Heap, h.get? h'.objs.size = some go → h.IsGen h'.objs.size s2.gens.size := fun h e => by subst hgo; exact ⟨_, _, _, e, rfl, rfl, rfl⟩
    have hgod : ∀ v, go.data ≠ .cell v := fun v q => by subst hgo; cases q
    have lim5 : (h'.push go).NoLimit := I4.nolimit.keeps kp5
    have hfr : (gA X).frames = some X.stack := I2.ok.frames
    have hgr : Room k ((gA X).deeper (genEnv scope (cloFrom X.env.cells scope.names []) h3.objs.size code builtinsNs X.env)) := (Room.in1 (Room.in1 (Room.in1 (Room.in1 hr)))).deeper _
    have Lw : lay G2 (upd H2 P (.tbl (ps ++ more))) (ownA env2 σ) = lay G2 H2 (ownA env2 σ) := lay_grow own_P
    have SC := S4.cap ixs m
    rw [Lw] at SC
    have w3 := wpM_mono (wpM_bind.mp (wpM_inGen w2)) (Q' := fun xs _ => noLsts xs = true ∧ R xs env2) (fun xs e' q => by
      by_cases z : noLsts xs = true
      · rw [if_pos z] at q; exact ⟨z, q⟩
      · rw [if_neg z] at q; exact q.elim) fun _ _ q => q
    refine hQ (genC X (gA X) { s2 with heap := h3, toks := tk } (upd H2 P (.tbl (ps ++ more))) scope N (genEnv scope (cloFrom X.env.cells scope.names []) h3.objs.size code builtinsNs X.env) fp [(h'.objs.size, go)])
      ⟨privOf fr.tabs (fun _ => False) (upd H2 P (.tbl (ps ++ more))) (lay G2 H2 (ownA env2 σ)), [], fr.tabs, fun _ _ => False⟩ (lay G2 H2 (ownA env2 σ))
      (fun xs => noLsts xs = true ∧ R xs env2) h'.objs.size s2.gens.size ds.length _ _ lim5 (hgen _ hpushed) (Array.getElem?_push_size ..) (AllBare.push I2.bare rfl) ?_ ?_
    · intro D cdn sB hD5 kB eB oB bB
      refine ⟨rfl, ?_⟩
      have hD5' : (h'.push go).objs.size ≤ D := hD5
      have hDh : h'.objs.size < D := by rw [Heap.size_push] at hD5'; omega
      have hD3 : h3.objs.size < D := by omega
      have Is0 : Inv (genC X (gA X) { s2 with heap := h3, toks := tk } (upd H2 P (.tbl (ps ++ more))) scope N (genEnv scope (cloFrom X.env.cells scope.names []) h3.objs.size code builtinsNs X.env) fp [(h'.objs.size, go)]) [] (capS ixs m σ) (upd H2 P (.tbl (ps ++ more)))
          ({ s2 with heap := h'.push go, gens := s2.gens, toks := tk }) :=
        gen_start (s := { s2 with heap := h3, toks := tk }) I4 ok hr.hd hfr fpo (hn'.push _) kp5 hpushed (by show h3.objs.size < h'.objs.size; omega) hgod I2.bare
      have Is : Inv (genC X (gA X) { s2 with heap := h3, toks := tk } (upd H2 P (.tbl (ps ++ more))) scope N (genEnv scope (cloFrom X.env.cells scope.names []) h3.objs.size code builtinsNs X.env) fp [(h'.objs.size, go)]) [] (capS ixs m σ) (upd (upd H2 P (.tbl (ps ++ more))) D (.lst [])) sB :=
        Inv.drained (H' := upd H2 P (.tbl (ps ++ more))) (ex := []) (acc := #[]) (c := cdn) (out := []) Is0 hD5 (Nat.zero_le _) eB .nil ExOk.nil oB bB (Un.kept kB) (Is0.hok.kept kB) (Is0.hok.fresh hD5)
      have hDn : upd H2 P (.tbl (ps ++ more)) D = none := Is0.hok.fresh hD5
      have SD := SC.stp (Stp.lay (o := .lst []) SC.sub hDn)
      have fpi : ∀ b ∈ fp, FpOk (genC X (gA X) { s2 with heap := h3, toks := tk } (upd H2 P (.tbl (ps ++ more))) scope N (genEnv scope (cloFrom X.env.cells scope.names []) h3.objs.size code builtinsNs X.env) fp [(h'.objs.size, go)]) [] (upd (upd H2 P (.tbl (ps ++ more))) D (.lst [])) b := fun b hb => by
        obtain ⟨⟨z1, z2, z3, z4, z5, z6⟩, z7⟩ := fpo b hb
        refine ⟨by rw [upd_ne (Nat.ne_of_lt (Nat.lt_trans z7 hD3))]; exact z1, Nat.ne_of_lt z7, fun z => ?_, .inl hb, fun y c' e z => ?_, fun p hp z => ?_⟩
        · rcases List.mem_cons.mp (I4.stkSub b z) with y | y
          · exact z2 y
          · exact z3 y
        · refine z5 y c' ?_ z
          rcases cloFrom_mem (PySem.mem_of_lookup e) with hm | ⟨hm1, rfl⟩
          · cases hm
          · obtain ⟨c1, hc1⟩ := hfree _ hm1 rfl
            rw [hc1]
            rfl
        · have e : p = (h'.objs.size, go) := by simpa using hp
          rw [e] at z
          have z' : h'.objs.size = b := z
          rw [hsz'] at z'
          rw [← z'] at z7
          exact absurd (Nat.lt_of_succ_lt z7) (Nat.lt_irrefl _)
      have tB : tn 0 sB.heap := TT.keep _ _ _ st2 fun b hb o e => kB _ _ (kp5 b o (keep3 b o (nP b hb) e))
      refine seg_start (X := X) (fun A Q' E' hq => TT.self A 0 _ Q' E' tB hq) ?_
      refine seg_coll (scope := scope) (iter := iter) (ds := ds) (D := D) ok.co hgen TT io (fun z => Nat.lt_irrefl _ (Nat.lt_trans (fpo D z).2 hD3)) ?_ ?_ (fun p' => hg p' _ _ _ _ _ _ hgr) (fun p' => hc p' _ _ _ _ _ _ hgr) (fun p' => hb p' _ _ _ _ _ _ hgr) ds.length 0 ds.length _ _ _ _ _ _ [] [] (by omega) (Nat.le_refl _) (Nat.zero_le _) Is
        tB fpi SD .refl upd_same .nil (sub_none SC.sub hDn) (SC.notOwn hDn) (by rw [List.drop_zero]; exact w3)
      · cases z : privOf fr.tabs (fun _ => False) (upd H2 P (.tbl (ps ++ more))) (lay G2 H2 (ownA env2 σ)) D with
        | none => rfl
        | some o =>
          have q := (privOf_some (ex := fun _ => False) z).1
          rw [hDn] at q; cases q
      · intro z
        obtain ⟨⟨ps', e, _⟩, _⟩ := S4.tab D z
        rw [hDn] at e; cases e
    · intro D s' σ' H' G' env' acc accV hD5 gf
      obtain ⟨⟨nl, qb⟩, I', h'', sG', hHD, dA, gD⟩ := gf
      have Io : Inv X pins σ H' s' := by
        refine I4.call' (ch := fp) I'.os I'.base I'.hok I'.bare fun b hb => ?_
        obtain ⟨⟨z1, z2, z3, z4, z5, z6⟩, _⟩ := fpo b hb
        exact ⟨z4, z2, z5, z6⟩
      have kept : Kept fr.tabs (fun _ => False) (upd H2 P (.tbl (ps ++ more))) (lay G2 (upd H2 P (.tbl (ps ++ more))) (ownA env2 σ)) H' G' := fun b o e1 e2 e3 e4 => by
        rw [Lw] at e2
        have e5 : privOf fr.tabs (fun _ => False) (upd H2 P (.tbl (ps ++ more))) (lay G2 H2 (ownA env2 σ)) b = some o := by
          unfold privOf
          rw [if_pos ⟨e2, e3, id⟩]
          exact e1
        exact ⟨h''.prot b o e5, h''.dj b (ne_none_of e5)⟩
      obtain ⟨h9, s9⟩ := S4.keptB (by rw [Lw]; exact sG') h''.sub h''.tab kept
      refine ⟨env2, _, Io, h9, sG2.trans s9, hHD, DqAll.dropped (fun a' za o zo => ?_) acc accV nl dA, qb⟩
      have q : lay G2 (upd H2 P (.tbl (ps ++ more))) (ownA env2 σ) a' = upd H2 P (.tbl (ps ++ more)) a' := by
        unfold lay; rw [if_pos za]
      obtain ⟨⟨xs, e⟩, _⟩ := S4.ownA_at za
      rw [e, Lw] at q
      rw [sG' _ _ q] at zo
      exact ⟨xs, (Option.some.inj zo).symm⟩
  cases hf : codeAmong gpos ps.toList with
  | none =>
    refine wpAny_genexprCodeX hcode (cd.code hPs ht) (cd.tab hPs) hf fun c' h' tk hx hge hlt hco' _ htab' _ => ?_
    obtain ⟨o1, vs, f1, tf, fl, tg, inF, tx, tt, op, _, _, _, _, _, _, _, _, _, htr, _⟩ := hco'
    exact cont _ h' tk _ hx (Nat.le_trans hge (Nat.le_of_lt hlt)) htab'.2 ⟨_, rfl⟩ htr
  | some cv =>
    refine wpAny_genexprCode_hit hcode (cd.code hPs ht) hf ?_
    exact cont cv s2.heap s2.toks ps (Heap.ExtBut.refl _ _) (Nat.le_refl _) hPs ⟨#[], by simp⟩ ht
end

section
variable {X : Cx} {fr : Fr} {k m : Nat} {tg elt iter : Expr} {ifs : List Expr} {scope : Scope} {N : List Str} {ixs : List Nat} {ws : List Nat} {I : Mo (List PyData)} {T : PyData → Mo Unit} {C : Mo Bool} {F : Mo Rv} {c P : Addr} {p pos gpos : Pos}
/-- collect(g): the list D holds what was collected -/
theorem collect_gen {A : Around} {a g n : Nat} {gs : GenState} {s5 : Shared} {X' : Cx} {fr' : Fr} {G0 : Hp} {Qd : List PyData → Prop} {Q : List Value → Shared → Prop} {E : Value → Shared → Prop} (hh : A.handled = none) (hroom : A.depth < recursionLimit)
    (hl : s5.heap.NoLimit) (hg : s5.heap.IsGen a g) (hgs : s5.gens[g]? = some gs) (hb : AllBare s5.gens)
    (hgo : ∀ (D : Addr) (cd : Nat) (sB : Shared), s5.heap.objs.size ≤ D → (∀ b o, s5.heap.get? b = some o → sB.heap.get? b = some o) → sB.heap.get? D = some (lstObj #[] cd) → sB.os = s5.os → AllBare sB.gens →
        gs.Goes (model X.prog X.w) A.in1.in1 (GRestL X' fr' G0 D Qd) (GItemL D a g) n (.send .none) sB)
    (hQ : ∀ D s' σ' H' G' env' acc accV (its : List Value) (c : Nat), s5.heap.objs.size ≤ D → GFinL X' fr' G0 D Qd s' σ' H' G' env' acc accV → Vals accV its → its.length ≤ sizeLine → s'.heap.get? D = some { cls := .type "list", data := .seq its.toArray c } → Q its s') :
    wpAny (model X.prog X.w) A (collect (.ref a)) Q E s5 := by
  have hlt : ∀ b o, s5.heap.get? b = some o → s5.heap.objs.size ≠ b := fun b o e => Nat.ne_of_gt (Heap.lt_size e)
  have hDa : s5.heap.objs.size ≠ a := by obtain ⟨o, _, _, ho, _⟩ := id hg; exact hlt a o ho
  have hDc : s5.heap.objs.size ≠ cStatics := by obtain ⟨_, hn, _⟩ := id hl; exact Nat.ne_of_gt hn.lt
  unfold collect
  refine wpAny_bind (wpAny_runValue (codeAny_builtin F.entry_proto_collect ?_))
  rw [Around.under_plainId F.plain_proto_collect _]
  show wpAny _ A.in1 (newList [] >>= fun l => again (.builtin "list.__iadd__" ⟨[l, .ref a], []⟩)) _ _ s5
  refine wpAny_bind (wpAny_newObj_type ?_)
  refine wpAny_pure ⟨plainId_quiet F.plain_list_iadd _, codeAny_builtin F.entry_list_iadd ?_⟩
  rw [Around.under_plainId F.plain_list_iadd _]
  show wpAny _ A.in1 (Builtin.List.listExtendWith (.ref s5.heap.objs.size) (.ref a) (.ref s5.heap.objs.size)) _ _ _
  unfold Builtin.List.listExtendWith
  have k1 : ∀ b o, s5.heap.get? b = some o → (s5.heap.push { cls := .type "list", data := .seq ([] : List Value).toArray }).get? b = some o := fun b o e => Heap.get?_push_of_some _ e
  have gty : ∀ {h : Heap}, (∀ b o, s5.heap.get? b = some o → h.get? b = some o) → h.IsGen a g := fun {h} q => hg.keeps q
  refine wpAny_bind (wpAny_typeOf (Heap.IsGen.typeIs (s := { s5 with heap := _ }) (gty k1)) ?_)
  have h1 : Builtin.List.listSameRef (.ref s5.heap.objs.size) (.ref a) = false := by simp [Builtin.List.listSameRef, hDa]
  have h2 : (Value.type "generator" == Value.type "list") = false := by decide
  have h3 : (Value.type "generator" == Value.type "tuple") = false := by decide
  simp only [h1, h2, h3, Bool.or_false, Bool.false_eq_true, if_false]
  refine wpAny_bind (wpAny_pyIter_gen (s := { s5 with heap := _ }) (gty k1) ?_)
  refine wpAny_bind (wpAny_holding ?_)
  unfold Builtin.List.listLengthHint
  refine wpAny_bind (wpAny_specialOf (Heap.IsGen.typeIs (s := { s5 with heap := _ }) (gty k1)) F.gen_no_len ?_)
  show wpAny _ A.in1 (specialOf (Value.ref a) (Str.ofString "__length_hint__") >>= _) _ _ _
  refine wpAny_bind (wpAny_specialOf (Heap.IsGen.typeIs (s := { s5 with heap := _ }) (gty k1)) F.gen_no_hint ?_)
  refine wpAny_pure ?_
  show wpAny _ A.in1 (rule "list.extend.makes-room" >>= fun _ => Builtin.List.listTouch (.ref s5.heap.objs.size) >>= fun _ =>
    again (.builtin "list.extend.loop" ⟨[.ref s5.heap.objs.size, .ref a, .ref s5.heap.objs.size], []⟩)) _ _ _
  refine wpAny_bind (wpAny_rule ?_)
  have hS1 : (s5.heap.push { cls := .type "list", data := .seq ([] : List Value).toArray }).get? s5.heap.objs.size = some { cls := .type "list", data := .seq ([] : List Value).toArray } := Heap.get?_push_size _ rfl
  refine wpAny_bind ?_
  show wpAny _ A.in1 (updateSeq s5.heap.objs.size (·.push .none) >>= fun _ => updateSeq s5.heap.objs.size (·.pop)) _ _ _
  refine wpAny_bind (wpAny_updateSeq hS1 rfl ?_)
  have hS2 := Heap.get?_update_self (Obj.mapSeq (·.push Value.none)) hS1 rfl
  refine wpAny_updateSeq (hz := by seq_fits) hS2 rfl ?_
  have hS3 := Heap.get?_update_self (Obj.mapSeq (·.pop)) hS2 rfl
  have up : ∀ (h : Heap) (f : Obj → Obj), (∀ b o, s5.heap.get? b = some o → h.get? b = some o) → ∀ b o, s5.heap.get? b = some o → (h.update s5.heap.objs.size f).get? b = some o := fun h f q b o e =>
    (Heap.get?_update_other _ _ (hlt b o e)).trans (q b o e)
  have k3 := up _ (Obj.mapSeq (·.pop)) (up _ (Obj.mapSeq (·.push Value.none)) k1)
  refine wpAny_pure ⟨plainId_quiet F.plain_extend_loop _, ?_⟩
  refine ext_loop (A := A) (g := g) hh hroom hDa hDc (fun s' σ' H' G' env' acc accV gf => ?_) n _ (hl.keeps k3) (gty k3) ⟨gs, hgs, hgo _ _ _ (Nat.le_refl _) k3 hS3 rfl (allBare_setGen (s := { s5 with heap := _ }) hb rfl)⟩
  obtain ⟨hz, its, cc, hv, hlen, he⟩ := gf.inv.lstM gf.hD
  show wpAny _ A (load s5.heap.objs.size >>= _) _ _ s'
  refine wpAny_bind (wpAny_load he ?_)
  refine wpAny_pure ?_
  exact hQ _ s' σ' H' G' env' acc accV its cc (Nat.le_refl _) gf hv (by omega) he
/-- the tuple of what g hands out -/
theorem call_tup_gen {A : Around} {a g n : Nat} {gs : GenState} {s5 : Shared} {X' : Cx} {fr' : Fr} {G0 : Hp} {Qd : List PyData → Prop} {Q : Value → Shared → Prop} {E : Value → Shared → Prop} (hh : A.handled = none) (hroom : A.depth < recursionLimit)
    (hl : s5.heap.NoLimit) (hg : s5.heap.IsGen a g) (hgs : s5.gens[g]? = some gs) (hb : AllBare s5.gens)
    (hgo : ∀ (D : Addr) (cd : Nat) (sB : Shared), s5.heap.objs.size ≤ D → (∀ b o, s5.heap.get? b = some o → sB.heap.get? b = some o) → sB.heap.get? D = some (lstObj #[] cd) → sB.os = s5.os → AllBare sB.gens →
        gs.Goes (model X.prog X.w) A.in1.in1.in1.in1 (GRestL X' fr' G0 D Qd) (GItemL D a g) n (.send .none) sB)
    (hQ : ∀ D s' σ' H' G' env' acc accV (its : List Value) (c : Nat), s5.heap.objs.size ≤ D → GFinL X' fr' G0 D Qd s' σ' H' G' env' acc accV → Vals accV its → its.length ≤ sizeLine → s'.heap.get? D = some { cls := .type "list", data := .seq its.toArray c } →
      Q (.ref s'.heap.objs.size) { s' with heap := s'.heap.push { cls := .type "tuple", data := .seq its.toArray } }) :
    wpAny (model X.prog X.w) A (call (.type "tuple") [.ref a]) Q E s5 := by
  have hT : s5.TypeIs (.ref a) "generator" := Heap.IsGen.typeIs hg
  refine callType_codes (Q₁ := fun obj s₁ => s₁.TypeIs obj "tuple" ∧ Q obj s₁) F.called_tuple (F.typeCall_tuple_1 _) F.entry_object_init ?_ fun obj s₁ h₁ => ?_
  · refine codeAny_of_tree ?_
    show wpAny _ A.in1.in1 (do checkBuiltinCall "tuple.__new__" ⟨[.type "tuple", .ref a], []⟩; again (.builtin "tuple.__new__" ⟨[.type "tuple", .ref a], []⟩)) _ _ s5
    refine wpAny_bind (wpAny_of_eq (F.newCall_tuple_1 _) (wpAny_pure ⟨plainId_quiet F.plain_tuple_new _, codeAny_builtin F.entry_tuple_new ?_⟩))
    rw [Around.under_plainId F.plain_tuple_new _]
    have hsub := sub_tuple_self
    have hinit := init_tuple_lookup
    have hmh := madeHere_tuple
    wp_walk using wpAny_typeOf hT, collect_gen (X := X) (A := A.in1.in1) hh hroom hl hg hgs hb hgo
    intro D s' σ' H' G' env' acc accV its c hD gf hv hz he
    show wpAny _ _ (Builtin.Tuple.tupleExact its.toArray >>= fun v => ret v) _ _ _
    unfold Builtin.Tuple.tupleExact
    refine wpAny_bind (wpAny_newObj_type ?_ (by show its.toArray.size ≤ sizeLine; rw [List.size_toArray]; exact hz))
    refine wpAny_pure ?_
    exact ⟨⟨_, Heap.get?_push_size _ rfl, rfl⟩, hQ D s' σ' H' G' env' acc accV its c hD gf hv hz he⟩
  · exact ⟨h₁.1, F.args_object_init_2 obj _, object_init_meets F.called_tuple.init.lookup F.called_tuple.made (by decide) X.prog X.w A.in1 _ s₁ ⟨h₁.1, rfl, h₁.2⟩⟩
theorem ev_tupGen (hr : Room (k + 5) X.A) (hgl : Gl X "tuple") (hm : X.mg "tuple" = none) (TB : TabB X.base X.mg c P) (hcode : X.env.code = .ref c) (hPt : P ∈ fr.tabs) (ok : GenOk X.N X.env.scope scope N ixs m)
    (hi : PIq X fr tg iter I) (hg : InGenT X fr k scope N fun X fr => PGv X fr tg ws T) (hc : InGenT X fr k scope N fun X fr => PTsv X fr ifs C) (hb : InGenT X fr k scope N fun X fr => PEv X fr elt F)
    (hs : ∀ v, genFold iter X.env v = pure v := by intro _; rfl)
    (he : starEach [.GeneratorExp elt [⟨tg, iter, ifs, 0⟩] scope gpos] X.env = (false, eval (.GeneratorExp elt [⟨tg, iter, ifs, 0⟩] scope gpos) X.env) :: starEach [] X.env := by rfl) :
    PEv X fr (.Call (.Name "tuple" p) [.GeneratorExp elt [⟨tg, iter, ifs, 0⟩] scope gpos] [] pos) (tupGen ixs m I T C F) := by
  refine ⟨fun pins s σ H Q I0 ⟨env, G, h0, w⟩ => ?_⟩
  unfold tupGen at w
  refine wpAny_Call_Name_kw (ld_blt I0 hgl hm (by rfl) ?_)
  refine PyProof.Rows.callWith_type1 ?_ he (by rfl)
  rw [he]
  show wpAny _ _ (spliced ((false, eval (.GeneratorExp elt [⟨tg, iter, ifs, 0⟩] scope gpos) X.env) :: backTo pos (starEach [] X.env))) _ _ s
  refine Calls.spliced_cons (gen_madeL hr TB hcode hPt ok hi hg hc hb hs I0 h0 (wpM_bind.mp w) fun X' fr' G0 Qd a g n gs s5 hl5 hg5 hgs5 hb5 hgo hfin => ?_)
  refine Calls.spliced_nil ?_
  refine call_tup_gen (X := X) hr.hd hr.depth hl5 hg5 hgs5 hb5 hgo fun D s' σ' H' G' env' acc accV its cc hD gf hv hz hD' => ?_
  obtain ⟨env2, G2, I2, h2, s2, hHD, dA, q⟩ := hfin D s' σ' H' G' env' acc accV hD gf
  have hp := I2.fresh
  have IT : Inv X pins σ (upd H' s'.heap.objs.size (.tup accV)) { s' with heap := s'.heap.push { cls := .type "tuple", data := .seq its.toArray } } := by
    refine I2.laid (t' := s'.toks) (fun _ _ q => Heap.get?_push_of_some _ q) (Nat.le_refl _) ?_
    exact ⟨by rw [hv.length]; exact hz, its, hv, IsTup.new _ _⟩
  have st := Stp.fix (o := .tup accV) h2.sub hp
  have h3 := h2.stp st
  refine ⟨.ref s'.heap.objs.size, _, IT, rfl, ?_⟩
  exact q _ _ _ h3 (s2.trans st.mono) (Dq.tup (.inl (.inl upd_same)) (Sub.dqAll st.mono _ _ dA))
end
end Cf
/-! Cg, part C: what tuple(..) of a generator expression is. -/
namespace Cf
open PySem PySem.Spec PyProof.Rows L2
theorem coll_tab {v : Nat} {F : Mo Rv} {c : Fv} (hv : v < c.length) : ∀ {l : List (PyData × PyData)} {acc : List PyData} {x : Sl}, acc.length + l.length ≤ sizeLine →
    (∀ d ∈ l, F (c.set v (.sh d.1)) = .ok (.sh d.2) (c.set v (.sh d.1))) → ∃ c', collL (toSlot v) yesF F (l.map Prod.fst) acc (c.set v x) = .ok (acc ++ l.map Prod.snd) c'
  | [], acc, x, _, _ => ⟨_, by simp [collL]; rfl⟩
  | d :: l, acc, x, hl, h => by
    have h1 := h d (by simp)
    obtain ⟨c', e⟩ := coll_tab hv (l := l) (acc := acc ++ [d.2]) (x := .sh d.1) (by simp at hl ⊢; omega) fun d hd => h d (by simp [hd])
    refine ⟨c', ?_⟩
    have hz : acc.length < sizeLine := by simp at hl; omega
    rw [List.map_cons]
    unfold collL
    rw [show acc ++ (d :: l).map Prod.snd = acc ++ [d.2] ++ l.map Prod.snd by simp, ← e]
    simp [toSlot, storeF, thenU, List.set_set, h1, hz, hv]
theorem tup_tab {ixs : List Nat} {m v : Nat} {Io : Mo (List PyData)} {F : Mo Rv} {e e' : Fv} (l : List (PyData × PyData)) (hI : Io e = .ok (l.map Prod.fst) e') (hv : (capE ixs m e')[v]? = some .un) (hl : l.length ≤ sizeLine) (hn : noLsts (l.map Prod.snd) = true)
    (h : ∀ d ∈ l, F ((capE ixs m e').set v (.sh d.1)) = .ok (.sh d.2) ((capE ixs m e').set v (.sh d.1))) : tupGen ixs m Io (toSlot v) yesF F e = .ok (.sh (.tuple (l.map Prod.snd))) e' := by
  have hv2 : v < (capE ixs m e').length := (List.getElem?_eq_some_iff.mp hv).1
  obtain ⟨c', k⟩ := coll_tab hv2 (l := l) (acc := []) (x := .un) (by simpa using hl) h
  have e0 : (capE ixs m e').set v .un = capE ixs m e' := by
    apply List.ext_getElem?
    intro i
    rw [List.getElem?_set]
    by_cases hi : v = i
    · subst hi; rw [if_pos rfl, if_pos hv2, hv]
    · rw [if_neg hi]
  rw [e0] at k
  rw [List.nil_append] at k
  have k2 : inGen ixs m (collL (toSlot v) yesF F (l.map Prod.fst) [] >>= fun xs => if noLsts xs = true then pure xs else stuckM) e' = .ok (l.map Prod.snd) e' := by
    unfold inGen
    rw [bind_eq]
    unfold Mo.bind
    rw [k]
    simp only [hn, if_true]
    rfl
  show Mo.bind (Mo.bind Io fun ds => inGen ixs m (collL (toSlot v) yesF F ds [] >>= fun xs => if noLsts xs = true then pure xs else stuckM)) _ e = _
  unfold Mo.bind
  rw [hI]
  simp only [k2]
  rfl
theorem loop_nx {T : PyData → Mo Unit} {B : Mo Out} {d : PyData} {ds : List PyData} {e e' : Fv} (h : thenU (T d) B e = .ok .nx e') : loopF T B (d :: ds) e = loopF T B ds e' := by
  rw [loop_cons, h]
theorem loop_end {T : PyData → Mo Unit} {B : Mo Out} {e : Fv} : loopF T B [] e = .ok .nx e := rfl
end Cf
/-! Ch, part A: fractions. -/
namespace Cf
open PySem PySem.Spec PyProof.Rows L2

/-! ### sizes -/
/-- less than 2 ^ n in size -/
def Sz (n : Nat) (x : Int) : Prop := x.natAbs < 2 ^ n
theorem Sz.mono {n m : Nat} {x : Int} (h : Sz n x) (hm : n ≤ m) : Sz m x := Nat.lt_of_lt_of_le h (Nat.pow_le_pow_right (by decide) hm)
theorem Sz.neg {n : Nat} {x : Int} (h : Sz n x) : Sz n (-x) := by
  unfold Sz at *
  omega
theorem Sz.mul {n m : Nat} {x y : Int} (h : Sz n x) (k : Sz m y) : Sz (n + m) (x * y) := by
  unfold Sz at *
  rw [Int.natAbs_mul, Nat.pow_add]
  exact Nat.mul_lt_mul'' h k
theorem Sz.add {n : Nat} {x y : Int} (h : Sz n x) (k : Sz n y) : Sz (n + 1) (x + y) := by
  unfold Sz at *
  rw [Nat.pow_succ]
  omega
theorem Sz.sub {n : Nat} {x y : Int} (h : Sz n x) (k : Sz n y) : Sz (n + 1) (x - y) := by
  unfold Sz at *
  rw [Nat.pow_succ]
  omega
theorem Sz.of {n : Nat} {x : Int} {k : Nat} (h : x.natAbs < k) (hk : k ≤ 2 ^ n) : Sz n x := Nat.lt_of_lt_of_le h hk
theorem bits_le {n : Nat} {x : Int} (h : Sz n x) : Builtin.Int.intBits x ≤ n := by
  unfold Builtin.Int.intBits
  split
  · omega
  · rename_i z
    have : x.natAbs ≠ 0 := by simpa using z
    have := (Nat.log2_lt this).mpr h
    omega
theorem mulOk_sz {n m : Nat} {x y : Int} (h : Sz n x) (k : Sz m y) (hs : n + m ≤ 100000) : mulOk x y = true := by
  have b1 := bits_le h
  have b2 := bits_le k
  have : Builtin.Int.intTooBig (Builtin.Int.intBits x + Builtin.Int.intBits y) = false := by
    unfold Builtin.Int.intTooBig bitsLine
    exact decide_eq_false (by omega)
  simp [mulOk, this]
theorem mulG_sz {n m : Nat} {x y : Int} (h : Sz n x) (k : Sz m y) (hs : n + m ≤ 100000) : mulG (.int x) (.int y) = some (.sh (.int (x * y))) := by
  rw [mulG, if_pos (mulOk_sz h k hs)]
theorem fdivG_sz {n : Nat} {x y : Int} (h0 : y ≠ 0) (h : Sz n y) (hs : n ≤ 8000) : fdivG (.int x) (.int y) = some (.sh (.int (x.fdiv y))) := by
  have : Builtin.divisionGoesByPylong x y = false := by
    unfold Builtin.divisionGoesByPylong
    have hz : (y == 0) = false := by simpa using h0
    simp only [hz, Bool.false_eq_true, if_false]
    have h1 : y.natAbs.log2 < n := (Nat.log2_lt (by omega)).mpr h
    have : ¬ (y.natAbs.log2 / 30 + 1 > 300) := by omega
    simp [this]
  rw [fdivG, if_pos ⟨h0, this⟩]

/-! ### fractions as data -/
def rD (q : Rat) : PyData := .tuple [.int q.num, .int q.den]
/-- both numbers less than 2 ^ n -/
structure Rz (n : Nat) (q : Rat) : Prop where
  num : Sz n q.num
  den : Sz n (q.den : Int)
theorem Rz.mono {n m : Nat} {q : Rat} (h : Rz n q) (hm : n ≤ m) : Rz m q := ⟨h.num.mono hm, h.den.mono hm⟩
theorem Rz.int {n : Nat} {i : Int} (h : Sz n i) (h0 : 0 < n) : Rz n (i : Rat) := by
  refine ⟨by rw [Rat.num_intCast]; exact h, ?_⟩
  rw [Rat.den_intCast]
  exact Nat.one_lt_two_pow (by omega)
theorem rD_inj {p q : Rat} : rD p = rD q ↔ p = q := by
  constructor
  · intro h
    simp only [rD, PyData.tuple.injEq, List.cons.injEq, PyData.int.injEq, and_true] at h
    exact Rat.ext h.1 (by omega)
  · rintro rfl
    rfl
theorem rD_int (i : Int) : rD (i : Rat) = .tuple [.int i, .int 1] := by
  simp [rD, Rat.num_intCast, Rat.den_intCast]
theorem rD_plain {n : Nat} {q : Rat} : Plain (n + 1) (rD q) := .tup fun d hd => by
  simp only [List.mem_cons, List.not_mem_nil, or_false] at hd
  rcases hd with rfl | rfl <;> exact .int _
theorem rD_deep {n : Nat} {q : Rat} : Deepn (n + 2) (rD q) := .tup (by simp) fun d hd => by
  simp only [List.mem_cons, List.not_mem_nil, or_false] at hd
  rcases hd with rfl | rfl <;> exact .int _
theorem at_num {q : Rat} : atI [PyData.int q.num, PyData.int (q.den : Int)] 0 = some (.int q.num) := atI_cons
theorem at_den {q : Rat} : atI [PyData.int q.num, PyData.int (q.den : Int)] 1 = some (.int q.den) := by
  rw [atI_nat (by omega) (by simp only [List.length_cons, List.length_nil]; omega)]
  rfl
/-- a fraction is told by its lowest terms -/
theorem low_unique {p w a b : Int} (hw : w ≠ 0) (hb : 0 < b) (hg : Nat.gcd a.natAbs b.natAbs = 1) (h : a * w = p * b) : rD (Rat.divInt p w) = .tuple [.int a, .int b] := by
  have e : Rat.divInt a b = Rat.divInt p w := (Rat.divInt_eq_divInt_iff (by omega) hw).mpr h
  have m : (⟨a, b.natAbs, by omega, hg⟩ : Rat) = Rat.divInt a b := by
    have := Rat.num_divInt_den (⟨a, b.natAbs, by omega, hg⟩ : Rat)
    rw [← this]
    show Rat.divInt a (b.natAbs : Int) = _
    rw [show ((b.natAbs : Nat) : Int) = b by omega]
  rw [← e, ← m]
  simp only [rD]
  rw [show ((b.natAbs : Nat) : Int) = b by omega]
theorem low_fdiv (p w : Int) (hw : w ≠ 0) : rD (Rat.divInt p w) = .tuple [.int (p.fdiv (if w < 0 then -(Nat.gcd p.natAbs w.natAbs : Int) else (Nat.gcd p.natAbs w.natAbs : Nat))), .int (w.fdiv (if w < 0 then -(Nat.gcd p.natAbs w.natAbs : Int) else (Nat.gcd p.natAbs w.natAbs : Nat)))] := by
  have hG : 0 < Nat.gcd p.natAbs w.natAbs := Nat.gcd_pos_of_pos_right _ (by omega)
  have d1 : (Nat.gcd p.natAbs w.natAbs : Int) ∣ p := Int.ofNat_dvd_left.mpr (Nat.gcd_dvd_left _ _)
  have d2 : (Nat.gcd p.natAbs w.natAbs : Int) ∣ w := Int.ofNat_dvd_left.mpr (Nat.gcd_dvd_right _ _)
  obtain ⟨p', hp⟩ := d1
  obtain ⟨w', hw'⟩ := d2
  have hc : Nat.gcd p'.natAbs w'.natAbs = 1 := by
    have e1 : p.natAbs = Nat.gcd p.natAbs w.natAbs * p'.natAbs := by
      conv => lhs; rw [hp]
      rw [Int.natAbs_mul, Int.natAbs_natCast]
    have e2 : w.natAbs = Nat.gcd p.natAbs w.natAbs * w'.natAbs := by
      conv => lhs; rw [hw']
      rw [Int.natAbs_mul, Int.natAbs_natCast]
    have key : Nat.gcd (Nat.gcd p.natAbs w.natAbs * p'.natAbs) (Nat.gcd p.natAbs w.natAbs * w'.natAbs) = Nat.gcd p.natAbs w.natAbs := by rw [← e1, ← e2]
    rw [Nat.gcd_mul_left] at key
    exact Nat.eq_of_mul_eq_mul_left hG (by rw [Nat.mul_one]; exact key)
  generalize Nat.gcd p.natAbs w.natAbs = G at *
  have hGi : (0 : Int) < (G : Int) := by omega
  by_cases hn : w < 0
  · rw [if_pos hn]
    have hw0 : w' < 0 := by
      apply Int.not_le.mp
      intro h
      have := Int.mul_nonneg (show (0 : Int) ≤ G by omega) h
      omega
    have f1 : p.fdiv (-(G : Int)) = -p' := by
      rw [hp, show (G : Int) * p' = (-p') * (-(G : Int)) by grind, Int.mul_fdiv_cancel _ (by omega)]
    have f2 : w.fdiv (-(G : Int)) = -w' := by
      rw [hw', show (G : Int) * w' = (-w') * (-(G : Int)) by grind, Int.mul_fdiv_cancel _ (by omega)]
    rw [f1, f2]
    refine low_unique hw (by omega) (by rw [Int.natAbs_neg, Int.natAbs_neg]; exact hc) ?_
    rw [hp, hw']
    grind
  · rw [if_neg hn]
    have hw0 : 0 < w' := by
      apply Int.not_le.mp
      intro h
      have : (G : Int) * w' ≤ 0 := by
        have := Int.mul_le_mul_of_nonneg_left h (show (0 : Int) ≤ G by omega)
        simpa using this
      omega
    have f1 : p.fdiv (G : Int) = p' := by
      rw [hp, Int.mul_comm, Int.mul_fdiv_cancel _ (by omega)]
    have f2 : w.fdiv (G : Int) = w' := by
      rw [hw', Int.mul_comm, Int.mul_fdiv_cancel _ (by omega)]
    rw [f1, f2]
    refine low_unique hw hw0 hc ?_
    rw [hp, hw']
    grind
theorem gcd_sz {n : Nat} {p w : Int} (hw : w ≠ 0) (h : Sz n w) : Sz n (Nat.gcd p.natAbs w.natAbs : Nat) := by
  unfold Sz at *
  rw [Int.natAbs_natCast]
  exact Nat.lt_of_le_of_lt (Nat.gcd_le_right _ (by omega)) h
theorem Rz.low {n : Nat} {p w : Int} (hw : w ≠ 0) (h1 : Sz n p) (h2 : Sz n w) : Rz n (Rat.divInt p w) := by
  have e := low_fdiv p w hw
  have hG : 0 < Nat.gcd p.natAbs w.natAbs := Nat.gcd_pos_of_pos_right _ (by omega)
  simp only [rD, PyData.tuple.injEq, List.cons.injEq, PyData.int.injEq, and_true] at e
  have q : ∀ (x : Int) (y : Nat), 0 < y → Sz n x → Sz n (x.fdiv y) ∧ Sz n (x.fdiv (-(y : Int))) := fun x y hy h => by
    unfold Sz at *
    have a : (x.fdiv y).natAbs ≤ x.natAbs := by
      rw [Int.fdiv_eq_ediv_of_nonneg _ (by omega)]
      rcases Int.le_total 0 x with hx | hx
      · have := Int.ediv_le_self (y : Int) hx
        have := Int.ediv_nonneg hx (show (0 : Int) ≤ y by omega)
        omega
      · have h1 : x ≤ x / (y : Int) := by
          apply Int.le_ediv_of_mul_le (by omega)
          have : x * (y : Int) ≤ x * 1 := Int.mul_le_mul_of_nonpos_left hx (by omega)
          omega
        have h2 : x / (y : Int) < 1 := Int.ediv_lt_of_lt_mul (by omega) (by omega)
        omega
    have b : (x.fdiv (-(y : Int))).natAbs ≤ x.natAbs := by
      have : x.fdiv (-(y : Int)) = (-x).fdiv y := by
        have := Int.neg_fdiv_neg x (-(y : Int))
        rw [Int.neg_neg] at this
        exact this.symm
      rw [this, Int.fdiv_eq_ediv_of_nonneg _ (by omega)]
      rcases Int.le_total 0 (-x) with hx | hx
      · have := Int.ediv_le_self (y : Int) hx
        have := Int.ediv_nonneg hx (show (0 : Int) ≤ y by omega)
        omega
      · have h1 : -x ≤ -x / (y : Int) := by
          apply Int.le_ediv_of_mul_le (by omega)
          have : -x * (y : Int) ≤ -x * 1 := Int.mul_le_mul_of_nonpos_left hx (by omega)
          omega
        have h2 : -x / (y : Int) < 1 := Int.ediv_lt_of_lt_mul (by omega) (by omega)
        omega
    exact ⟨by omega, by omega⟩
  have q1 := q p _ hG h1
  have q2 := q w _ hG h2
  constructor
  · rw [e.1]
    split
    · exact q1.2
    · exact q1.1
  · rw [e.2]
    split
    · exact q2.2
    · exact q2.1
end Cf
/-! Ch, part B: what reckons with fractions. -/
namespace Cf
open PySem PySem.Spec PyProof.Rows L2

/-- f brings two ints to lowest terms -/
def LowOk (f : List PyData → FnR) : Prop := ∀ (n : Nat) (p w : Int), w ≠ 0 → Sz n w → n ≤ 8000 → f [.int p, .int w] = .ok (.sh (rD (Rat.divInt p w)))
abbrev lowB : Mo Out :=
  seqF (setF 2 (callBF gcdG (consF (readF 0) (consF (readF 1) (nilF)))))
    (seqF (ifF (boolF (binF ltG (readF 1) (constF (.int 0)))) (setF 2 (unF negG (readF 2))) (skipF))
    (retF (tupF (consF (binF fdivG (readF 0) (readF 2)) (consF (binF fdivG (readF 1) (readF 2)) (nilF))))))
theorem lowB_ok : LowOk (runF 3 lowB) := fun n p w hw hs hn => by
  have hG : 0 < Nat.gcd p.natAbs w.natAbs := Nat.gcd_pos_of_pos_right _ (by omega)
  have hz := gcd_sz (p := p) hw hs
  rw [low_fdiv p w hw]
  generalize hGG : Nat.gcd p.natAbs w.natAbs = G at *
  have z2 : 2 ≤ sizeLine := by decide
  by_cases h : w < 0
  · have f1 := fdivG_sz (x := p) (y := -(G : Int)) (by omega) hz.neg hn
    have f2 := fdivG_sz (x := w) (y := -(G : Int)) (by omega) hz.neg hn
    simp [runF, h, hGG, f1, f2, z2]
  · have f1 := fdivG_sz (x := p) (y := (G : Int)) (by omega) hz hn
    have f2 := fdivG_sz (x := w) (y := (G : Int)) (by omega) hz hn
    simp [runF, h, hGG, f1, f2, z2]
abbrev plusB (f : List PyData → FnR) : Mo Out :=
  retF (callF 2 f (consF (binF addG (binF mulG (binF itemG (readF 0) (constF (.int 0))) (binF itemG (readF 1) (constF (.int 1)))) (binF mulG (binF itemG (readF 1) (constF (.int 0))) (binF itemG (readF 0) (constF (.int 1))))) (consF (binF mulG (binF itemG (readF 0) (constF (.int 1))) (binF itemG (readF 1) (constF (.int 1)))) (nilF))))
abbrev minusB (f : List PyData → FnR) : Mo Out :=
  retF (callF 2 f (consF (binF subG (binF mulG (binF itemG (readF 0) (constF (.int 0))) (binF itemG (readF 1) (constF (.int 1)))) (binF mulG (binF itemG (readF 1) (constF (.int 0))) (binF itemG (readF 0) (constF (.int 1))))) (consF (binF mulG (binF itemG (readF 0) (constF (.int 1))) (binF itemG (readF 1) (constF (.int 1)))) (nilF))))
abbrev timesB (f : List PyData → FnR) : Mo Out :=
  retF (callF 2 f (consF (binF mulG (binF itemG (readF 0) (constF (.int 0))) (binF itemG (readF 1) (constF (.int 0)))) (consF (binF mulG (binF itemG (readF 0) (constF (.int 1))) (binF itemG (readF 1) (constF (.int 1)))) (nilF))))
abbrev lessB : Mo Out :=
  retF (binF ltG (binF mulG (binF itemG (readF 0) (constF (.int 0))) (binF itemG (readF 1) (constF (.int 1)))) (binF mulG (binF itemG (readF 1) (constF (.int 0))) (binF itemG (readF 0) (constF (.int 1)))))
abbrev minusB2 (plus : List PyData → FnR) : Mo Out :=
  retF (callF 2 plus (consF (readF 0) (consF (tupF (consF (unF negG (binF itemG (readF 1) (constF (.int 0)))) (consF (binF itemG (readF 1) (constF (.int 1))) (nilF)))) (nilF))))
theorem den_ne (q : Rat) : (q.den : Int) ≠ 0 := by
  have := q.den_nz
  omega
theorem den_mul_ne (p q : Rat) : (p.den : Int) * (q.den : Int) ≠ 0 := Int.mul_ne_zero (den_ne p) (den_ne q)
theorem add_low (p q : Rat) : p + q = Rat.divInt (p.num * q.den + q.num * p.den) (p.den * q.den) := by
  conv => lhs; rw [← Rat.num_divInt_den p, ← Rat.num_divInt_den q]
  rw [Rat.divInt_add_divInt _ _ (den_ne p) (den_ne q)]
theorem sub_low (p q : Rat) : p - q = Rat.divInt (p.num * q.den - q.num * p.den) (p.den * q.den) := by
  conv => lhs; rw [← Rat.num_divInt_den p, ← Rat.num_divInt_den q]
  rw [Rat.divInt_sub_divInt _ _ (den_ne p) (den_ne q)]
theorem mul_low (p q : Rat) : p * q = Rat.divInt (p.num * q.num) (p.den * q.den) := by
  conv => lhs; rw [← Rat.num_divInt_den p, ← Rat.num_divInt_den q]
  rw [Rat.divInt_mul_divInt]
section
variable {n m : Nat} {p q : Rat}
theorem Rz.add (h : Rz n p) (k : Rz m q) : Rz (n + m + 1) (p + q) := by
  rw [add_low]
  exact Rz.low (den_mul_ne p q) (Sz.add (h.num.mul k.den) ((k.num.mul h.den).mono (by omega))) ((h.den.mul k.den).mono (by omega))
theorem Rz.sub (h : Rz n p) (k : Rz m q) : Rz (n + m + 1) (p - q) := by
  rw [sub_low]
  exact Rz.low (den_mul_ne p q) (Sz.sub (h.num.mul k.den) ((k.num.mul h.den).mono (by omega))) ((h.den.mul k.den).mono (by omega))
theorem Rz.mul (h : Rz n p) (k : Rz m q) : Rz (n + m) (p * q) := by
  rw [mul_low]
  exact Rz.low (den_mul_ne p q) (h.num.mul k.num) (h.den.mul k.den)
theorem Rz.neg (h : Rz n p) : Rz n (-p) := by
  have e : (-p).num = -p.num := Rat.neg_num p
  have d : (-p).den = p.den := Rat.neg_den p
  exact ⟨by rw [e]; exact h.num.neg, by rw [d]; exact h.den⟩
variable {f : List PyData → FnR} (hf : LowOk f) (h : Rz n p) (k : Rz m q) (hs : n + m ≤ 8000)
include hf h k hs
theorem plusB_ok : runF 2 (plusB f) [rD p, rD q] = .ok (.sh (rD (p + q))) := by
  rw [add_low]
  have e := hf (n + m) (p.num * q.den + q.num * p.den) (p.den * q.den) (den_mul_ne p q) (h.den.mul k.den) hs
  simp [runF, rD, at_num, at_den, mulG_sz h.num k.den (by omega), mulG_sz k.num h.den (by omega), mulG_sz h.den k.den (by omega), e]
theorem minusB_ok : runF 2 (minusB f) [rD p, rD q] = .ok (.sh (rD (p - q))) := by
  rw [sub_low]
  have e := hf (n + m) (p.num * q.den - q.num * p.den) (p.den * q.den) (den_mul_ne p q) (h.den.mul k.den) hs
  simp [runF, rD, at_num, at_den, mulG_sz h.num k.den (by omega), mulG_sz k.num h.den (by omega), mulG_sz h.den k.den (by omega), e]
theorem timesB_ok : runF 2 (timesB f) [rD p, rD q] = .ok (.sh (rD (p * q))) := by
  rw [mul_low]
  have e := hf (n + m) (p.num * q.num) (p.den * q.den) (den_mul_ne p q) (h.den.mul k.den) hs
  simp [runF, rD, at_num, at_den, mulG_sz h.num k.num (by omega), mulG_sz h.den k.den (by omega), e]
omit hf in
theorem lessB_ok : runF 2 lessB [rD p, rD q] = .ok (.sh (.bool (decide (p < q)))) := by
  simp [runF, rD, at_num, at_den, mulG_sz h.num k.den (by omega), mulG_sz k.num h.den (by omega), Rat.lt_iff]
end
theorem minusB2_ok {p q : Rat} {plus : List PyData → FnR} (h : plus [rD p, rD (-q)] = .ok (.sh (rD (p - q)))) : runF 2 (minusB2 plus) [rD p, rD q] = .ok (.sh (rD (p - q))) := by
  have e : (-q).num = -q.num := Rat.neg_num q
  have d : (-q).den = q.den := Rat.neg_den q
  simp only [rD, e, d] at h
  simp [runF, rD, at_num, at_den, h, show 2 ≤ sizeLine by decide]

/-! ### Euclid's loop -/
abbrev eucL (i j : Nat) : Mo Out := parF [i, j] (consU (readF j) (consU (binF modG (callBF intG (consF (readF i) (nilF))) (readF j)) (nilF)))
abbrev eucC (j : Nat) : Mo Bool := boolF (binF gtG (readF j) (constF (.int 0)))
theorem mod_half {a b : Nat} (hb : b < a) (h0 : 0 < b) : a % b < a - a / 2 := by
  rcases Nat.lt_or_ge (a / 2) b with h | h
  · have := Nat.mod_add_div a b
    have h1 : 1 ≤ a / b := (Nat.le_div_iff_mul_le h0).mpr (by omega)
    have : b * 1 ≤ b * (a / b) := Nat.mul_le_mul_left _ h1
    omega
  · have := Nat.mod_lt a h0
    omega
theorem euclid {i j : Nat} (hij : i ≠ j) {L : Mo Out} (hL : ∀ e : Fv, L e = eucL i j e) : ∀ (k : Nat) (a b : Nat) (e : Fv) (n : Nat), i < e.length → j < e.length → e[i]? = some (.sh (.int a)) → e[j]? = some (.sh (.int b)) → b < 2 ^ k → 2 * k + 1 ≤ n →
    ∃ e', whileN (eucC j) L n e = .ok .nx e' ∧ Agr [i, j] e e' ∧ e'[i]? = some (.sh (.int (Nat.gcd a b : Nat))) ∧ e'[j]? = some (.sh (.int 0)) := by
  have stop : ∀ (a : Nat) (e : Fv) (n : Nat), e[i]? = some (.sh (.int a)) → e[j]? = some (.sh (.int 0)) → ∃ e', whileN (eucC j) L (n + 1) e = .ok .nx e' ∧ Agr [i, j] e e' ∧ e'[i]? = some (.sh (.int (Nat.gcd a 0 : Nat))) ∧ e'[j]? = some (.sh (.int 0)) := fun a e n h1 h2 => by
    refine ⟨e, ?_, .refl, by simpa using h1, h2⟩
    unfold whileN
    rw [bind_app, show eucC j e = .ok false e by simp [-getElem?_pos, h2]]
    rfl
  have step : ∀ (a b : Nat) (e : Fv) (n : Nat), i < e.length → j < e.length → e[i]? = some (.sh (.int a)) → e[j]? = some (.sh (.int b)) → 0 < b →
      ∃ e1, whileN (eucC j) L (n + 1) e = whileN (eucC j) L n e1 ∧ Agr [i, j] e e1 ∧ e1[i]? = some (.sh (.int b)) ∧ e1[j]? = some (.sh (.int (a % b : Nat))) := fun a b e n l1 l2 h1 h2 hb => by
    refine ⟨(e.set i (.sh (.int b))).set j (.sh (.int (a % b : Nat))), ?_, (Agr.refl.set (by simp)).set (by simp), ?_, ?_⟩
    · conv => lhs; unfold whileN
      rw [bind_app, show eucC j e = .ok true e by simp [-getElem?_pos, h2]; omega]
      simp only [if_true]
      have f : (a : Int).fmod (b : Int) = ((a % b : Nat) : Int) := by
        rw [Int.fmod_eq_emod_of_nonneg _ (by omega)]
        omega
      have hb0 : b ≠ 0 := by omega
      have : L e = .ok .nx ((e.set i (.sh (.int b))).set j (.sh (.int (a % b : Nat)))) := by
        rw [hL]
        simp [-getElem?_pos, h1, h2, hb0]
        rw [Int.fmod_eq_emod_of_nonneg _ (by omega)]
      rw [bind_app, this]
    · rw [List.getElem?_set_ne (Ne.symm hij), List.getElem?_set_self l1]
    · rw [List.getElem?_set_self (by rw [List.length_set]; exact l2)]
  intro k
  induction k with
  | zero =>
    intro a b e n l1 l2 h1 h2 hb hn
    have : b = 0 := by simpa using hb
    subst this
    obtain ⟨n, rfl⟩ : ∃ m, n = m + 1 := ⟨n - 1, by omega⟩
    exact stop a e n h1 h2
  | succ k ih =>
    intro a b e n l1 l2 h1 h2 hb hn
    obtain ⟨n, rfl⟩ : ∃ m, n = m + 1 := ⟨n - 1, by omega⟩
    by_cases hb0 : b = 0
    · subst hb0
      exact stop a e n h1 h2
    · obtain ⟨e1, q1, a1, c1, d1⟩ := step a b e n l1 l2 h1 h2 (by omega)
      have g1 : Nat.gcd a b = Nat.gcd b (a % b) := by rw [Nat.gcd_comm a b, Nat.gcd_rec b a, Nat.gcd_comm]
      have lt1 : a % b < b := Nat.mod_lt _ (by omega)
      obtain ⟨n, rfl⟩ : ∃ m, n = m + 1 := ⟨n - 1, by omega⟩
      by_cases hr : a % b = 0
      · rw [hr] at d1
        obtain ⟨e2, q2, a2, c2, d2⟩ := stop b e1 n c1 d1
        exact ⟨e2, q1.trans q2, a1.trans a2, by rw [g1, hr]; exact c2, d2⟩
      · obtain ⟨e2, q2, a2, c2, d2⟩ := step b (a % b) e1 n (by rw [a1.len]; exact l1) (by rw [a1.len]; exact l2) c1 d1 (by omega)
        have lt2 : b % (a % b) < 2 ^ k := by
          have := mod_half lt1 (by omega)
          rw [Nat.pow_succ] at hb
          omega
        obtain ⟨e3, q3, a3, c3, d3⟩ := ih (a % b) (b % (a % b)) e2 n (by rw [a2.len, a1.len]; exact l1) (by rw [a2.len, a1.len]; exact l2) c2 d2 lt2 (by omega)
        have g2 : Nat.gcd b (a % b) = Nat.gcd (a % b) (b % (a % b)) := by rw [Nat.gcd_comm b, Nat.gcd_rec (a % b) b, Nat.gcd_comm]
        exact ⟨e3, q1.trans (q2.trans q3), (a1.trans a2).trans a3, by rw [g1, g2]; exact c3, d3⟩
/-- the law's own way to lowest terms -/
theorem lowE_ok {L : Mo Out} (hL : ∀ e : Fv, L e = eucL 2 3 e) : LowOk (runF 4 (seqF (parF [2, 3] (consU (callBF absG (consF (readF 0) (nilF))) (consU (callBF absG (consF (readF 1) (nilF))) (nilF))))
    (seqF (whileN (eucC 3) L 1000000)
    (seqF (ifF (boolF (binF ltG (readF 1) (constF (.int 0)))) (setF 2 (unF negG (readF 2))) (skipF))
    (retF (tupF (consF (binF fdivG (readF 0) (readF 2)) (consF (binF fdivG (readF 1) (readF 2)) (nilF))))))))) := fun n p w hw hs hn => by
  have hG : 0 < Nat.gcd p.natAbs w.natAbs := Nat.gcd_pos_of_pos_right _ (by omega)
  have hz := gcd_sz (p := p) hw hs
  obtain ⟨e', k1, a, k2, k3⟩ := euclid (i := 2) (j := 3) (by decide) hL n p.natAbs w.natAbs [.sh (.int p), .sh (.int w), .sh (.int p.natAbs), .sh (.int w.natAbs)] 1000000 (by simp) (by simp) rfl rfl hs (by omega)
  have z0 := a.at_ 0 (by decide)
  have z1 := a.at_ 1 (by decide)
  have len := a.len
  rw [low_fdiv p w hw]
  generalize hGG : Nat.gcd p.natAbs w.natAbs = G at *
  have z2 : 2 ≤ sizeLine := by decide
  unfold runF
  rw [seq_nx (e' := [.sh (.int p), .sh (.int w), .sh (.int p.natAbs), .sh (.int w.natAbs)]) (by simp), seq_nx k1]
  simp only [List.getElem?_cons_zero, List.getElem?_cons_succ] at z0 z1
  have l4 : e'.length = 4 := len
  by_cases h : w < 0
  · have f1 := fdivG_sz (x := p) (y := -(G : Int)) (by omega) hz.neg hn
    have f2 := fdivG_sz (x := w) (y := -(G : Int)) (by omega) hz.neg hn
    simp [-getElem?_pos, List.getElem?_set, z0, z1, k2, l4, h, f1, f2, z2]
  · have f1 := fdivG_sz (x := p) (y := (G : Int)) (by omega) hz hn
    have f2 := fdivG_sz (x := w) (y := (G : Int)) (by omega) hz hn
    simp [-getElem?_pos, List.getElem?_set, z0, z1, k2, l4, h, f1, f2, z2]
end Cf
/-! Ch, part C: _law_same. -/
namespace Cf
open PySem PySem.Spec PyProof.Rows L2
abbrev sameL (self : List PyData → FnR) : Mo Out :=
  ifF (notF (truthF (callF 2 self (consF (binF itemG (readF 0) (readF 2)) (consF (binF itemG (readF 1) (readF 2)) (nilF)))))) (retF (constF (.bool false))) (skipF)
noncomputable def sameG (L : Mo Out) : Mo Out :=
  seqF (ifF (orF (boolF (binF isG (readF 1) (constF .none))) (boolF (binF isG (readF 0) (constF .none)))) (retF (ofB (andF (boolF (binF isG (readF 1) (constF .none))) (boolF (binF isG (readF 0) (constF .none)))))) (skipF))
    (seqF (ifF (orF (isF "tuple" (readF 1)) (isF "list" (readF 1))) (seqF (ifF (orF (boolF (binF neG (ofB (isF "tuple" (readF 1))) (ofB (isF "tuple" (readF 0))))) (boolF (binF neG (ofB (isF "list" (readF 1))) (ofB (isF "list" (readF 0)))))) (retF (constF (.bool false))) (skipF))
    (seqF (ifF (boolF (binF neG (callBF lenG (consF (readF 0) (nilF))) (callBF lenG (consF (readF 1) (nilF))))) (retF (constF (.bool false))) (skipF))
    (seqF (forF (range1I (consF (callBF lenG (consF (readF 1) (nilF))) (nilF))) (toSlot 2) L)
    (retF (constF (.bool true)))))) (skipF))
    (seqF (ifF (boolF (binF neG (ofB (isF "bool" (readF 1))) (ofB (isF "bool" (readF 0))))) (retF (constF (.bool false))) (skipF))
    (seqF (ifF (orF (boolF (binF neG (ofB (isF "int" (readF 1))) (ofB (isF "int" (readF 0))))) (boolF (binF neG (ofB (isF "str" (readF 1))) (ofB (isF "str" (readF 0)))))) (retF (constF (.bool false))) (skipF))
    (retF (binF eqG (readF 0) (readF 1))))))
theorem same_seq {f : List PyData → FnR} {n : Nat} {L : Mo Out} (hL : ∀ e : Fv, L e = sameL f e) {w : List PyData → PyData} (hw : w = .tuple ∨ w = .list) {ds : List PyData} (hl : ds.length < 2 ^ 24) (h : ∀ d ∈ ds, f [d, d] = .ok (.sh (.bool true))) :
    runF 3 (sameG L) [w ds, w ds] = .ok (.sh (.bool true)) := by
  obtain ⟨e', k1, ⟨x, rfl⟩⟩ := loop_range (T := toSlot 2) (B := L) (cnt := ds.length) (e := [.sh (w ds), .sh (w ds), .un]) (J := fun k e => ∃ x, e = [.sh (w ds), .sh (w ds), x]) (fun k e hk ⟨x, he⟩ => by
    subst he
    refine ⟨[.sh (w ds), .sh (w ds), .sh (.int k)], .inl ?_, .sh (.int k), rfl⟩
    have ea : atI ds (k : Int) = some ds[k] := by
      rw [atI_nat (by omega) (by omega)]
      simp [List.getElem?_eq_getElem hk]
    have := h ds[k] (List.getElem_mem hk)
    rcases hw with rfl | rfl <;> simp [hL, ea, this]) ⟨.un, rfl⟩
  have fo : (forF (range1I (consF (callBF lenG (consF (readF 1) (nilF))) (nilF))) (toSlot 2) L : Mo Out) [.sh (w ds), .sh (w ds), .un] = .ok .nx [.sh (w ds), .sh (w ds), x] := by
    rw [for_ok (range1_ok (j := ds.length) (e' := [.sh (w ds), .sh (w ds), .un]) (by rcases hw with rfl | rfl <;> simp) (by omega) (by omega)), Int.toNat_natCast]
    exact k1
  unfold runF sameG
  generalize forF (range1I (consF (callBF lenG (consF (readF 1) (nilF))) (nilF))) (toSlot 2) L = F at fo
  rcases hw with rfl | rfl <;> simp [neG_bool, neG_int, fo]
/-- d with itself -/
theorem same_one {f : List PyData → FnR} {n : Nat} {L : Mo Out} (hL : ∀ e : Fv, L e = sameL f e) (ih : ∀ d, Deepn n d → f [d, d] = .ok (.sh (.bool true))) : ∀ {d : PyData}, Deepn (n + 1) d → runF 3 (sameG L) [d, d] = .ok (.sh (.bool true))
  | _, .int i => by simp [runF, sameG, eqG_int, neG_bool]
  | _, .bool b => by simp [runF, sameG, eqG_bool, neG_bool]
  | _, .str x h => by simp [runF, sameG, neG_bool, eqG, eqOk, PyData.canLay0, PyData.depth, PyData.eqv, h]
  | _, .non => by simp [runF, sameG]
  | _, .tup hl h => same_seq (n := n) hL (.inl rfl) hl fun d hd => ih d (h d hd)
  | _, .lst hl h => same_seq (n := n) hL (.inr rfl) hl fun d hd => ih d (h d hd)
end Cf
/-! K22: each def as a function of data (printed by gen.py) -/
namespace Lw
open PySem PySem.Spec PyProof.Rows L2 Cf
def topS (i : Nat) : Stmt := PySem.Challenge.pw_coastlit_k22_whole_fixes_on_the_run.main.body.getD i (.Pass ⟨0, 0, 0, 0⟩)
abbrev s_is_number : Stmt := topS 2
abbrev N_is_number : List Str := ["value", "least", "most"]
theorem sc_is_number : FnScope N_is_number ["value", "least", "most"] (defScope s_is_number) := ⟨rfl, rfl, rfl, by decide +kernel, rfl, by decide +kernel, by decide +kernel⟩
noncomputable def B_is_number : Mo Out :=
  retF (ofB (andF (isF "int" (readF 0)) (andF (notF (isF "bool" (readF 0))) (boolF (chainF leG leG (readF 1) (readF 0) (readF 2))))))
noncomputable def f_is_number : List PyData → FnR := hide (runF 3 B_is_number)
theorem f_is_number_eq : f_is_number = runF 3 B_is_number := by unfold f_is_number; rw [hide_eq]
abbrev s_lowest : Stmt := topS 4
abbrev N_lowest : List Str := ["part", "whole", "common"]
theorem sc_lowest : FnScope N_lowest ["part", "whole"] (defScope s_lowest) := ⟨rfl, rfl, rfl, by decide +kernel, rfl, by decide +kernel, by decide +kernel⟩
noncomputable def B_lowest : Mo Out :=
  seqF (setF 2 (callBF gcdG (consF (readF 0) (consF (readF 1) (nilF)))))
    (seqF (ifF (boolF (binF ltG (readF 1) (constF (.int 0)))) (setF 2 (unF negG (readF 2))) (skipF))
    (retF (tupF (consF (binF fdivG (readF 0) (readF 2)) (consF (binF fdivG (readF 1) (readF 2)) (nilF))))))
noncomputable def f_lowest : List PyData → FnR := hide (runF 3 B_lowest)
theorem f_lowest_eq : f_lowest = runF 3 B_lowest := by unfold f_lowest; rw [hide_eq]
abbrev s_minus : Stmt := topS 5
abbrev N_minus : List Str := ["one", "other"]
theorem sc_minus : FnScope N_minus ["one", "other"] (defScope s_minus) := ⟨rfl, rfl, rfl, by decide +kernel, rfl, by decide +kernel, by decide +kernel⟩
noncomputable def B_minus : Mo Out :=
  retF (callF 2 f_lowest (consF (binF subG (binF mulG (binF itemG (readF 0) (constF (.int 0))) (binF itemG (readF 1) (constF (.int 1)))) (binF mulG (binF itemG (readF 1) (constF (.int 0))) (binF itemG (readF 0) (constF (.int 1))))) (consF (binF mulG (binF itemG (readF 0) (constF (.int 1))) (binF itemG (readF 1) (constF (.int 1)))) (nilF))))
noncomputable def f_minus : List PyData → FnR := hide (runF 2 B_minus)
theorem f_minus_eq : f_minus = runF 2 B_minus := by unfold f_minus; rw [hide_eq]
abbrev s_times : Stmt := topS 6
abbrev N_times : List Str := ["one", "other"]
theorem sc_times : FnScope N_times ["one", "other"] (defScope s_times) := ⟨rfl, rfl, rfl, by decide +kernel, rfl, by decide +kernel, by decide +kernel⟩
noncomputable def B_times : Mo Out :=
  retF (callF 2 f_lowest (consF (binF mulG (binF itemG (readF 0) (constF (.int 0))) (binF itemG (readF 1) (constF (.int 0)))) (consF (binF mulG (binF itemG (readF 0) (constF (.int 1))) (binF itemG (readF 1) (constF (.int 1)))) (nilF))))
noncomputable def f_times : List PyData → FnR := hide (runF 2 B_times)
theorem f_times_eq : f_times = runF 2 B_times := by unfold f_times; rw [hide_eq]
abbrev s_less : Stmt := topS 7
abbrev N_less : List Str := ["one", "other"]
theorem sc_less : FnScope N_less ["one", "other"] (defScope s_less) := ⟨rfl, rfl, rfl, by decide +kernel, rfl, by decide +kernel, by decide +kernel⟩
noncomputable def B_less : Mo Out :=
  retF (binF ltG (binF mulG (binF itemG (readF 0) (constF (.int 0))) (binF itemG (readF 1) (constF (.int 1)))) (binF mulG (binF itemG (readF 1) (constF (.int 0))) (binF itemG (readF 0) (constF (.int 1)))))
noncomputable def f_less : List PyData → FnR := hide (runF 2 B_less)
theorem f_less_eq : f_less = runF 2 B_less := by unfold f_less; rw [hide_eq]
abbrev s_is_spot : Stmt := topS 12
abbrev N_is_spot : List Str := ["value"]
theorem sc_is_spot : FnScope N_is_spot ["value"] (defScope s_is_spot) := ⟨rfl, rfl, rfl, by decide +kernel, rfl, by decide +kernel, by decide +kernel⟩
abbrev N_G_is_spot_1 : List Str := ["one"]
theorem nd_G_is_spot_1 : N_G_is_spot_1.Nodup := by decide +kernel
noncomputable def Z_is_spot_1 : Mo Bool := hide <|
  quantF false [] 1 (pkI (readF 0)) (toSlot 0) (yesF) (boolF (callF 3 f_is_number (consF (readF 0) (consF (unF negG (constF (.int 100))) (consF (constF (.int 100)) (nilF))))))
theorem Z_is_spot_1_app (e : Fv) : Z_is_spot_1 e = (quantF false [] 1 (pkI (readF 0)) (toSlot 0) (yesF) (boolF (callF 3 f_is_number (consF (readF 0) (consF (unF negG (constF (.int 100))) (consF (constF (.int 100)) (nilF))))))) e := by unfold Z_is_spot_1; rw [hide_eq]
noncomputable def B_is_spot : Mo Out :=
  seqF (ifF (orF (notF (isF "tuple" (readF 0))) (boolF (binF neG (callBF lenG (consF (readF 0) (nilF))) (constF (.int 2))))) (retF (constF (.bool false))) (skipF))
    (retF (ofB (Z_is_spot_1)))
noncomputable def f_is_spot : List PyData → FnR := hide (runF 1 B_is_spot)
theorem f_is_spot_eq : f_is_spot = runF 1 B_is_spot := by unfold f_is_spot; rw [hide_eq]
abbrev s_is_direction : Stmt := topS 13
abbrev N_is_direction : List Str := ["value"]
theorem sc_is_direction : FnScope N_is_direction ["value"] (defScope s_is_direction) := ⟨rfl, rfl, rfl, by decide +kernel, rfl, by decide +kernel, by decide +kernel⟩
abbrev N_G_is_direction_1 : List Str := ["one"]
theorem nd_G_is_direction_1 : N_G_is_direction_1.Nodup := by decide +kernel
noncomputable def Z_is_direction_1 : Mo Bool := hide <|
  quantF false [] 1 (pkI (readF 0)) (toSlot 0) (yesF) (boolF (callF 3 f_is_number (consF (readF 0) (consF (unF negG (constF (.int 20))) (consF (constF (.int 20)) (nilF))))))
theorem Z_is_direction_1_app (e : Fv) : Z_is_direction_1 e = (quantF false [] 1 (pkI (readF 0)) (toSlot 0) (yesF) (boolF (callF 3 f_is_number (consF (readF 0) (consF (unF negG (constF (.int 20))) (consF (constF (.int 20)) (nilF))))))) e := by unfold Z_is_direction_1; rw [hide_eq]
noncomputable def B_is_direction : Mo Out :=
  seqF (ifF (orF (notF (isF "tuple" (readF 0))) (boolF (binF neG (callBF lenG (consF (readF 0) (nilF))) (constF (.int 2))))) (retF (constF (.bool false))) (skipF))
    (retF (ofB (andF (Z_is_direction_1) (boolF (binF eqG (callBF gcdG (consF (binF itemG (readF 0) (constF (.int 0))) (consF (binF itemG (readF 0) (constF (.int 1))) (nilF)))) (constF (.int 1)))))))
noncomputable def f_is_direction : List PyData → FnR := hide (runF 1 B_is_direction)
theorem f_is_direction_eq : f_is_direction = runF 1 B_is_direction := by unfold f_is_direction; rw [hide_eq]
abbrev s_is_sight : Stmt := topS 14
abbrev N_is_sight : List Str := ["value"]
theorem sc_is_sight : FnScope N_is_sight ["value"] (defScope s_is_sight) := ⟨rfl, rfl, rfl, by decide +kernel, rfl, by decide +kernel, by decide +kernel⟩
noncomputable def B_is_sight : Mo Out :=
  retF (ofB (andF (isF "tuple" (readF 0)) (andF (boolF (binF eqG (callBF lenG (consF (readF 0) (nilF))) (constF (.int 2)))) (andF (boolF (callF 1 f_is_spot (consF (binF itemG (readF 0) (constF (.int 0))) (nilF)))) (boolF (callF 1 f_is_direction (consF (binF itemG (readF 0) (constF (.int 1))) (nilF))))))))
noncomputable def f_is_sight : List PyData → FnR := hide (runF 1 B_is_sight)
theorem f_is_sight_eq : f_is_sight = runF 1 B_is_sight := by unfold f_is_sight; rw [hide_eq]
abbrev s_right_hand : Stmt := topS 15
abbrev N_right_hand : List Str := ["one", "other"]
theorem sc_right_hand : FnScope N_right_hand ["one", "other"] (defScope s_right_hand) := ⟨rfl, rfl, rfl, by decide +kernel, rfl, by decide +kernel, by decide +kernel⟩
noncomputable def B_right_hand : Mo Out :=
  retF (binF subG (binF mulG (binF itemG (readF 0) (constF (.int 0))) (binF itemG (readF 1) (constF (.int 1)))) (binF mulG (binF itemG (readF 0) (constF (.int 1))) (binF itemG (readF 1) (constF (.int 0)))))
noncomputable def f_right_hand : List PyData → FnR := hide (runF 2 B_right_hand)
theorem f_right_hand_eq : f_right_hand = runF 2 B_right_hand := by unfold f_right_hand; rw [hide_eq]
abbrev s_fits_sight : Stmt := topS 16
abbrev N_fits_sight : List Str := ["place", "sight", "light", "dx", "dy", "x", "y"]
theorem sc_fits_sight : FnScope N_fits_sight ["place", "sight"] (defScope s_fits_sight) := ⟨rfl, rfl, rfl, by decide +kernel, rfl, by decide +kernel, by decide +kernel⟩
noncomputable def B_fits_sight : Mo Out :=
  seqF (setT (toTup 2 (toCons (toSlot 2) (toCons (toTup 2 (toCons (toSlot 3) (toCons (toSlot 4) (toNil)))) (toNil)))) (readF 1))
    (seqF (parF [5, 6] (consU (callF 2 f_minus (consF (tupF (consF (binF itemG (readF 2) (constF (.int 0))) (consF (constF (.int 1)) (nilF)))) (consF (binF itemG (readF 0) (constF (.int 0))) (nilF)))) (consU (callF 2 f_minus (consF (tupF (consF (binF itemG (readF 2) (constF (.int 1))) (consF (constF (.int 1)) (nilF)))) (consF (binF itemG (readF 0) (constF (.int 1))) (nilF)))) (nilF))))
    (seqF (ifF (boolF (binF neG (callF 2 f_times (consF (readF 5) (consF (tupF (consF (readF 4) (consF (constF (.int 1)) (nilF)))) (nilF)))) (callF 2 f_times (consF (readF 6) (consF (tupF (consF (readF 3) (consF (constF (.int 1)) (nilF)))) (nilF)))))) (retF (constF (.bool false))) (skipF))
    (retF (ofB (orF (boolF (callF 2 f_less (consF (constF (.tuple [.int 0, .int 1])) (consF (callF 2 f_times (consF (readF 5) (consF (tupF (consF (readF 3) (consF (constF (.int 1)) (nilF)))) (nilF)))) (nilF))))) (boolF (callF 2 f_less (consF (constF (.tuple [.int 0, .int 1])) (consF (callF 2 f_times (consF (readF 6) (consF (tupF (consF (readF 4) (consF (constF (.int 1)) (nilF)))) (nilF)))) (nilF))))))))))
noncomputable def f_fits_sight : List PyData → FnR := hide (runF 7 B_fits_sight)
theorem f_fits_sight_eq : f_fits_sight = runF 7 B_fits_sight := by unfold f_fits_sight; rw [hide_eq]
abbrev s_are_along : Stmt := topS 18
abbrev N_are_along : List Str := ["one", "other"]
theorem sc_are_along : FnScope N_are_along ["one", "other"] (defScope s_are_along) := ⟨rfl, rfl, rfl, by decide +kernel, rfl, by decide +kernel, by decide +kernel⟩
noncomputable def B_are_along : Mo Out :=
  retF (binF eqG (callF 2 f_right_hand (consF (binF itemG (readF 0) (constF (.int 1))) (consF (binF itemG (readF 1) (constF (.int 1))) (nilF)))) (constF (.int 0)))
noncomputable def f_are_along : List PyData → FnR := hide (runF 2 B_are_along)
theorem f_are_along_eq : f_are_along = runF 2 B_are_along := by unfold f_are_along; rw [hide_eq]
abbrev s_crossing_of : Stmt := topS 19
abbrev N_crossing_of : List Str := ["one", "other", "apart", "place", "steps", "whole"]
theorem sc_crossing_of : FnScope N_crossing_of ["one", "other"] (defScope s_crossing_of) := ⟨rfl, rfl, rfl, by decide +kernel, rfl, by decide +kernel, by decide +kernel⟩
abbrev N_G_crossing_of_1 : List Str := ["whole", "steps", "one", "k"]
theorem nd_G_crossing_of_1 : N_G_crossing_of_1.Nodup := by decide +kernel
noncomputable def Z_crossing_of_1 : Mo Rv := hide <|
  tupGen [5, 4, 0] 1 (range1I (consF (constF (.int 2)) (nilF))) (toSlot 3) (yesF) (callF 2 f_lowest (consF (binF addG (binF mulG (binF itemG (binF itemG (readF 2) (constF (.int 0))) (readF 3)) (readF 0)) (binF mulG (readF 1) (binF itemG (binF itemG (readF 2) (constF (.int 1))) (readF 3)))) (consF (readF 0) (nilF))))
theorem Z_crossing_of_1_app (e : Fv) : Z_crossing_of_1 e = (tupGen [5, 4, 0] 1 (range1I (consF (constF (.int 2)) (nilF))) (toSlot 3) (yesF) (callF 2 f_lowest (consF (binF addG (binF mulG (binF itemG (binF itemG (readF 2) (constF (.int 0))) (readF 3)) (readF 0)) (binF mulG (readF 1) (binF itemG (binF itemG (readF 2) (constF (.int 1))) (readF 3)))) (consF (readF 0) (nilF))))) e := by unfold Z_crossing_of_1; rw [hide_eq]
noncomputable def B_crossing_of : Mo Out :=
  seqF (setF 5 (callF 2 f_right_hand (consF (binF itemG (readF 0) (constF (.int 1))) (consF (binF itemG (readF 1) (constF (.int 1))) (nilF)))))
    (seqF (setF 2 (tupF (consF (binF subG (binF itemG (binF itemG (readF 1) (constF (.int 0))) (constF (.int 0))) (binF itemG (binF itemG (readF 0) (constF (.int 0))) (constF (.int 0)))) (consF (binF subG (binF itemG (binF itemG (readF 1) (constF (.int 0))) (constF (.int 1))) (binF itemG (binF itemG (readF 0) (constF (.int 0))) (constF (.int 1)))) (nilF)))))
    (seqF (setF 4 (callF 2 f_right_hand (consF (readF 2) (consF (binF itemG (readF 1) (constF (.int 1))) (nilF)))))
    (seqF (setF 3 (Z_crossing_of_1))
    (retF (ifF (andF (truthF (callF 2 f_fits_sight (consF (readF 3) (consF (readF 0) (nilF))))) (truthF (callF 2 f_fits_sight (consF (readF 3) (consF (readF 1) (nilF)))))) (readF 3) (constF .none))))))
noncomputable def f_crossing_of : List PyData → FnR := hide (runF 6 B_crossing_of)
theorem f_crossing_of_eq : f_crossing_of = runF 6 B_crossing_of := by unfold f_crossing_of; rw [hide_eq]
abbrev s_is_run : Stmt := topS 21
abbrev N_is_run : List Str := ["value"]
theorem sc_is_run : FnScope N_is_run ["value"] (defScope s_is_run) := ⟨rfl, rfl, rfl, by decide +kernel, rfl, by decide +kernel, by decide +kernel⟩
noncomputable def B_is_run : Mo Out :=
  seqF (ifF (orF (notF (isF "tuple" (readF 0))) (orF (boolF (binF neG (callBF lenG (consF (readF 0) (nilF))) (constF (.int 3)))) (orF (notF (truthF (callF 1 f_is_sight (consF (binF itemG (readF 0) (constF (.int 0))) (nilF))))) (notF (truthF (callF 1 f_is_sight (consF (binF itemG (readF 0) (constF (.int 2))) (nilF)))))))) (retF (constF (.bool false))) (skipF))
    (retF (ofB (andF (boolF (callF 1 f_is_spot (consF (binF itemG (readF 0) (constF (.int 1))) (nilF)))) (notF (boolF (callF 2 f_are_along (consF (binF itemG (readF 0) (constF (.int 0))) (consF (binF itemG (readF 0) (constF (.int 2))) (nilF)))))))))
noncomputable def f_is_run : List PyData → FnR := hide (runF 1 B_is_run)
theorem f_is_run_eq : f_is_run = runF 1 B_is_run := by unfold f_is_run; rw [hide_eq]
abbrev s_run_fix : Stmt := topS 22
abbrev N_run_fix : List Str := ["run", "light", "direction", "way", "second"]
theorem sc_run_fix : FnScope N_run_fix ["run"] (defScope s_run_fix) := ⟨rfl, rfl, rfl, by decide +kernel, rfl, by decide +kernel, by decide +kernel⟩
noncomputable def B_run_fix : Mo Out :=
  seqF (setT (toTup 3 (toCons (toTup 2 (toCons (toSlot 1) (toCons (toSlot 2) (toNil)))) (toCons (toSlot 3) (toCons (toSlot 4) (toNil))))) (readF 0))
    (retF (callF 2 f_crossing_of (consF (tupF (consF (tupF (consF (binF addG (binF itemG (readF 1) (constF (.int 0))) (binF itemG (readF 3) (constF (.int 0)))) (consF (binF addG (binF itemG (readF 1) (constF (.int 1))) (binF itemG (readF 3) (constF (.int 1)))) (nilF)))) (consF (readF 2) (nilF)))) (consF (readF 4) (nilF)))))
noncomputable def f_run_fix : List PyData → FnR := hide (runF 5 B_run_fix)
theorem f_run_fix_eq : f_run_fix = runF 5 B_run_fix := by unfold f_run_fix; rw [hide_eq]
abbrev s__law_draws : Stmt := topS 24
abbrev N__law_draws : List Str := ["script", "draws", "cell", "number", "first", "k", "seed"]
theorem sc__law_draws : FnScope N__law_draws ["script"] (defScope s__law_draws) := ⟨rfl, rfl, rfl, by decide +kernel, rfl, by decide +kernel, by decide +kernel⟩
noncomputable def L__law_draws_1 : Mo Out := hide <|
  ifF (boolF (binF gtG (readF 3) (constF (.int 0)))) (seqF (dropF (appendF 1 (binF modG (callBF intG (consF (readF 3) (nilF))) (constF (.int 997)))))
    (setF 3 (binF fdivG (readF 3) (constF (.int 997))))) (skipF)
theorem L__law_draws_1_app (e : Fv) : L__law_draws_1 e = (ifF (boolF (binF gtG (readF 3) (constF (.int 0)))) (seqF (dropF (appendF 1 (binF modG (callBF intG (consF (readF 3) (nilF))) (constF (.int 997)))))
    (setF 3 (binF fdivG (readF 3) (constF (.int 997))))) (skipF)) e := by unfold L__law_draws_1; rw [hide_eq]
noncomputable def L__law_draws_2 : Mo Out := hide <|
  seqF (setF 3 (callBF absG (consF (readF 2) (nilF))))
    (seqF (ifF (boolF (binF ltG (readF 3) (binF powG (constF (.int 10)) (constF (.int 18))))) (seqF (setF 4 (binF modG (callBF intG (consF (binF addG (binF mulG (readF 3) (constF (.int 48271))) (constF (.int 11))) (nilF))) (constF (.int 2147483647))))
    (seqF (dropF (appendF 1 (binF modG (callBF intG (consF (binF addG (binF mulG (readF 4) (constF (.int 69621))) (readF 3)) (nilF))) (constF (.int 2147483629)))))
    (seqF (dropF (appendF 1 (binF modG (callBF intG (consF (binF addG (readF 4) (binF fdivG (readF 3) (constF (.int 7)))) (nilF))) (constF (.int 1000003)))))
    (setF 3 (constF (.int 0)))))) (skipF))
    (forF (range1I (consF (constF (.int 60)) (nilF))) (toSlot 5) (L__law_draws_1)))
theorem L__law_draws_2_app (e : Fv) : L__law_draws_2 e = (seqF (setF 3 (callBF absG (consF (readF 2) (nilF))))
    (seqF (ifF (boolF (binF ltG (readF 3) (binF powG (constF (.int 10)) (constF (.int 18))))) (seqF (setF 4 (binF modG (callBF intG (consF (binF addG (binF mulG (readF 3) (constF (.int 48271))) (constF (.int 11))) (nilF))) (constF (.int 2147483647))))
    (seqF (dropF (appendF 1 (binF modG (callBF intG (consF (binF addG (binF mulG (readF 4) (constF (.int 69621))) (readF 3)) (nilF))) (constF (.int 2147483629)))))
    (seqF (dropF (appendF 1 (binF modG (callBF intG (consF (binF addG (readF 4) (binF fdivG (readF 3) (constF (.int 7)))) (nilF))) (constF (.int 1000003)))))
    (setF 3 (constF (.int 0)))))) (skipF))
    (forF (range1I (consF (constF (.int 60)) (nilF))) (toSlot 5) (L__law_draws_1)))) e := by unfold L__law_draws_2; rw [hide_eq]
noncomputable def L__law_draws_3 : Mo Out := hide <|
  seqF (setF 6 (binF modG (callBF intG (consF (binF addG (binF mulG (readF 6) (constF (.int 48271))) (constF (.int 69621))) (nilF))) (constF (.int 2147483647))))
    (dropF (appendF 1 (binF fdivG (readF 6) (constF (.int 5)))))
theorem L__law_draws_3_app (e : Fv) : L__law_draws_3 e = (seqF (setF 6 (binF modG (callBF intG (consF (binF addG (binF mulG (readF 6) (constF (.int 48271))) (constF (.int 69621))) (nilF))) (constF (.int 2147483647))))
    (dropF (appendF 1 (binF fdivG (readF 6) (constF (.int 5)))))) e := by unfold L__law_draws_3; rw [hide_eq]
noncomputable def B__law_draws : Mo Out :=
  seqF (setF 1 (lstF (nilF)))
    (seqF (forF (seqI (readF 0)) (toSlot 2) (L__law_draws_2))
    (seqF (setF 6 (constF (.int 1)))
    (seqF (ifF (boolF (binF gtG (callBF lenG (consF (readF 0) (nilF))) (constF (.int 0)))) (setF 6 (binF addG (constF (.int 1)) (callBF absG (consF (binF itemG (readF 0) (constF (.int 0))) (nilF))))) (skipF))
    (seqF (forF (range1I (consF (constF (.int 900)) (nilF))) (toSlot 5) (L__law_draws_3))
    (retF (revL (readF 1)))))))
noncomputable def f__law_draws : List PyData → FnR := hide (runF 7 B__law_draws)
theorem f__law_draws_eq : f__law_draws = runF 7 B__law_draws := by unfold f__law_draws; rw [hide_eq]
abbrev s__law_take : Stmt := topS 25
abbrev N__law_take : List Str := ["draws", "bound"]
theorem sc__law_take : FnScope N__law_take ["draws", "bound"] (defScope s__law_take) := ⟨rfl, rfl, rfl, by decide +kernel, rfl, by decide +kernel, by decide +kernel⟩
noncomputable def B__law_take : Mo Out :=
  seqF (ifF (boolF (binF eqG (callBF lenG (consF (readF 0) (nilF))) (constF (.int 0)))) (retF (constF (.int 0))) (skipF))
    (retF (binF modG (callBF intG (consF (popF 0) (nilF))) (readF 1)))
noncomputable def f__law_take : List PyData → List PyData → FnL := hide (runL 2 B__law_take)
theorem f__law_take_eq : f__law_take = runL 2 B__law_take := by unfold f__law_take; rw [hide_eq]
abbrev s__law_same : Stmt := topS 26
abbrev N__law_same : List Str := ["actual", "due", "k"]
theorem sc__law_same : FnScope N__law_same ["actual", "due"] (defScope s__law_same) := ⟨rfl, rfl, rfl, by decide +kernel, rfl, by decide +kernel, by decide +kernel⟩
noncomputable def L__law_same_1 (self : List PyData → FnR) : Mo Out := hide <|
  ifF (notF (truthF (callF 2 self (consF (binF itemG (readF 0) (readF 2)) (consF (binF itemG (readF 1) (readF 2)) (nilF)))))) (retF (constF (.bool false))) (skipF)
theorem L__law_same_1_app (self : List PyData → FnR) (e : Fv) : L__law_same_1 self e = (ifF (notF (truthF (callF 2 self (consF (binF itemG (readF 0) (readF 2)) (consF (binF itemG (readF 1) (readF 2)) (nilF)))))) (retF (constF (.bool false))) (skipF)) e := by unfold L__law_same_1; rw [hide_eq]
noncomputable def B__law_same (self : List PyData → FnR) : Mo Out :=
  seqF (ifF (orF (boolF (binF isG (readF 1) (constF .none))) (boolF (binF isG (readF 0) (constF .none)))) (retF (ofB (andF (boolF (binF isG (readF 1) (constF .none))) (boolF (binF isG (readF 0) (constF .none)))))) (skipF))
    (seqF (ifF (orF (isF "tuple" (readF 1)) (isF "list" (readF 1))) (seqF (ifF (orF (boolF (binF neG (ofB (isF "tuple" (readF 1))) (ofB (isF "tuple" (readF 0))))) (boolF (binF neG (ofB (isF "list" (readF 1))) (ofB (isF "list" (readF 0)))))) (retF (constF (.bool false))) (skipF))
    (seqF (ifF (boolF (binF neG (callBF lenG (consF (readF 0) (nilF))) (callBF lenG (consF (readF 1) (nilF))))) (retF (constF (.bool false))) (skipF))
    (seqF (forF (range1I (consF (callBF lenG (consF (readF 1) (nilF))) (nilF))) (toSlot 2) (L__law_same_1 self))
    (retF (constF (.bool true)))))) (skipF))
    (seqF (ifF (boolF (binF neG (ofB (isF "bool" (readF 1))) (ofB (isF "bool" (readF 0))))) (retF (constF (.bool false))) (skipF))
    (seqF (ifF (orF (boolF (binF neG (ofB (isF "int" (readF 1))) (ofB (isF "int" (readF 0))))) (boolF (binF neG (ofB (isF "str" (readF 1))) (ofB (isF "str" (readF 0)))))) (retF (constF (.bool false))) (skipF))
    (retF (binF eqG (readF 0) (readF 1))))))
noncomputable def f__law_same : Nat → List PyData → FnR
  | 0 => fun _ => .stuck
  | n + 1 => hide (runF 3 (B__law_same (f__law_same n)))
theorem f__law_same_eq (n : Nat) : f__law_same (n + 1) = runF 3 (B__law_same (f__law_same n)) := by rw [f__law_same, hide_eq]
abbrev s__law_lowest : Stmt := topS 27
abbrev N__law_lowest : List Str := ["part", "whole", "one", "other"]
theorem sc__law_lowest : FnScope N__law_lowest ["part", "whole"] (defScope s__law_lowest) := ⟨rfl, rfl, rfl, by decide +kernel, rfl, by decide +kernel, by decide +kernel⟩
noncomputable def L__law_lowest_1 : Mo Out := hide <|
  parF [2, 3] (consU (readF 3) (consU (binF modG (callBF intG (consF (readF 2) (nilF))) (readF 3)) (nilF)))
theorem L__law_lowest_1_app (e : Fv) : L__law_lowest_1 e = (parF [2, 3] (consU (readF 3) (consU (binF modG (callBF intG (consF (readF 2) (nilF))) (readF 3)) (nilF)))) e := by unfold L__law_lowest_1; rw [hide_eq]
noncomputable def B__law_lowest : Mo Out :=
  seqF (parF [2, 3] (consU (callBF absG (consF (readF 0) (nilF))) (consU (callBF absG (consF (readF 1) (nilF))) (nilF))))
    (seqF (whileN (boolF (binF gtG (readF 3) (constF (.int 0)))) (L__law_lowest_1) 1000000)
    (seqF (ifF (boolF (binF ltG (readF 1) (constF (.int 0)))) (setF 2 (unF negG (readF 2))) (skipF))
    (retF (tupF (consF (binF fdivG (readF 0) (readF 2)) (consF (binF fdivG (readF 1) (readF 2)) (nilF)))))))
noncomputable def f__law_lowest : List PyData → FnR := hide (runF 4 B__law_lowest)
theorem f__law_lowest_eq : f__law_lowest = runF 4 B__law_lowest := by unfold f__law_lowest; rw [hide_eq]
abbrev s__law_plus : Stmt := topS 28
abbrev N__law_plus : List Str := ["one", "other"]
theorem sc__law_plus : FnScope N__law_plus ["one", "other"] (defScope s__law_plus) := ⟨rfl, rfl, rfl, by decide +kernel, rfl, by decide +kernel, by decide +kernel⟩
noncomputable def B__law_plus : Mo Out :=
  retF (callF 2 f__law_lowest (consF (binF addG (binF mulG (binF itemG (readF 0) (constF (.int 0))) (binF itemG (readF 1) (constF (.int 1)))) (binF mulG (binF itemG (readF 1) (constF (.int 0))) (binF itemG (readF 0) (constF (.int 1))))) (consF (binF mulG (binF itemG (readF 0) (constF (.int 1))) (binF itemG (readF 1) (constF (.int 1)))) (nilF))))
noncomputable def f__law_plus : List PyData → FnR := hide (runF 2 B__law_plus)
theorem f__law_plus_eq : f__law_plus = runF 2 B__law_plus := by unfold f__law_plus; rw [hide_eq]
abbrev s__law_minus : Stmt := topS 29
abbrev N__law_minus : List Str := ["one", "other"]
theorem sc__law_minus : FnScope N__law_minus ["one", "other"] (defScope s__law_minus) := ⟨rfl, rfl, rfl, by decide +kernel, rfl, by decide +kernel, by decide +kernel⟩
noncomputable def B__law_minus : Mo Out :=
  retF (callF 2 f__law_plus (consF (readF 0) (consF (tupF (consF (unF negG (binF itemG (readF 1) (constF (.int 0)))) (consF (binF itemG (readF 1) (constF (.int 1))) (nilF)))) (nilF))))
noncomputable def f__law_minus : List PyData → FnR := hide (runF 2 B__law_minus)
theorem f__law_minus_eq : f__law_minus = runF 2 B__law_minus := by unfold f__law_minus; rw [hide_eq]
abbrev s__law_times : Stmt := topS 30
abbrev N__law_times : List Str := ["one", "other"]
theorem sc__law_times : FnScope N__law_times ["one", "other"] (defScope s__law_times) := ⟨rfl, rfl, rfl, by decide +kernel, rfl, by decide +kernel, by decide +kernel⟩
noncomputable def B__law_times : Mo Out :=
  retF (callF 2 f__law_lowest (consF (binF mulG (binF itemG (readF 0) (constF (.int 0))) (binF itemG (readF 1) (constF (.int 0)))) (consF (binF mulG (binF itemG (readF 0) (constF (.int 1))) (binF itemG (readF 1) (constF (.int 1)))) (nilF))))
noncomputable def f__law_times : List PyData → FnR := hide (runF 2 B__law_times)
theorem f__law_times_eq : f__law_times = runF 2 B__law_times := by unfold f__law_times; rw [hide_eq]
abbrev s__law_common : Stmt := topS 34
abbrev N__law_common : List Str := ["one", "other"]
theorem sc__law_common : FnScope N__law_common ["one", "other"] (defScope s__law_common) := ⟨rfl, rfl, rfl, by decide +kernel, rfl, by decide +kernel, by decide +kernel⟩
noncomputable def L__law_common_1 : Mo Out := hide <|
  parF [0, 1] (consU (readF 1) (consU (binF modG (callBF intG (consF (readF 0) (nilF))) (readF 1)) (nilF)))
theorem L__law_common_1_app (e : Fv) : L__law_common_1 e = (parF [0, 1] (consU (readF 1) (consU (binF modG (callBF intG (consF (readF 0) (nilF))) (readF 1)) (nilF)))) e := by unfold L__law_common_1; rw [hide_eq]
noncomputable def B__law_common : Mo Out :=
  seqF (parF [0, 1] (consU (callBF absG (consF (readF 0) (nilF))) (consU (callBF absG (consF (readF 1) (nilF))) (nilF))))
    (seqF (whileN (boolF (binF gtG (readF 1) (constF (.int 0)))) (L__law_common_1) 1000000)
    (retF (readF 0)))
noncomputable def f__law_common : List PyData → FnR := hide (runF 2 B__law_common)
theorem f__law_common_eq : f__law_common = runF 2 B__law_common := by unfold f__law_common; rw [hide_eq]
abbrev s__law_spot : Stmt := topS 35
abbrev N__law_spot : List Str := ["draws", "wide"]
theorem sc__law_spot : FnScope N__law_spot ["draws", "wide"] (defScope s__law_spot) := ⟨rfl, rfl, rfl, by decide +kernel, rfl, by decide +kernel, by decide +kernel⟩
noncomputable def B__law_spot : Mo Out :=
  retF (tupF (consF (binF subG (callL 2 f__law_take 0 (consF (binF addG (binF mulG (constF (.int 2)) (readF 1)) (constF (.int 1))) (nilF))) (readF 1)) (consF (binF subG (callL 2 f__law_take 0 (consF (binF addG (binF mulG (constF (.int 2)) (readF 1)) (constF (.int 1))) (nilF))) (readF 1)) (nilF))))
noncomputable def f__law_spot : List PyData → List PyData → FnL := hide (runL 2 B__law_spot)
theorem f__law_spot_eq : f__law_spot = runL 2 B__law_spot := by unfold f__law_spot; rw [hide_eq]
abbrev s__law_direction : Stmt := topS 36
abbrev N__law_direction : List Str := ["draws", "wide", "dx", "dy", "common"]
theorem sc__law_direction : FnScope N__law_direction ["draws", "wide"] (defScope s__law_direction) := ⟨rfl, rfl, rfl, by decide +kernel, rfl, by decide +kernel, by decide +kernel⟩
noncomputable def B__law_direction : Mo Out :=
  seqF (setT (toTup 2 (toCons (toSlot 2) (toCons (toSlot 3) (toNil)))) (callL 2 f__law_spot 0 (consF (readF 1) (nilF))))
    (seqF (ifF (andF (boolF (binF eqG (readF 2) (constF (.int 0)))) (boolF (binF eqG (readF 3) (constF (.int 0))))) (setF 2 (constF (.int 1))) (skipF))
    (seqF (setF 4 (callF 2 f__law_common (consF (readF 2) (consF (readF 3) (nilF)))))
    (retF (tupF (consF (binF fdivG (readF 2) (readF 4)) (consF (binF fdivG (readF 3) (readF 4)) (nilF)))))))
noncomputable def f__law_direction : List PyData → List PyData → FnL := hide (runL 5 B__law_direction)
theorem f__law_direction_eq : f__law_direction = runL 5 B__law_direction := by unfold f__law_direction; rw [hide_eq]
abbrev s__law_product : Stmt := topS 37
abbrev N__law_product : List Str := ["one", "other"]
theorem sc__law_product : FnScope N__law_product ["one", "other"] (defScope s__law_product) := ⟨rfl, rfl, rfl, by decide +kernel, rfl, by decide +kernel, by decide +kernel⟩
noncomputable def B__law_product : Mo Out :=
  retF (binF subG (binF mulG (binF itemG (readF 0) (constF (.int 0))) (binF itemG (readF 1) (constF (.int 1)))) (binF mulG (binF itemG (readF 0) (constF (.int 1))) (binF itemG (readF 1) (constF (.int 0)))))
noncomputable def f__law_product : List PyData → FnR := hide (runF 2 B__law_product)
theorem f__law_product_eq : f__law_product = runF 2 B__law_product := by unfold f__law_product; rw [hide_eq]
abbrev s__law_fits : Stmt := topS 38
abbrev N__law_fits : List Str := ["place", "sight", "lx", "ly", "dx", "dy", "x", "y", "steps"]
theorem sc__law_fits : FnScope N__law_fits ["place", "sight"] (defScope s__law_fits) := ⟨rfl, rfl, rfl, by decide +kernel, rfl, by decide +kernel, by decide +kernel⟩
noncomputable def B__law_fits : Mo Out :=
  seqF (setT (toTup 2 (toCons (toTup 2 (toCons (toSlot 2) (toCons (toSlot 3) (toNil)))) (toCons (toTup 2 (toCons (toSlot 4) (toCons (toSlot 5) (toNil)))) (toNil)))) (readF 1))
    (seqF (parF [6, 7] (consU (callF 2 f__law_minus (consF (tupF (consF (readF 2) (consF (constF (.int 1)) (nilF)))) (consF (binF itemG (readF 0) (constF (.int 0))) (nilF)))) (consU (callF 2 f__law_minus (consF (tupF (consF (readF 3) (consF (constF (.int 1)) (nilF)))) (consF (binF itemG (readF 0) (constF (.int 1))) (nilF)))) (nilF))))
    (seqF (setF 8 (ifF (boolF (binF neG (readF 4) (constF (.int 0)))) (callF 2 f__law_lowest (consF (binF itemG (readF 6) (constF (.int 0))) (consF (binF mulG (binF itemG (readF 6) (constF (.int 1))) (readF 4)) (nilF)))) (callF 2 f__law_lowest (consF (binF itemG (readF 7) (constF (.int 0))) (consF (binF mulG (binF itemG (readF 7) (constF (.int 1))) (readF 5)) (nilF))))))
    (retF (ofB (andF (boolF (binF gtG (binF itemG (readF 8) (constF (.int 0))) (constF (.int 0)))) (andF (boolF (binF eqG (callF 2 f__law_times (consF (readF 8) (consF (tupF (consF (readF 4) (consF (constF (.int 1)) (nilF)))) (nilF)))) (readF 6))) (boolF (binF eqG (callF 2 f__law_times (consF (readF 8) (consF (tupF (consF (readF 5) (consF (constF (.int 1)) (nilF)))) (nilF)))) (readF 7)))))))))
noncomputable def f__law_fits : List PyData → FnR := hide (runF 9 B__law_fits)
theorem f__law_fits_eq : f__law_fits = runF 9 B__law_fits := by unfold f__law_fits; rw [hide_eq]
abbrev s__law_sights : Stmt := topS 39
abbrev N__law_sights : List Str := ["draws", "most", "wide", "spot", "found", "turn", "light", "dx", "dy", "common"]
theorem sc__law_sights : FnScope N__law_sights ["draws", "most", "wide"] (defScope s__law_sights) := ⟨rfl, rfl, rfl, by decide +kernel, rfl, by decide +kernel, by decide +kernel⟩
noncomputable def L__law_sights_1 : Mo Out := hide <|
  seqF (setF 6 (callL 2 f__law_spot 0 (consF (readF 2) (nilF))))
    (seqF (parF [7, 8] (consU (binF subG (binF itemG (readF 6) (constF (.int 0))) (binF itemG (readF 3) (constF (.int 0)))) (consU (binF subG (binF itemG (readF 6) (constF (.int 1))) (binF itemG (readF 3) (constF (.int 1)))) (nilF))))
    (seqF (ifF (orF (boolF (binF eqG (tupF (consF (readF 7) (consF (readF 8) (nilF)))) (tupF (consF (constF (.int 0)) (consF (constF (.int 0)) (nilF)))))) (boolF (binF eqG (callL 2 f__law_take 0 (consF (constF (.int 4)) (nilF))) (constF (.int 0))))) (setT (toTup 2 (toCons (toSlot 7) (toCons (toSlot 8) (toNil)))) (callL 2 f__law_direction 0 (consF (callBF min2G (consF (constF (.int 20)) (consF (readF 2) (nilF)))) (nilF)))) (skipF))
    (seqF (setF 9 (callF 2 f__law_common (consF (readF 7) (consF (readF 8) (nilF)))))
    (seqF (ifF (boolF (binF gtG (callBF max2G (consF (callBF absG (consF (readF 7) (nilF))) (consF (callBF absG (consF (readF 8) (nilF))) (nilF)))) (binF mulG (constF (.int 20)) (readF 9)))) (parF [7, 8, 9] (consU (constF (.int 1)) (consU (constF (.int 0)) (consU (constF (.int 1)) (nilF))))) (skipF))
    (dropF (appendF 4 (tupF (consF (readF 6) (consF (tupF (consF (binF fdivG (readF 7) (readF 9)) (consF (binF fdivG (readF 8) (readF 9)) (nilF)))) (nilF))))))))))
theorem L__law_sights_1_app (e : Fv) : L__law_sights_1 e = (seqF (setF 6 (callL 2 f__law_spot 0 (consF (readF 2) (nilF))))
    (seqF (parF [7, 8] (consU (binF subG (binF itemG (readF 6) (constF (.int 0))) (binF itemG (readF 3) (constF (.int 0)))) (consU (binF subG (binF itemG (readF 6) (constF (.int 1))) (binF itemG (readF 3) (constF (.int 1)))) (nilF))))
    (seqF (ifF (orF (boolF (binF eqG (tupF (consF (readF 7) (consF (readF 8) (nilF)))) (tupF (consF (constF (.int 0)) (consF (constF (.int 0)) (nilF)))))) (boolF (binF eqG (callL 2 f__law_take 0 (consF (constF (.int 4)) (nilF))) (constF (.int 0))))) (setT (toTup 2 (toCons (toSlot 7) (toCons (toSlot 8) (toNil)))) (callL 2 f__law_direction 0 (consF (callBF min2G (consF (constF (.int 20)) (consF (readF 2) (nilF)))) (nilF)))) (skipF))
    (seqF (setF 9 (callF 2 f__law_common (consF (readF 7) (consF (readF 8) (nilF)))))
    (seqF (ifF (boolF (binF gtG (callBF max2G (consF (callBF absG (consF (readF 7) (nilF))) (consF (callBF absG (consF (readF 8) (nilF))) (nilF)))) (binF mulG (constF (.int 20)) (readF 9)))) (parF [7, 8, 9] (consU (constF (.int 1)) (consU (constF (.int 0)) (consU (constF (.int 1)) (nilF))))) (skipF))
    (dropF (appendF 4 (tupF (consF (readF 6) (consF (tupF (consF (binF fdivG (readF 7) (readF 9)) (consF (binF fdivG (readF 8) (readF 9)) (nilF)))) (nilF))))))))))) e := by unfold L__law_sights_1; rw [hide_eq]
noncomputable def B__law_sights : Mo Out :=
  seqF (parF [3, 4] (consU (callL 2 f__law_spot 0 (consF (readF 2) (nilF))) (consU (lstF (nilF)) (nilF))))
    (seqF (forF (range1I (consF (readF 1) (nilF))) (toSlot 5) (L__law_sights_1))
    (retF (tupF (consF (callBF tupleG (consF (readF 4) (nilF))) (consF (readF 3) (nilF))))))
noncomputable def f__law_sights : List PyData → List PyData → FnL := hide (runL 10 B__law_sights)
theorem f__law_sights_eq : f__law_sights = runL 10 B__law_sights := by unfold f__law_sights; rw [hide_eq]
abbrev s__law_from : Stmt := topS 40
abbrev N__law_from : List Str := ["draws", "spot", "step", "many"]
theorem sc__law_from : FnScope N__law_from ["draws", "spot"] (defScope s__law_from) := ⟨rfl, rfl, rfl, by decide +kernel, rfl, by decide +kernel, by decide +kernel⟩
noncomputable def B__law_from : Mo Out :=
  seqF (parF [2, 3] (consU (callL 2 f__law_direction 0 (consF (constF (.int 9)) (nilF))) (consU (binF addG (constF (.int 1)) (callL 2 f__law_take 0 (consF (constF (.int 5)) (nilF)))) (nilF))))
    (retF (tupF (consF (tupF (consF (binF addG (binF itemG (readF 1) (constF (.int 0))) (binF mulG (readF 3) (binF itemG (readF 2) (constF (.int 0))))) (consF (binF addG (binF itemG (readF 1) (constF (.int 1))) (binF mulG (readF 3) (binF itemG (readF 2) (constF (.int 1))))) (nilF)))) (consF (readF 2) (nilF)))))
noncomputable def f__law_from : List PyData → List PyData → FnL := hide (runL 4 B__law_from)
theorem f__law_from_eq : f__law_from = runL 4 B__law_from := by unfold f__law_from; rw [hide_eq]
abbrev s_law : Stmt := topS 41
abbrev N_law : List Str := ["script", "draws", "spot", "way", "later", "first", "second", "turned", "run", "turn", "sights", "other", "good", "told", "ahead", "light", "step", "moved", "odd", "one", "k"]
theorem sc_law : FnScope N_law ["script"] (defScope s_law) := ⟨rfl, rfl, rfl, by decide +kernel, rfl, by decide +kernel, by decide +kernel⟩
noncomputable def Q_law_1 : Mo Rv := hide <|
  lcF [20] (range1I (consF (constF (.int 2)) (nilF))) (toSlot 20) (yesF) (callF 2 f__law_minus (consF (binF itemG (readF 13) (readF 20)) (consF (tupF (consF (binF itemG (readF 3) (readF 20)) (consF (constF (.int 1)) (nilF)))) (nilF))))
theorem Q_law_1_app (e : Fv) : Q_law_1 e = (lcF [20] (range1I (consF (constF (.int 2)) (nilF))) (toSlot 20) (yesF) (callF 2 f__law_minus (consF (binF itemG (readF 13) (readF 20)) (consF (tupF (consF (binF itemG (readF 3) (readF 20)) (consF (constF (.int 1)) (nilF)))) (nilF))))) e := by unfold Q_law_1; rw [hide_eq]
noncomputable def L_law_1 : Mo Out := hide <|
  seqF (setT (toTup 2 (toCons (toSlot 10) (toCons (toSlot 11) (toNil)))) (callL 3 f__law_sights 1 (consF (constF (.int 2)) (consF (binF itemG (lstF (consF (constF (.int 4)) (consF (constF (.int 30)) (consF (constF (.int 100)) (nilF))))) (callL 2 f__law_take 1 (consF (constF (.int 3)) (nilF)))) (nilF)))))
    (seqF (setF 3 (callL 2 f__law_spot 1 (consF (binF itemG (lstF (consF (constF (.int 5)) (consF (constF (.int 100)) (nilF)))) (callL 2 f__law_take 1 (consF (constF (.int 2)) (nilF)))) (nilF))))
    (seqF (setF 8 (tupF (consF (binF itemG (readF 10) (constF (.int 0))) (consF (readF 3) (consF (binF itemG (readF 10) (constF (.int 1))) (nilF))))))
    (seqF (setF 12 (binF neG (callF 2 f__law_product (consF (binF itemG (binF itemG (readF 10) (constF (.int 0))) (constF (.int 1))) (consF (binF itemG (binF itemG (readF 10) (constF (.int 1))) (constF (.int 1))) (nilF)))) (constF (.int 0))))
    (seqF (ifF (notF (truthF (callF 2 (f__law_same 12) (consF (callF 1 f_is_run (consF (readF 8) (nilF))) (consF (readF 12) (nilF)))))) (retF (constF (.bool false))) (skipF))
    (ifF (truthF (readF 12)) (seqF (setF 13 (callF 1 f_run_fix (consF (readF 8) (nilF))))
    (seqF (ifF (boolF (binF isNotG (readF 13) (constF .none))) (seqF (setF 14 (callBF tupleG (consF (Q_law_1) (nilF))))
    (ifF (orF (notF (truthF (callF 2 f__law_fits (consF (readF 13) (consF (binF itemG (readF 10) (constF (.int 1))) (nilF)))))) (notF (truthF (callF 2 f__law_fits (consF (readF 14) (consF (binF itemG (readF 10) (constF (.int 0))) (nilF))))))) (retF (constF (.bool false))) (skipF))) (skipF))
    (seqF (setT (toTup 2 (toCons (toSlot 15) (toCons (toSlot 16) (toNil)))) (binF itemG (readF 10) (constF (.int 0))))
    (seqF (setF 17 (tupF (consF (tupF (consF (binF addG (binF itemG (readF 15) (constF (.int 0))) (binF itemG (readF 3) (constF (.int 0)))) (consF (binF addG (binF itemG (readF 15) (constF (.int 1))) (binF itemG (readF 3) (constF (.int 1)))) (nilF)))) (consF (readF 16) (nilF)))))
    (ifF (orF (notF (truthF (callF 2 (f__law_same 12) (consF (readF 13) (consF (callF 2 f_crossing_of (consF (readF 17) (consF (binF itemG (readF 10) (constF (.int 1))) (nilF)))) (nilF)))))) (notF (truthF (callF 2 (f__law_same 12) (consF (callF 1 f_run_fix (consF (tupF (consF (binF itemG (readF 10) (constF (.int 0))) (consF (tupF (consF (constF (.int 0)) (consF (constF (.int 0)) (nilF)))) (consF (binF itemG (readF 10) (constF (.int 1))) (nilF))))) (nilF))) (consF (callF 2 f_crossing_of (consF (binF itemG (readF 10) (constF (.int 0))) (consF (binF itemG (readF 10) (constF (.int 1))) (nilF)))) (nilF))))))) (retF (constF (.bool false))) (skipF)))))) (skipF))))))
theorem L_law_1_app (e : Fv) : L_law_1 e = (seqF (setT (toTup 2 (toCons (toSlot 10) (toCons (toSlot 11) (toNil)))) (callL 3 f__law_sights 1 (consF (constF (.int 2)) (consF (binF itemG (lstF (consF (constF (.int 4)) (consF (constF (.int 30)) (consF (constF (.int 100)) (nilF))))) (callL 2 f__law_take 1 (consF (constF (.int 3)) (nilF)))) (nilF)))))
    (seqF (setF 3 (callL 2 f__law_spot 1 (consF (binF itemG (lstF (consF (constF (.int 5)) (consF (constF (.int 100)) (nilF)))) (callL 2 f__law_take 1 (consF (constF (.int 2)) (nilF)))) (nilF))))
    (seqF (setF 8 (tupF (consF (binF itemG (readF 10) (constF (.int 0))) (consF (readF 3) (consF (binF itemG (readF 10) (constF (.int 1))) (nilF))))))
    (seqF (setF 12 (binF neG (callF 2 f__law_product (consF (binF itemG (binF itemG (readF 10) (constF (.int 0))) (constF (.int 1))) (consF (binF itemG (binF itemG (readF 10) (constF (.int 1))) (constF (.int 1))) (nilF)))) (constF (.int 0))))
    (seqF (ifF (notF (truthF (callF 2 (f__law_same 12) (consF (callF 1 f_is_run (consF (readF 8) (nilF))) (consF (readF 12) (nilF)))))) (retF (constF (.bool false))) (skipF))
    (ifF (truthF (readF 12)) (seqF (setF 13 (callF 1 f_run_fix (consF (readF 8) (nilF))))
    (seqF (ifF (boolF (binF isNotG (readF 13) (constF .none))) (seqF (setF 14 (callBF tupleG (consF (Q_law_1) (nilF))))
    (ifF (orF (notF (truthF (callF 2 f__law_fits (consF (readF 13) (consF (binF itemG (readF 10) (constF (.int 1))) (nilF)))))) (notF (truthF (callF 2 f__law_fits (consF (readF 14) (consF (binF itemG (readF 10) (constF (.int 0))) (nilF))))))) (retF (constF (.bool false))) (skipF))) (skipF))
    (seqF (setT (toTup 2 (toCons (toSlot 15) (toCons (toSlot 16) (toNil)))) (binF itemG (readF 10) (constF (.int 0))))
    (seqF (setF 17 (tupF (consF (tupF (consF (binF addG (binF itemG (readF 15) (constF (.int 0))) (binF itemG (readF 3) (constF (.int 0)))) (consF (binF addG (binF itemG (readF 15) (constF (.int 1))) (binF itemG (readF 3) (constF (.int 1)))) (nilF)))) (consF (readF 16) (nilF)))))
    (ifF (orF (notF (truthF (callF 2 (f__law_same 12) (consF (readF 13) (consF (callF 2 f_crossing_of (consF (readF 17) (consF (binF itemG (readF 10) (constF (.int 1))) (nilF)))) (nilF)))))) (notF (truthF (callF 2 (f__law_same 12) (consF (callF 1 f_run_fix (consF (tupF (consF (binF itemG (readF 10) (constF (.int 0))) (consF (tupF (consF (constF (.int 0)) (consF (constF (.int 0)) (nilF)))) (consF (binF itemG (readF 10) (constF (.int 1))) (nilF))))) (nilF))) (consF (callF 2 f_crossing_of (consF (binF itemG (readF 10) (constF (.int 0))) (consF (binF itemG (readF 10) (constF (.int 1))) (nilF)))) (nilF))))))) (retF (constF (.bool false))) (skipF)))))) (skipF))))))) e := by unfold L_law_1; rw [hide_eq]
noncomputable def Q_law_2 : Mo Rv := hide <|
  lcF [19] (seqI (readF 18)) (toSlot 19) (boolF (binF isNotG (callF 1 f_is_run (consF (readF 19) (nilF))) (constF (.bool false)))) (readF 19)
theorem Q_law_2_app (e : Fv) : Q_law_2 e = (lcF [19] (seqI (readF 18)) (toSlot 19) (boolF (binF isNotG (callF 1 f_is_run (consF (readF 19) (nilF))) (constF (.bool false)))) (readF 19)) e := by unfold Q_law_2; rw [hide_eq]
noncomputable def S_law_1 : Mo Out := hide <|
  setF 1 (callF 1 f__law_draws (consF (readF 0) (nilF)))
theorem S_law_1_app (e : Fv) : S_law_1 e = (setF 1 (callF 1 f__law_draws (consF (readF 0) (nilF)))) e := by unfold S_law_1; rw [hide_eq]
noncomputable def S_law_2 : Mo Out := hide <|
  parF [2, 3] (consU (callL 2 f__law_spot 1 (consF (constF (.int 20)) (nilF))) (consU (callL 2 f__law_spot 1 (consF (constF (.int 30)) (nilF))) (nilF)))
theorem S_law_2_app (e : Fv) : S_law_2 e = (parF [2, 3] (consU (callL 2 f__law_spot 1 (consF (constF (.int 20)) (nilF))) (consU (callL 2 f__law_spot 1 (consF (constF (.int 30)) (nilF))) (nilF)))) e := by unfold S_law_2; rw [hide_eq]
noncomputable def S_law_3 : Mo Out := hide <|
  setF 4 (tupF (consF (binF addG (binF itemG (readF 2) (constF (.int 0))) (binF itemG (readF 3) (constF (.int 0)))) (consF (binF addG (binF itemG (readF 2) (constF (.int 1))) (binF itemG (readF 3) (constF (.int 1)))) (nilF))))
theorem S_law_3_app (e : Fv) : S_law_3 e = (setF 4 (tupF (consF (binF addG (binF itemG (readF 2) (constF (.int 0))) (binF itemG (readF 3) (constF (.int 0)))) (consF (binF addG (binF itemG (readF 2) (constF (.int 1))) (binF itemG (readF 3) (constF (.int 1)))) (nilF))))) e := by unfold S_law_3; rw [hide_eq]
noncomputable def S_law_4 : Mo Out := hide <|
  parF [5, 6] (consU (callL 2 f__law_from 1 (consF (readF 2) (nilF))) (consU (callL 2 f__law_from 1 (consF (readF 4) (nilF))) (nilF)))
theorem S_law_4_app (e : Fv) : S_law_4 e = (parF [5, 6] (consU (callL 2 f__law_from 1 (consF (readF 2) (nilF))) (consU (callL 2 f__law_from 1 (consF (readF 4) (nilF))) (nilF)))) e := by unfold S_law_4; rw [hide_eq]
noncomputable def S_law_5 : Mo Out := hide <|
  ifF (boolF (binF eqG (callF 2 f__law_product (consF (binF itemG (readF 5) (constF (.int 1))) (consF (binF itemG (readF 6) (constF (.int 1))) (nilF)))) (constF (.int 0)))) (seqF (setF 7 (tupF (consF (unF negG (binF itemG (binF itemG (readF 5) (constF (.int 1))) (constF (.int 1)))) (consF (binF itemG (binF itemG (readF 5) (constF (.int 1))) (constF (.int 0))) (nilF)))))
    (setF 6 (tupF (consF (tupF (consF (binF addG (binF itemG (readF 4) (constF (.int 0))) (binF mulG (constF (.int 2)) (binF itemG (readF 7) (constF (.int 0))))) (consF (binF addG (binF itemG (readF 4) (constF (.int 1))) (binF mulG (constF (.int 2)) (binF itemG (readF 7) (constF (.int 1))))) (nilF)))) (consF (readF 7) (nilF)))))) (skipF)
theorem S_law_5_app (e : Fv) : S_law_5 e = (ifF (boolF (binF eqG (callF 2 f__law_product (consF (binF itemG (readF 5) (constF (.int 1))) (consF (binF itemG (readF 6) (constF (.int 1))) (nilF)))) (constF (.int 0)))) (seqF (setF 7 (tupF (consF (unF negG (binF itemG (binF itemG (readF 5) (constF (.int 1))) (constF (.int 1)))) (consF (binF itemG (binF itemG (readF 5) (constF (.int 1))) (constF (.int 0))) (nilF)))))
    (setF 6 (tupF (consF (tupF (consF (binF addG (binF itemG (readF 4) (constF (.int 0))) (binF mulG (constF (.int 2)) (binF itemG (readF 7) (constF (.int 0))))) (consF (binF addG (binF itemG (readF 4) (constF (.int 1))) (binF mulG (constF (.int 2)) (binF itemG (readF 7) (constF (.int 1))))) (nilF)))) (consF (readF 7) (nilF)))))) (skipF)) e := by unfold S_law_5; rw [hide_eq]
noncomputable def S_law_6 : Mo Out := hide <|
  setF 8 (tupF (consF (readF 5) (consF (readF 3) (consF (readF 6) (nilF)))))
theorem S_law_6_app (e : Fv) : S_law_6 e = (setF 8 (tupF (consF (readF 5) (consF (readF 3) (consF (readF 6) (nilF)))))) e := by unfold S_law_6; rw [hide_eq]
noncomputable def S_law_7 : Mo Out := hide <|
  ifF (orF (boolF (binF isNotG (callF 1 f_is_run (consF (readF 8) (nilF))) (constF (.bool true)))) (notF (truthF (callF 2 (f__law_same 12) (consF (callF 1 f_run_fix (consF (readF 8) (nilF))) (consF (tupF (consF (tupF (consF (binF itemG (readF 4) (constF (.int 0))) (consF (constF (.int 1)) (nilF)))) (consF (tupF (consF (binF itemG (readF 4) (constF (.int 1))) (consF (constF (.int 1)) (nilF)))) (nilF)))) (nilF))))))) (retF (constF (.bool false))) (skipF)
theorem S_law_7_app (e : Fv) : S_law_7 e = (ifF (orF (boolF (binF isNotG (callF 1 f_is_run (consF (readF 8) (nilF))) (constF (.bool true)))) (notF (truthF (callF 2 (f__law_same 12) (consF (callF 1 f_run_fix (consF (readF 8) (nilF))) (consF (tupF (consF (tupF (consF (binF itemG (readF 4) (constF (.int 0))) (consF (constF (.int 1)) (nilF)))) (consF (tupF (consF (binF itemG (readF 4) (constF (.int 1))) (consF (constF (.int 1)) (nilF)))) (nilF)))) (nilF))))))) (retF (constF (.bool false))) (skipF)) e := by unfold S_law_7; rw [hide_eq]
noncomputable def S_law_8 : Mo Out := hide <|
  forF (range1I (consF (constF (.int 5)) (nilF))) (toSlot 9) (L_law_1)
theorem S_law_8_app (e : Fv) : S_law_8 e = (forF (range1I (consF (constF (.int 5)) (nilF))) (toSlot 9) (L_law_1)) e := by unfold S_law_8; rw [hide_eq]
noncomputable def S_law_9 : Mo Out := hide <|
  setF 8 (tupF (consF (readF 5) (consF (tupF (consF (constF (.int 1)) (consF (constF (.int 2)) (nilF)))) (consF (readF 6) (nilF)))))
theorem S_law_9_app (e : Fv) : S_law_9 e = (setF 8 (tupF (consF (readF 5) (consF (tupF (consF (constF (.int 1)) (consF (constF (.int 2)) (nilF)))) (consF (readF 6) (nilF)))))) e := by unfold S_law_9; rw [hide_eq]
noncomputable def S_law_10 : Mo Out := hide <|
  setF 18 (lstF (consF (sliceF (readF 8) none (some (constF (.int 2)))) (consF (binF addG (readF 8) (tupF (consF (constF (.int 0)) (nilF)))) (consF (callBF listG (consF (readF 8) (nilF))) (consF (binF addG (tupF (consF (constF .none) (nilF))) (sliceF (readF 8) (some (constF (.int 1))) none)) (consF (binF addG (sliceF (readF 8) none (some (constF (.int 2)))) (tupF (consF (constF .none) (nilF)))) (consF (tupF (consF (readF 5) (consF (tupF (consF (constF (.int 101)) (consF (constF (.int 0)) (nilF)))) (consF (readF 6) (nilF))))) (nilF))))))))
theorem S_law_10_app (e : Fv) : S_law_10 e = (setF 18 (lstF (consF (sliceF (readF 8) none (some (constF (.int 2)))) (consF (binF addG (readF 8) (tupF (consF (constF (.int 0)) (nilF)))) (consF (callBF listG (consF (readF 8) (nilF))) (consF (binF addG (tupF (consF (constF .none) (nilF))) (sliceF (readF 8) (some (constF (.int 1))) none)) (consF (binF addG (sliceF (readF 8) none (some (constF (.int 2)))) (tupF (consF (constF .none) (nilF)))) (consF (tupF (consF (readF 5) (consF (tupF (consF (constF (.int 101)) (consF (constF (.int 0)) (nilF)))) (consF (readF 6) (nilF))))) (nilF))))))))) e := by unfold S_law_10; rw [hide_eq]
noncomputable def S_law_11 : Mo Out := hide <|
  setF 18 (binF addG (readF 18) (lstF (consF (tupF (consF (readF 5) (consF (constF .none) (consF (readF 6) (nilF))))) (consF (tupF (consF (readF 5) (consF (tupF (consF (constF (.int 1)) (consF (constF (.int 2)) (nilF)))) (consF (readF 5) (nilF))))) (consF (tupF (consF (sliceF (readF 5) none (some (constF (.int 1)))) (consF (tupF (consF (constF (.int 1)) (consF (constF (.int 2)) (nilF)))) (consF (readF 6) (nilF))))) (consF (tupF (consF (readF 5) (consF (tupF (consF (constF (.bool true)) (consF (constF (.int 0)) (nilF)))) (consF (readF 6) (nilF))))) (consF (constF .none) (consF (constF (.str "run")) (nilF)))))))))
theorem S_law_11_app (e : Fv) : S_law_11 e = (setF 18 (binF addG (readF 18) (lstF (consF (tupF (consF (readF 5) (consF (constF .none) (consF (readF 6) (nilF))))) (consF (tupF (consF (readF 5) (consF (tupF (consF (constF (.int 1)) (consF (constF (.int 2)) (nilF)))) (consF (readF 5) (nilF))))) (consF (tupF (consF (sliceF (readF 5) none (some (constF (.int 1)))) (consF (tupF (consF (constF (.int 1)) (consF (constF (.int 2)) (nilF)))) (consF (readF 6) (nilF))))) (consF (tupF (consF (readF 5) (consF (tupF (consF (constF (.bool true)) (consF (constF (.int 0)) (nilF)))) (consF (readF 6) (nilF))))) (consF (constF .none) (consF (constF (.str "run")) (nilF)))))))))) e := by unfold S_law_11; rw [hide_eq]
noncomputable def S_law_12 : Mo Out := hide <|
  retF (binF eqG (Q_law_2) (lstF (nilF)))
theorem S_law_12_app (e : Fv) : S_law_12 e = (retF (binF eqG (Q_law_2) (lstF (nilF)))) e := by unfold S_law_12; rw [hide_eq]
noncomputable def B_law : Mo Out :=
  seqF (S_law_1)
    (seqF (S_law_2)
    (seqF (S_law_3)
    (seqF (S_law_4)
    (seqF (S_law_5)
    (seqF (S_law_6)
    (seqF (S_law_7)
    (seqF (S_law_8)
    (seqF (S_law_9)
    (seqF (S_law_10)
    (seqF (S_law_11)
    (S_law_12)))))))))))
noncomputable def f_law : List PyData → FnR := hide (runF 21 B_law)
theorem f_law_eq : f_law = runF 21 B_law := by unfold f_law; rw [hide_eq]
/-- what stands behind the top -/
structure Tx (K : PySem.W.Frag) (mg : Str → Option Value) (base : Heap) (tabs : List Addr) (fa : Nat → Addr) (fd : Nat → FuncData) (ca pa : Nat → Addr) : Prop where
  F_is_number : Fun K "is_number" "is_number" s_is_number (fa 2) (fd 2)
  b_is_number : Binds K (fd 2) ["value", "least", "most"] []
  g_is_number : mg "is_number" = some (.ref (fa 2))
  F_lowest : Fun K "lowest" "lowest" s_lowest (fa 4) (fd 4)
  b_lowest : Binds K (fd 4) ["part", "whole"] []
  g_lowest : mg "lowest" = some (.ref (fa 4))
  F_minus : Fun K "minus" "minus" s_minus (fa 5) (fd 5)
  b_minus : Binds K (fd 5) ["one", "other"] []
  g_minus : mg "minus" = some (.ref (fa 5))
  F_times : Fun K "times" "times" s_times (fa 6) (fd 6)
  b_times : Binds K (fd 6) ["one", "other"] []
  g_times : mg "times" = some (.ref (fa 6))
  F_less : Fun K "less" "less" s_less (fa 7) (fd 7)
  b_less : Binds K (fd 7) ["one", "other"] []
  g_less : mg "less" = some (.ref (fa 7))
  F_is_spot : Fun K "is_spot" "is_spot" s_is_spot (fa 12) (fd 12)
  b_is_spot : Binds K (fd 12) ["value"] []
  g_is_spot : mg "is_spot" = some (.ref (fa 12))
  t_is_spot : GxR.TabB base mg (ca 12) (pa 12)
  m_is_spot : pa 12 ∈ tabs
  e_is_spot : (fd 12).code = .ref (ca 12)
  F_is_direction : Fun K "is_direction" "is_direction" s_is_direction (fa 13) (fd 13)
  b_is_direction : Binds K (fd 13) ["value"] []
  g_is_direction : mg "is_direction" = some (.ref (fa 13))
  t_is_direction : GxR.TabB base mg (ca 13) (pa 13)
  m_is_direction : pa 13 ∈ tabs
  e_is_direction : (fd 13).code = .ref (ca 13)
  F_is_sight : Fun K "is_sight" "is_sight" s_is_sight (fa 14) (fd 14)
  b_is_sight : Binds K (fd 14) ["value"] []
  g_is_sight : mg "is_sight" = some (.ref (fa 14))
  F_right_hand : Fun K "right_hand" "right_hand" s_right_hand (fa 15) (fd 15)
  b_right_hand : Binds K (fd 15) ["one", "other"] []
  g_right_hand : mg "right_hand" = some (.ref (fa 15))
  F_fits_sight : Fun K "fits_sight" "fits_sight" s_fits_sight (fa 16) (fd 16)
  b_fits_sight : Binds K (fd 16) ["place", "sight"] []
  g_fits_sight : mg "fits_sight" = some (.ref (fa 16))
  F_are_along : Fun K "are_along" "are_along" s_are_along (fa 18) (fd 18)
  b_are_along : Binds K (fd 18) ["one", "other"] []
  g_are_along : mg "are_along" = some (.ref (fa 18))
  F_crossing_of : Fun K "crossing_of" "crossing_of" s_crossing_of (fa 19) (fd 19)
  b_crossing_of : Binds K (fd 19) ["one", "other"] []
  g_crossing_of : mg "crossing_of" = some (.ref (fa 19))
  t_crossing_of : GxR.TabB base mg (ca 19) (pa 19)
  m_crossing_of : pa 19 ∈ tabs
  e_crossing_of : (fd 19).code = .ref (ca 19)
  F_is_run : Fun K "is_run" "is_run" s_is_run (fa 21) (fd 21)
  b_is_run : Binds K (fd 21) ["value"] []
  g_is_run : mg "is_run" = some (.ref (fa 21))
  F_run_fix : Fun K "run_fix" "run_fix" s_run_fix (fa 22) (fd 22)
  b_run_fix : Binds K (fd 22) ["run"] []
  g_run_fix : mg "run_fix" = some (.ref (fa 22))
  F__law_draws : Fun K "_law_draws" "_law_draws" s__law_draws (fa 24) (fd 24)
  b__law_draws : Binds K (fd 24) ["script"] []
  g__law_draws : mg "_law_draws" = some (.ref (fa 24))
  F__law_take : Fun K "_law_take" "_law_take" s__law_take (fa 25) (fd 25)
  b__law_take : Binds K (fd 25) ["draws", "bound"] []
  g__law_take : mg "_law_take" = some (.ref (fa 25))
  F__law_same : Fun K "_law_same" "_law_same" s__law_same (fa 26) (fd 26)
  b__law_same : Binds K (fd 26) ["actual", "due"] []
  g__law_same : mg "_law_same" = some (.ref (fa 26))
  F__law_lowest : Fun K "_law_lowest" "_law_lowest" s__law_lowest (fa 27) (fd 27)
  b__law_lowest : Binds K (fd 27) ["part", "whole"] []
  g__law_lowest : mg "_law_lowest" = some (.ref (fa 27))
  F__law_plus : Fun K "_law_plus" "_law_plus" s__law_plus (fa 28) (fd 28)
  b__law_plus : Binds K (fd 28) ["one", "other"] []
  g__law_plus : mg "_law_plus" = some (.ref (fa 28))
  F__law_minus : Fun K "_law_minus" "_law_minus" s__law_minus (fa 29) (fd 29)
  b__law_minus : Binds K (fd 29) ["one", "other"] []
  g__law_minus : mg "_law_minus" = some (.ref (fa 29))
  F__law_times : Fun K "_law_times" "_law_times" s__law_times (fa 30) (fd 30)
  b__law_times : Binds K (fd 30) ["one", "other"] []
  g__law_times : mg "_law_times" = some (.ref (fa 30))
  F__law_common : Fun K "_law_common" "_law_common" s__law_common (fa 34) (fd 34)
  b__law_common : Binds K (fd 34) ["one", "other"] []
  g__law_common : mg "_law_common" = some (.ref (fa 34))
  F__law_spot : Fun K "_law_spot" "_law_spot" s__law_spot (fa 35) (fd 35)
  b__law_spot : Binds K (fd 35) ["draws", "wide"] []
  g__law_spot : mg "_law_spot" = some (.ref (fa 35))
  F__law_direction : Fun K "_law_direction" "_law_direction" s__law_direction (fa 36) (fd 36)
  b__law_direction : Binds K (fd 36) ["draws", "wide"] []
  g__law_direction : mg "_law_direction" = some (.ref (fa 36))
  F__law_product : Fun K "_law_product" "_law_product" s__law_product (fa 37) (fd 37)
  b__law_product : Binds K (fd 37) ["one", "other"] []
  g__law_product : mg "_law_product" = some (.ref (fa 37))
  F__law_fits : Fun K "_law_fits" "_law_fits" s__law_fits (fa 38) (fd 38)
  b__law_fits : Binds K (fd 38) ["place", "sight"] []
  g__law_fits : mg "_law_fits" = some (.ref (fa 38))
  F__law_sights : Fun K "_law_sights" "_law_sights" s__law_sights (fa 39) (fd 39)
  b__law_sights : Binds K (fd 39) ["draws", "most", "wide"] []
  g__law_sights : mg "_law_sights" = some (.ref (fa 39))
  F__law_from : Fun K "_law_from" "_law_from" s__law_from (fa 40) (fd 40)
  b__law_from : Binds K (fd 40) ["draws", "spot"] []
  g__law_from : mg "_law_from" = some (.ref (fa 40))
  F_law : Fun K "law" "law" s_law (fa 41) (fd 41)
  b_law : Binds K (fd 41) ["script"] []
  g_law : mg "law" = some (.ref (fa 41))
  z_abs : mg "abs" = none
  z_all : mg "all" = none
  z_bool : mg "bool" = none
  z_int : mg "int" = none
  z_isinstance : mg "isinstance" = none
  z_len : mg "len" = none
  z_list : mg "list" = none
  z_max : mg "max" = none
  z_min : mg "min" = none
  z_range : mg "range" = none
  z_reversed : mg "reversed" = none
  z_str : mg "str" = none
  z_tuple : mg "tuple" = none
  y_gcd : mg "gcd" = some (.builtin "math.gcd")
  c_MOST_SPOT : ∃ t, mg "MOST_SPOT" = some (.int 100 t)
  c_MOST_STEP : ∃ t, mg "MOST_STEP" = some (.int 20 t)
  c_NOUGHT : ∃ u n, mg "NOUGHT" = some u ∧ readK K n u = some (.tuple [.int 0, .int 1])
section
variable {P : Program} {w : World} {K : PySem.W.Frag} {mg : Str → Option Value} {base : Heap} {tabs : List Addr} {fa : Nat → Addr} {fd : Nat → FuncData} {ca pa : Nat → Addr} (T : Tx K mg base tabs fa fd ca pa)
include T
theorem ok_is_number : FnOk P w K mg base CX0 1 (fa 2) (fd 2) ["value", "least", "most"] (sp0 K tabs 3 f_is_number) :=
  hid_f (fn0 T.F_is_number sc_is_number (by decide) fun cdv A outer s H E p hr =>
    es_one (es_ret (ev_ofB (eb_and (eb_is (T := "int") (by decide) (by rfl) T.z_isinstance (by rfl) T.z_int bt_int (ev_var 0)) (eb_and (eb_not (eb_is (T := "bool") (by decide) (by rfl) T.z_isinstance (by rfl) T.z_bool bt_bool (ev_var 0))) (eb_one (ev_toB (ev_chain op2_le op2_le (ev_var 1) (ev_var 0) (ev_var 2)))))))))
theorem ok_lowest : FnOk P w K mg base CX0 1 (fa 4) (fd 4) ["part", "whole"] (sp0 K tabs 2 f_lowest) :=
  hid_f (fn0 T.F_lowest sc_lowest (by decide) fun cdv A outer s H E p hr =>
    es_cons (es_set (i := 2) sc_lowest.nd rfl (.inl rfl) (ev_callBfun opN_gcd (by rfl) T.y_gcd (ea_cons (ev_var 0) (ea_cons (ev_var 1) (ea_nil)))))
    (es_cons (es_if (et_cmp op2_lt (ev_var 1) (ev_int)) (es_one (es_set (i := 2) sc_lowest.nd rfl (.inl rfl) (ev_neg (ev_var 2)))) (es_nil))
    (es_one (es_ret (ev_tup (ea_cons (ev_bin op2_fdiv (ev_var 0) (ev_var 2)) (ea_cons (ev_bin op2_fdiv (ev_var 1) (ev_var 2)) (ea_nil))))))))
theorem ok_minus : FnOk P w K mg base CX0 2 (fa 5) (fd 5) ["one", "other"] (sp0 K tabs 2 f_minus) :=
  hid_f (fn0 T.F_minus sc_minus (by decide) fun cdv A outer s H E p hr =>
    es_one (es_ret (ev_call (ok_lowest T) (hr.mono (by decide)) (by rfl) T.g_lowest T.F_lowest.kp T.b_lowest (ea_cons (ev_bin op2_sub (ev_bin op2_mul (ev_ix (ev_var 0) (ev_int)) (ev_ix (ev_var 1) (ev_int))) (ev_bin op2_mul (ev_ix (ev_var 1) (ev_int)) (ev_ix (ev_var 0) (ev_int)))) (ea_cons (ev_bin op2_mul (ev_ix (ev_var 0) (ev_int)) (ev_ix (ev_var 1) (ev_int))) (ea_nil))))))
theorem ok_times : FnOk P w K mg base CX0 2 (fa 6) (fd 6) ["one", "other"] (sp0 K tabs 2 f_times) :=
  hid_f (fn0 T.F_times sc_times (by decide) fun cdv A outer s H E p hr =>
    es_one (es_ret (ev_call (ok_lowest T) (hr.mono (by decide)) (by rfl) T.g_lowest T.F_lowest.kp T.b_lowest (ea_cons (ev_bin op2_mul (ev_ix (ev_var 0) (ev_int)) (ev_ix (ev_var 1) (ev_int))) (ea_cons (ev_bin op2_mul (ev_ix (ev_var 0) (ev_int)) (ev_ix (ev_var 1) (ev_int))) (ea_nil))))))
theorem ok_less : FnOk P w K mg base CX0 1 (fa 7) (fd 7) ["one", "other"] (sp0 K tabs 2 f_less) :=
  hid_f (fn0 T.F_less sc_less (by decide) fun cdv A outer s H E p hr =>
    es_one (es_ret (ev_cmp op2_lt (ev_bin op2_mul (ev_ix (ev_var 0) (ev_int)) (ev_ix (ev_var 1) (ev_int))) (ev_bin op2_mul (ev_ix (ev_var 1) (ev_int)) (ev_ix (ev_var 0) (ev_int))))))
theorem ok_is_spot : FnOk P w K mg base CX0 7 (fa 12) (fd 12) ["value"] (sp0 K tabs 1 f_is_spot) :=
  hid_f (fn0C T.F_is_spot T.e_is_spot sc_is_spot (by decide) fun A outer s H E p hr =>
    es_cons (es_if (et_of (ew_or (et_not (et_val (eb_is (T := "tuple") (by decide) (by rfl) T.z_isinstance (by rfl) T.z_tuple bt_tuple (ev_var 0)))) (ew_or1 (et_cmp (op2_ne (hu100 hr)) (ev_callB opN_len (by rfl) T.z_len bt_len (ea_cons (ev_var 0) (ea_nil))) (ev_int))))) (es_one (es_ret (ev_bl))) (es_nil))
    (es_one (es_ret (ev_ofB (hid_eb (eb_all (k := 1) (hr.mono (by decide)) (by rfl) T.z_all T.t_is_spot rfl T.m_is_spot (genOk_by (M := N_is_spot) (sc := defScope s_is_spot) (N := N_G_is_spot_1) (ixs := []) (m := 1) (by decide +kernel)) (eq_seq (ev_var 0)) (fun p s H C code fp pn hr => eg_name (i := 0) nd_G_is_spot_1 rfl (.inl rfl)) (fun p s H C code fp pn hr => ets_nil) (fun p s H C code fp pn hr => ev_toB (ev_call (ok_is_number T) (hr.mono (by decide)) (by rfl) T.g_is_number T.F_is_number.kp T.b_is_number (ea_cons (ev_var 0) (ea_cons (ev_neg (ev_globI (by rfl) T.c_MOST_SPOT)) (ea_cons (ev_globI (by rfl) T.c_MOST_SPOT) (ea_nil))))))))))))
theorem ok_is_direction : FnOk P w K mg base CX0 7 (fa 13) (fd 13) ["value"] (sp0 K tabs 1 f_is_direction) :=
  hid_f (fn0C T.F_is_direction T.e_is_direction sc_is_direction (by decide) fun A outer s H E p hr =>
    es_cons (es_if (et_of (ew_or (et_not (et_val (eb_is (T := "tuple") (by decide) (by rfl) T.z_isinstance (by rfl) T.z_tuple bt_tuple (ev_var 0)))) (ew_or1 (et_cmp (op2_ne (hu100 hr)) (ev_callB opN_len (by rfl) T.z_len bt_len (ea_cons (ev_var 0) (ea_nil))) (ev_int))))) (es_one (es_ret (ev_bl))) (es_nil))
    (es_one (es_ret (ev_ofB (eb_and (hid_eb (eb_all (k := 1) (hr.mono (by decide)) (by rfl) T.z_all T.t_is_direction rfl T.m_is_direction (genOk_by (M := N_is_direction) (sc := defScope s_is_direction) (N := N_G_is_direction_1) (ixs := []) (m := 1) (by decide +kernel)) (eq_seq (ev_var 0)) (fun p s H C code fp pn hr => eg_name (i := 0) nd_G_is_direction_1 rfl (.inl rfl)) (fun p s H C code fp pn hr => ets_nil) (fun p s H C code fp pn hr => ev_toB (ev_call (ok_is_number T) (hr.mono (by decide)) (by rfl) T.g_is_number T.F_is_number.kp T.b_is_number (ea_cons (ev_var 0) (ea_cons (ev_neg (ev_globI (by rfl) T.c_MOST_STEP)) (ea_cons (ev_globI (by rfl) T.c_MOST_STEP) (ea_nil)))))))) (eb_one (ev_toB (ev_cmp (op2_eq (hu100 hr)) (ev_callBfun opN_gcd (by rfl) T.y_gcd (ea_cons (ev_ix (ev_var 0) (ev_int)) (ea_cons (ev_ix (ev_var 0) (ev_int)) (ea_nil)))) (ev_int)))))))))
theorem ok_is_sight : FnOk P w K mg base CX0 8 (fa 14) (fd 14) ["value"] (sp0 K tabs 1 f_is_sight) :=
  hid_f (fn0 T.F_is_sight sc_is_sight (by decide) fun cdv A outer s H E p hr =>
    es_one (es_ret (ev_ofB (eb_and (eb_is (T := "tuple") (by decide) (by rfl) T.z_isinstance (by rfl) T.z_tuple bt_tuple (ev_var 0)) (eb_and (ev_toB (ev_cmp (op2_eq (hu100 hr)) (ev_callB opN_len (by rfl) T.z_len bt_len (ea_cons (ev_var 0) (ea_nil))) (ev_int))) (eb_and (ev_toB (ev_call (ok_is_spot T) (hr.mono (by decide)) (by rfl) T.g_is_spot T.F_is_spot.kp T.b_is_spot (ea_cons (ev_ix (ev_var 0) (ev_int)) (ea_nil)))) (eb_one (ev_toB (ev_call (ok_is_direction T) (hr.mono (by decide)) (by rfl) T.g_is_direction T.F_is_direction.kp T.b_is_direction (ea_cons (ev_ix (ev_var 0) (ev_int)) (ea_nil)))))))))))
theorem ok_right_hand : FnOk P w K mg base CX0 1 (fa 15) (fd 15) ["one", "other"] (sp0 K tabs 2 f_right_hand) :=
  hid_f (fn0 T.F_right_hand sc_right_hand (by decide) fun cdv A outer s H E p hr =>
    es_one (es_ret (ev_bin op2_sub (ev_bin op2_mul (ev_ix (ev_var 0) (ev_int)) (ev_ix (ev_var 1) (ev_int))) (ev_bin op2_mul (ev_ix (ev_var 0) (ev_int)) (ev_ix (ev_var 1) (ev_int))))))
theorem ok_fits_sight : FnOk P w K mg base CX0 3 (fa 16) (fd 16) ["place", "sight"] (sp0 K tabs 2 f_fits_sight) :=
  hid_f (fn0 T.F_fits_sight sc_fits_sight (by decide) fun cdv A outer s H E p hr =>
    es_cons (es_asg (ev_var 1) (eg_tup rfl (egs_cons (eg_name (i := 2) sc_fits_sight.nd rfl (.inl rfl)) (egs_cons (eg_tup rfl (egs_cons (eg_name (i := 3) sc_fits_sight.nd rfl (.inl rfl)) (egs_cons (eg_name (i := 4) sc_fits_sight.nd rfl (.inl rfl)) (egs_nil)))) (egs_nil)))))
    (es_cons (es_par2 (i := 5) (j := 6) rfl sc_fits_sight.nd rfl rfl (by decide) rfl rfl (eu_cons (fun p => ev_call (ok_minus T) (hr.mono (by decide)) (by rfl) T.g_minus T.F_minus.kp T.b_minus (ea_cons (ev_tup (ea_cons (ev_ix (ev_var 2) (ev_int)) (ea_cons (ev_int) (ea_nil)))) (ea_cons (ev_ix (ev_var 0) (ev_int)) (ea_nil)))) (eu_cons (fun p => ev_call (ok_minus T) (hr.mono (by decide)) (by rfl) T.g_minus T.F_minus.kp T.b_minus (ea_cons (ev_tup (ea_cons (ev_ix (ev_var 2) (ev_int)) (ea_cons (ev_int) (ea_nil)))) (ea_cons (ev_ix (ev_var 0) (ev_int)) (ea_nil)))) (eu_nil))))
    (es_cons (es_if (et_cmp (op2_ne (hu100 hr)) (ev_call (ok_times T) (hr.mono (by decide)) (by rfl) T.g_times T.F_times.kp T.b_times (ea_cons (ev_var 5) (ea_cons (ev_tup (ea_cons (ev_var 4) (ea_cons (ev_int) (ea_nil)))) (ea_nil)))) (ev_call (ok_times T) (hr.mono (by decide)) (by rfl) T.g_times T.F_times.kp T.b_times (ea_cons (ev_var 6) (ea_cons (ev_tup (ea_cons (ev_var 3) (ea_cons (ev_int) (ea_nil)))) (ea_nil))))) (es_one (es_ret (ev_bl))) (es_nil))
    (es_one (es_ret (ev_ofB (eb_or (ev_toB (ev_call (ok_less T) (hr.mono (by decide)) (by rfl) T.g_less T.F_less.kp T.b_less (ea_cons (ev_globD (by rfl) T.c_NOUGHT) (ea_cons (ev_call (ok_times T) (hr.mono (by decide)) (by rfl) T.g_times T.F_times.kp T.b_times (ea_cons (ev_var 5) (ea_cons (ev_tup (ea_cons (ev_var 3) (ea_cons (ev_int) (ea_nil)))) (ea_nil)))) (ea_nil))))) (eb_one (ev_toB (ev_call (ok_less T) (hr.mono (by decide)) (by rfl) T.g_less T.F_less.kp T.b_less (ea_cons (ev_globD (by rfl) T.c_NOUGHT) (ea_cons (ev_call (ok_times T) (hr.mono (by decide)) (by rfl) T.g_times T.F_times.kp T.b_times (ea_cons (ev_var 6) (ea_cons (ev_tup (ea_cons (ev_var 4) (ea_cons (ev_int) (ea_nil)))) (ea_nil)))) (ea_nil)))))))))))))
theorem ok_are_along : FnOk P w K mg base CX0 2 (fa 18) (fd 18) ["one", "other"] (sp0 K tabs 2 f_are_along) :=
  hid_f (fn0 T.F_are_along sc_are_along (by decide) fun cdv A outer s H E p hr =>
    es_one (es_ret (ev_cmp (op2_eq (hu100 hr)) (ev_call (ok_right_hand T) (hr.mono (by decide)) (by rfl) T.g_right_hand T.F_right_hand.kp T.b_right_hand (ea_cons (ev_ix (ev_var 0) (ev_int)) (ea_cons (ev_ix (ev_var 1) (ev_int)) (ea_nil)))) (ev_int))))
theorem ok_crossing_of : FnOk P w K mg base CX0 7 (fa 19) (fd 19) ["one", "other"] (sp0 K tabs 2 f_crossing_of) :=
  hid_f (fn0C T.F_crossing_of T.e_crossing_of sc_crossing_of (by decide) fun A outer s H E p hr =>
    es_cons (es_set (i := 5) sc_crossing_of.nd rfl (.inr rfl) (ev_call (ok_right_hand T) (hr.mono (by decide)) (by rfl) T.g_right_hand T.F_right_hand.kp T.b_right_hand (ea_cons (ev_ix (ev_var 0) (ev_int)) (ea_cons (ev_ix (ev_var 1) (ev_int)) (ea_nil)))))
    (es_cons (es_set (i := 2) sc_crossing_of.nd rfl (.inl rfl) (ev_tup (ea_cons (ev_bin op2_sub (ev_ix (ev_ix (ev_var 1) (ev_int)) (ev_int)) (ev_ix (ev_ix (ev_var 0) (ev_int)) (ev_int))) (ea_cons (ev_bin op2_sub (ev_ix (ev_ix (ev_var 1) (ev_int)) (ev_int)) (ev_ix (ev_ix (ev_var 0) (ev_int)) (ev_int))) (ea_nil)))))
    (es_cons (es_set (i := 4) sc_crossing_of.nd rfl (.inr rfl) (ev_call (ok_right_hand T) (hr.mono (by decide)) (by rfl) T.g_right_hand T.F_right_hand.kp T.b_right_hand (ea_cons (ev_var 2) (ea_cons (ev_ix (ev_var 1) (ev_int)) (ea_nil)))))
    (es_cons (es_set (i := 3) sc_crossing_of.nd rfl (.inl rfl) (hid_e (ev_tupGen (k := 1) (hr.mono (by decide)) (by rfl) T.z_tuple T.t_crossing_of rfl T.m_crossing_of (genOk_by (M := N_crossing_of) (sc := defScope s_crossing_of) (N := N_G_crossing_of_1) (ixs := [5, 4, 0]) (m := 1) (by decide +kernel)) (PIv.q (ei_range1 (by rfl) T.z_range (ea_cons (ev_int) (ea_nil)))) (fun p s H C code fp pn hr => eg_name (i := 3) nd_G_crossing_of_1 rfl (.inl rfl)) (fun p s H C code fp pn hr => ets_nil) (fun p s H C code fp pn hr => ev_call (ok_lowest T) (hr.mono (by decide)) (by rfl) T.g_lowest T.F_lowest.kp T.b_lowest (ea_cons (ev_bin op2_add (ev_bin op2_mul (ev_ix (ev_ix (ev_var 2) (ev_int)) (ev_var 3)) (ev_var 0)) (ev_bin op2_mul (ev_var 1) (ev_ix (ev_ix (ev_var 2) (ev_int)) (ev_var 3)))) (ea_cons (ev_var 0) (ea_nil)))))))
    (es_one (es_ret (ev_ifExp (et_of (ew_and (et_truth (ev_call (ok_fits_sight T) (hr.mono (by decide)) (by rfl) T.g_fits_sight T.F_fits_sight.kp T.b_fits_sight (ea_cons (ev_var 3) (ea_cons (ev_var 0) (ea_nil))))) (ew_and1 (et_truth (ev_call (ok_fits_sight T) (hr.mono (by decide)) (by rfl) T.g_fits_sight T.F_fits_sight.kp T.b_fits_sight (ea_cons (ev_var 3) (ea_cons (ev_var 1) (ea_nil)))))))) (ev_var 3) (ev_non))))))))
theorem ok_is_run : FnOk P w K mg base CX0 9 (fa 21) (fd 21) ["value"] (sp0 K tabs 1 f_is_run) :=
  hid_f (fn0 T.F_is_run sc_is_run (by decide) fun cdv A outer s H E p hr =>
    es_cons (es_if (et_of (ew_or (et_not (et_val (eb_is (T := "tuple") (by decide) (by rfl) T.z_isinstance (by rfl) T.z_tuple bt_tuple (ev_var 0)))) (ew_or (et_cmp (op2_ne (hu100 hr)) (ev_callB opN_len (by rfl) T.z_len bt_len (ea_cons (ev_var 0) (ea_nil))) (ev_int)) (ew_or (et_not (et_truth (ev_call (ok_is_sight T) (hr.mono (by decide)) (by rfl) T.g_is_sight T.F_is_sight.kp T.b_is_sight (ea_cons (ev_ix (ev_var 0) (ev_int)) (ea_nil))))) (ew_or1 (et_not (et_truth (ev_call (ok_is_sight T) (hr.mono (by decide)) (by rfl) T.g_is_sight T.F_is_sight.kp T.b_is_sight (ea_cons (ev_ix (ev_var 0) (ev_int)) (ea_nil)))))))))) (es_one (es_ret (ev_bl))) (es_nil))
    (es_one (es_ret (ev_ofB (eb_and (ev_toB (ev_call (ok_is_spot T) (hr.mono (by decide)) (by rfl) T.g_is_spot T.F_is_spot.kp T.b_is_spot (ea_cons (ev_ix (ev_var 0) (ev_int)) (ea_nil)))) (eb_one (eb_not (ev_toB (ev_call (ok_are_along T) (hr.mono (by decide)) (by rfl) T.g_are_along T.F_are_along.kp T.b_are_along (ea_cons (ev_ix (ev_var 0) (ev_int)) (ea_cons (ev_ix (ev_var 0) (ev_int)) (ea_nil))))))))))))
theorem ok_run_fix : FnOk P w K mg base CX0 8 (fa 22) (fd 22) ["run"] (sp0 K tabs 1 f_run_fix) :=
  hid_f (fn0 T.F_run_fix sc_run_fix (by decide) fun cdv A outer s H E p hr =>
    es_cons (es_asg (ev_var 0) (eg_tup rfl (egs_cons (eg_tup rfl (egs_cons (eg_name (i := 1) sc_run_fix.nd rfl (.inl rfl)) (egs_cons (eg_name (i := 2) sc_run_fix.nd rfl (.inl rfl)) (egs_nil)))) (egs_cons (eg_name (i := 3) sc_run_fix.nd rfl (.inl rfl)) (egs_cons (eg_name (i := 4) sc_run_fix.nd rfl (.inl rfl)) (egs_nil))))))
    (es_one (es_ret (ev_call (ok_crossing_of T) (hr.mono (by decide)) (by rfl) T.g_crossing_of T.F_crossing_of.kp T.b_crossing_of (ea_cons (ev_tup (ea_cons (ev_tup (ea_cons (ev_bin op2_add (ev_ix (ev_var 1) (ev_int)) (ev_ix (ev_var 3) (ev_int))) (ea_cons (ev_bin op2_add (ev_ix (ev_var 1) (ev_int)) (ev_ix (ev_var 3) (ev_int))) (ea_nil)))) (ea_cons (ev_var 2) (ea_nil)))) (ea_cons (ev_var 4) (ea_nil)))))))
theorem ok__law_draws : FnOk P w K mg base CX0 1 (fa 24) (fd 24) ["script"] (sp0 K tabs 1 f__law_draws) :=
  hid_f (fn0 T.F__law_draws sc__law_draws (by decide) fun cdv A outer s H E p hr =>
    es_cons (es_set (i := 1) sc__law_draws.nd rfl (.inl rfl) (ev_lst (ea_nil)))
    (es_cons (es_for PassesOwn.never rfl (ei_seq (ev_var 0)) (eg_name (i := 2) sc__law_draws.nd rfl (.inl rfl)) (hid_b (es_cons (es_set (i := 3) sc__law_draws.nd rfl (.inl rfl) (ev_callB opN_abs (by rfl) T.z_abs bt_abs (ea_cons (ev_var 2) (ea_nil))))
    (es_cons (es_if (et_cmp op2_lt (ev_var 3) (ev_bin op2_pow (ev_int) (ev_int))) (es_cons (es_set (i := 4) sc__law_draws.nd rfl (.inl rfl) (ev_bin op2_mod (ev_callTy opN_int (by rfl) T.z_int bt_int (ea_cons (ev_bin op2_add (ev_bin op2_mul (ev_var 3) (ev_int)) (ev_int)) (ea_nil))) (ev_int)))
    (es_cons (es_drop (ev_append (ev_var 1) (ev_bin op2_mod (ev_callTy opN_int (by rfl) T.z_int bt_int (ea_cons (ev_bin op2_add (ev_bin op2_mul (ev_var 4) (ev_int)) (ev_var 3)) (ea_nil))) (ev_int))))
    (es_cons (es_drop (ev_append (ev_var 1) (ev_bin op2_mod (ev_callTy opN_int (by rfl) T.z_int bt_int (ea_cons (ev_bin op2_add (ev_var 4) (ev_bin op2_fdiv (ev_var 3) (ev_int))) (ea_nil))) (ev_int))))
    (es_one (es_set (i := 3) sc__law_draws.nd rfl (.inl rfl) (ev_int)))))) (es_nil))
    (es_one (es_for PassesOwn.never rfl (ei_range1 (by rfl) T.z_range (ea_cons (ev_int) (ea_nil))) (eg_name (i := 5) sc__law_draws.nd rfl (.inl rfl)) (hid_b (es_one (es_if (et_cmp op2_gt (ev_var 3) (ev_int)) (es_cons (es_drop (ev_append (ev_var 1) (ev_bin op2_mod (ev_callTy opN_int (by rfl) T.z_int bt_int (ea_cons (ev_var 3) (ea_nil))) (ev_int))))
    (es_one (es_set (i := 3) sc__law_draws.nd rfl (.inl rfl) (ev_bin op2_fdiv (ev_var 3) (ev_int))))) (es_nil))))))))))
    (es_cons (es_set (i := 6) sc__law_draws.nd rfl (.inl rfl) (ev_int))
    (es_cons (es_if (et_cmp op2_gt (ev_callB opN_len (by rfl) T.z_len bt_len (ea_cons (ev_var 0) (ea_nil))) (ev_int)) (es_one (es_set (i := 6) sc__law_draws.nd rfl (.inl rfl) (ev_bin op2_add (ev_int) (ev_callB opN_abs (by rfl) T.z_abs bt_abs (ea_cons (ev_ix (ev_var 0) (ev_int)) (ea_nil)))))) (es_nil))
    (es_cons (es_for PassesOwn.never rfl (ei_range1 (by rfl) T.z_range (ea_cons (ev_int) (ea_nil))) (eg_name (i := 5) sc__law_draws.nd rfl (.inl rfl)) (hid_b (es_cons (es_set (i := 6) sc__law_draws.nd rfl (.inl rfl) (ev_bin op2_mod (ev_callTy opN_int (by rfl) T.z_int bt_int (ea_cons (ev_bin op2_add (ev_bin op2_mul (ev_var 6) (ev_int)) (ev_int)) (ea_nil))) (ev_int)))
    (es_one (es_drop (ev_append (ev_var 1) (ev_bin op2_fdiv (ev_var 6) (ev_int))))))))
    (es_one (es_ret (ev_listRev rfl (by rfl) T.z_list (by rfl) T.z_reversed (ev_var 1)))))))))
theorem ok__law_take : FnOk P w K mg base CX0 1 (fa 25) (fd 25) ["draws", "bound"] (spL K tabs 2 f__law_take) :=
  hid_l (fnL T.F__law_take sc__law_take (by decide) fun cdv A outer s H E p m hr =>
    es_cons (es_if (et_cmp (op2_eq (hu100 hr)) (ev_callB opN_len (by rfl) T.z_len bt_len (ea_cons (ev_var 0) (ea_nil))) (ev_int)) (es_one (es_ret (ev_int))) (es_nil))
    (es_one (es_ret (ev_bin op2_mod (ev_callTy opN_int (by rfl) T.z_int bt_int (ea_cons (ev_pop (ev_var 0)) (ea_nil))) (ev_var 1)))))
theorem ok__law_same : ∀ n : Nat, FnOk P w K mg base CX0 (n + 1) (fa 26) (fd 26) ["actual", "due"] (sp0 K tabs 2 (f__law_same n))
  | 0 => fn_stuck fun _ => rfl
  | n + 1 => by
    have ih := ok__law_same n
    rw [show n + 1 + 1 = (n + 1) + 1 by omega]
    exact hid_f (fn0 T.F__law_same sc__law_same (by decide) fun cdv A outer s H E p hr =>
        es_cons (es_if (et_of (ew_or (et_cmp op2_is (ev_var 1) (ev_non)) (ew_or1 (et_cmp op2_is (ev_var 0) (ev_non))))) (es_one (es_ret (ev_ofB (eb_and (ev_toB (ev_cmp op2_is (ev_var 1) (ev_non))) (eb_one (ev_toB (ev_cmp op2_is (ev_var 0) (ev_non)))))))) (es_nil))
        (es_cons (es_if (et_of (ew_or (et_val (eb_is (T := "tuple") (by decide) (by rfl) T.z_isinstance (by rfl) T.z_tuple bt_tuple (ev_var 1))) (ew_or1 (et_val (eb_is (T := "list") (by decide) (by rfl) T.z_isinstance (by rfl) T.z_list bt_list (ev_var 1)))))) (es_cons (es_if (et_of (ew_or (et_cmp (op2_ne (hu100 hr)) (ev_ofB (eb_is (T := "tuple") (by decide) (by rfl) T.z_isinstance (by rfl) T.z_tuple bt_tuple (ev_var 1))) (ev_ofB (eb_is (T := "tuple") (by decide) (by rfl) T.z_isinstance (by rfl) T.z_tuple bt_tuple (ev_var 0)))) (ew_or1 (et_cmp (op2_ne (hu100 hr)) (ev_ofB (eb_is (T := "list") (by decide) (by rfl) T.z_isinstance (by rfl) T.z_list bt_list (ev_var 1))) (ev_ofB (eb_is (T := "list") (by decide) (by rfl) T.z_isinstance (by rfl) T.z_list bt_list (ev_var 0))))))) (es_one (es_ret (ev_bl))) (es_nil))
        (es_cons (es_if (et_cmp (op2_ne (hu100 hr)) (ev_callB opN_len (by rfl) T.z_len bt_len (ea_cons (ev_var 0) (ea_nil))) (ev_callB opN_len (by rfl) T.z_len bt_len (ea_cons (ev_var 1) (ea_nil)))) (es_one (es_ret (ev_bl))) (es_nil))
        (es_cons (es_for PassesOwn.never rfl (ei_range1 (by rfl) T.z_range (ea_cons (ev_callB opN_len (by rfl) T.z_len bt_len (ea_cons (ev_var 1) (ea_nil))) (ea_nil))) (eg_name (i := 2) sc__law_same.nd rfl (.inl rfl)) (hid_b (es_one (es_if (et_not (et_truth (ev_call ih (hr.mono (by omega)) (by rfl) T.g__law_same T.F__law_same.kp T.b__law_same (ea_cons (ev_ix (ev_var 0) (ev_var 2)) (ea_cons (ev_ix (ev_var 1) (ev_var 2)) (ea_nil)))))) (es_one (es_ret (ev_bl))) (es_nil)))))
        (es_one (es_ret (ev_bl)))))) (es_nil))
        (es_cons (es_if (et_cmp (op2_ne (hu100 hr)) (ev_ofB (eb_is (T := "bool") (by decide) (by rfl) T.z_isinstance (by rfl) T.z_bool bt_bool (ev_var 1))) (ev_ofB (eb_is (T := "bool") (by decide) (by rfl) T.z_isinstance (by rfl) T.z_bool bt_bool (ev_var 0)))) (es_one (es_ret (ev_bl))) (es_nil))
        (es_cons (es_if (et_of (ew_or (et_cmp (op2_ne (hu100 hr)) (ev_ofB (eb_is (T := "int") (by decide) (by rfl) T.z_isinstance (by rfl) T.z_int bt_int (ev_var 1))) (ev_ofB (eb_is (T := "int") (by decide) (by rfl) T.z_isinstance (by rfl) T.z_int bt_int (ev_var 0)))) (ew_or1 (et_cmp (op2_ne (hu100 hr)) (ev_ofB (eb_is (T := "str") (by decide) (by rfl) T.z_isinstance (by rfl) T.z_str bt_str (ev_var 1))) (ev_ofB (eb_is (T := "str") (by decide) (by rfl) T.z_isinstance (by rfl) T.z_str bt_str (ev_var 0))))))) (es_one (es_ret (ev_bl))) (es_nil))
        (es_one (es_ret (ev_cmp (op2_eq (hu100 hr)) (ev_var 0) (ev_var 1))))))))
theorem ok__law_lowest : FnOk P w K mg base CX0 1 (fa 27) (fd 27) ["part", "whole"] (sp0 K tabs 2 f__law_lowest) :=
  hid_f (fn0 T.F__law_lowest sc__law_lowest (by decide) fun cdv A outer s H E p hr =>
    es_cons (es_par2 (i := 2) (j := 3) rfl sc__law_lowest.nd rfl rfl (by decide) rfl rfl (eu_cons (fun p => ev_callB opN_abs (by rfl) T.z_abs bt_abs (ea_cons (ev_var 0) (ea_nil))) (eu_cons (fun p => ev_callB opN_abs (by rfl) T.z_abs bt_abs (ea_cons (ev_var 1) (ea_nil))) (eu_nil))))
    (es_cons (es_while 1000000 PassesOwn.never (et_cmp op2_gt (ev_var 3) (ev_int)) (hid_b (es_one (es_par2 (i := 2) (j := 3) rfl sc__law_lowest.nd rfl rfl (by decide) rfl rfl (eu_cons (fun p => ev_var 3) (eu_cons (fun p => ev_bin op2_mod (ev_callTy opN_int (by rfl) T.z_int bt_int (ea_cons (ev_var 2) (ea_nil))) (ev_var 3)) (eu_nil)))))))
    (es_cons (es_if (et_cmp op2_lt (ev_var 1) (ev_int)) (es_one (es_set (i := 2) sc__law_lowest.nd rfl (.inl rfl) (ev_neg (ev_var 2)))) (es_nil))
    (es_one (es_ret (ev_tup (ea_cons (ev_bin op2_fdiv (ev_var 0) (ev_var 2)) (ea_cons (ev_bin op2_fdiv (ev_var 1) (ev_var 2)) (ea_nil)))))))))
theorem ok__law_plus : FnOk P w K mg base CX0 2 (fa 28) (fd 28) ["one", "other"] (sp0 K tabs 2 f__law_plus) :=
  hid_f (fn0 T.F__law_plus sc__law_plus (by decide) fun cdv A outer s H E p hr =>
    es_one (es_ret (ev_call (ok__law_lowest T) (hr.mono (by decide)) (by rfl) T.g__law_lowest T.F__law_lowest.kp T.b__law_lowest (ea_cons (ev_bin op2_add (ev_bin op2_mul (ev_ix (ev_var 0) (ev_int)) (ev_ix (ev_var 1) (ev_int))) (ev_bin op2_mul (ev_ix (ev_var 1) (ev_int)) (ev_ix (ev_var 0) (ev_int)))) (ea_cons (ev_bin op2_mul (ev_ix (ev_var 0) (ev_int)) (ev_ix (ev_var 1) (ev_int))) (ea_nil))))))
theorem ok__law_minus : FnOk P w K mg base CX0 3 (fa 29) (fd 29) ["one", "other"] (sp0 K tabs 2 f__law_minus) :=
  hid_f (fn0 T.F__law_minus sc__law_minus (by decide) fun cdv A outer s H E p hr =>
    es_one (es_ret (ev_call (ok__law_plus T) (hr.mono (by decide)) (by rfl) T.g__law_plus T.F__law_plus.kp T.b__law_plus (ea_cons (ev_var 0) (ea_cons (ev_tup (ea_cons (ev_neg (ev_ix (ev_var 1) (ev_int))) (ea_cons (ev_ix (ev_var 1) (ev_int)) (ea_nil)))) (ea_nil))))))
theorem ok__law_times : FnOk P w K mg base CX0 2 (fa 30) (fd 30) ["one", "other"] (sp0 K tabs 2 f__law_times) :=
  hid_f (fn0 T.F__law_times sc__law_times (by decide) fun cdv A outer s H E p hr =>
    es_one (es_ret (ev_call (ok__law_lowest T) (hr.mono (by decide)) (by rfl) T.g__law_lowest T.F__law_lowest.kp T.b__law_lowest (ea_cons (ev_bin op2_mul (ev_ix (ev_var 0) (ev_int)) (ev_ix (ev_var 1) (ev_int))) (ea_cons (ev_bin op2_mul (ev_ix (ev_var 0) (ev_int)) (ev_ix (ev_var 1) (ev_int))) (ea_nil))))))
theorem ok__law_common : FnOk P w K mg base CX0 1 (fa 34) (fd 34) ["one", "other"] (sp0 K tabs 2 f__law_common) :=
  hid_f (fn0 T.F__law_common sc__law_common (by decide) fun cdv A outer s H E p hr =>
    es_cons (es_par2 (i := 0) (j := 1) rfl sc__law_common.nd rfl rfl (by decide) rfl rfl (eu_cons (fun p => ev_callB opN_abs (by rfl) T.z_abs bt_abs (ea_cons (ev_var 0) (ea_nil))) (eu_cons (fun p => ev_callB opN_abs (by rfl) T.z_abs bt_abs (ea_cons (ev_var 1) (ea_nil))) (eu_nil))))
    (es_cons (es_while 1000000 PassesOwn.never (et_cmp op2_gt (ev_var 1) (ev_int)) (hid_b (es_one (es_par2 (i := 0) (j := 1) rfl sc__law_common.nd rfl rfl (by decide) rfl rfl (eu_cons (fun p => ev_var 1) (eu_cons (fun p => ev_bin op2_mod (ev_callTy opN_int (by rfl) T.z_int bt_int (ea_cons (ev_var 0) (ea_nil))) (ev_var 1)) (eu_nil)))))))
    (es_one (es_ret (ev_var 0)))))
theorem ok__law_spot : FnOk P w K mg base CX0 2 (fa 35) (fd 35) ["draws", "wide"] (spL K tabs 2 f__law_spot) :=
  hid_l (fnL T.F__law_spot sc__law_spot (by decide) fun cdv A outer s H E p m hr =>
    es_one (es_ret (ev_tup (ea_cons (ev_bin op2_sub (ev_callL (ok__law_take T) (hr.mono (by decide)) (by rfl) T.g__law_take T.F__law_take.kp T.b__law_take (ev_var 0) (ea_cons (ev_bin op2_add (ev_bin op2_mul (ev_int) (ev_var 1)) (ev_int)) (ea_nil))) (ev_var 1)) (ea_cons (ev_bin op2_sub (ev_callL (ok__law_take T) (hr.mono (by decide)) (by rfl) T.g__law_take T.F__law_take.kp T.b__law_take (ev_var 0) (ea_cons (ev_bin op2_add (ev_bin op2_mul (ev_int) (ev_var 1)) (ev_int)) (ea_nil))) (ev_var 1)) (ea_nil))))))
theorem ok__law_direction : FnOk P w K mg base CX0 3 (fa 36) (fd 36) ["draws", "wide"] (spL K tabs 2 f__law_direction) :=
  hid_l (fnL T.F__law_direction sc__law_direction (by decide) fun cdv A outer s H E p m hr =>
    es_cons (es_asg (ev_callL (ok__law_spot T) (hr.mono (by decide)) (by rfl) T.g__law_spot T.F__law_spot.kp T.b__law_spot (ev_var 0) (ea_cons (ev_var 1) (ea_nil))) (eg_tup rfl (egs_cons (eg_name (i := 2) sc__law_direction.nd rfl (.inl rfl)) (egs_cons (eg_name (i := 3) sc__law_direction.nd rfl (.inl rfl)) (egs_nil)))))
    (es_cons (es_if (et_of (ew_and (et_cmp (op2_eq (hu100 hr)) (ev_var 2) (ev_int)) (ew_and1 (et_cmp (op2_eq (hu100 hr)) (ev_var 3) (ev_int))))) (es_one (es_set (i := 2) sc__law_direction.nd rfl (.inl rfl) (ev_int))) (es_nil))
    (es_cons (es_set (i := 4) sc__law_direction.nd rfl (.inl rfl) (ev_call (ok__law_common T) (hr.mono (by decide)) (by rfl) T.g__law_common T.F__law_common.kp T.b__law_common (ea_cons (ev_var 2) (ea_cons (ev_var 3) (ea_nil)))))
    (es_one (es_ret (ev_tup (ea_cons (ev_bin op2_fdiv (ev_var 2) (ev_var 4)) (ea_cons (ev_bin op2_fdiv (ev_var 3) (ev_var 4)) (ea_nil)))))))))
theorem ok__law_product : FnOk P w K mg base CX0 1 (fa 37) (fd 37) ["one", "other"] (sp0 K tabs 2 f__law_product) :=
  hid_f (fn0 T.F__law_product sc__law_product (by decide) fun cdv A outer s H E p hr =>
    es_one (es_ret (ev_bin op2_sub (ev_bin op2_mul (ev_ix (ev_var 0) (ev_int)) (ev_ix (ev_var 1) (ev_int))) (ev_bin op2_mul (ev_ix (ev_var 0) (ev_int)) (ev_ix (ev_var 1) (ev_int))))))
theorem ok__law_fits : FnOk P w K mg base CX0 4 (fa 38) (fd 38) ["place", "sight"] (sp0 K tabs 2 f__law_fits) :=
  hid_f (fn0 T.F__law_fits sc__law_fits (by decide) fun cdv A outer s H E p hr =>
    es_cons (es_asg (ev_var 1) (eg_tup rfl (egs_cons (eg_tup rfl (egs_cons (eg_name (i := 2) sc__law_fits.nd rfl (.inl rfl)) (egs_cons (eg_name (i := 3) sc__law_fits.nd rfl (.inl rfl)) (egs_nil)))) (egs_cons (eg_tup rfl (egs_cons (eg_name (i := 4) sc__law_fits.nd rfl (.inl rfl)) (egs_cons (eg_name (i := 5) sc__law_fits.nd rfl (.inl rfl)) (egs_nil)))) (egs_nil)))))
    (es_cons (es_par2 (i := 6) (j := 7) rfl sc__law_fits.nd rfl rfl (by decide) rfl rfl (eu_cons (fun p => ev_call (ok__law_minus T) (hr.mono (by decide)) (by rfl) T.g__law_minus T.F__law_minus.kp T.b__law_minus (ea_cons (ev_tup (ea_cons (ev_var 2) (ea_cons (ev_int) (ea_nil)))) (ea_cons (ev_ix (ev_var 0) (ev_int)) (ea_nil)))) (eu_cons (fun p => ev_call (ok__law_minus T) (hr.mono (by decide)) (by rfl) T.g__law_minus T.F__law_minus.kp T.b__law_minus (ea_cons (ev_tup (ea_cons (ev_var 3) (ea_cons (ev_int) (ea_nil)))) (ea_cons (ev_ix (ev_var 0) (ev_int)) (ea_nil)))) (eu_nil))))
    (es_cons (es_set (i := 8) sc__law_fits.nd rfl (.inl rfl) (ev_ifExp (et_cmp (op2_ne (hu100 hr)) (ev_var 4) (ev_int)) (ev_call (ok__law_lowest T) (hr.mono (by decide)) (by rfl) T.g__law_lowest T.F__law_lowest.kp T.b__law_lowest (ea_cons (ev_ix (ev_var 6) (ev_int)) (ea_cons (ev_bin op2_mul (ev_ix (ev_var 6) (ev_int)) (ev_var 4)) (ea_nil)))) (ev_call (ok__law_lowest T) (hr.mono (by decide)) (by rfl) T.g__law_lowest T.F__law_lowest.kp T.b__law_lowest (ea_cons (ev_ix (ev_var 7) (ev_int)) (ea_cons (ev_bin op2_mul (ev_ix (ev_var 7) (ev_int)) (ev_var 5)) (ea_nil))))))
    (es_one (es_ret (ev_ofB (eb_and (ev_toB (ev_cmp op2_gt (ev_ix (ev_var 8) (ev_int)) (ev_int))) (eb_and (ev_toB (ev_cmp (op2_eq (hu100 hr)) (ev_call (ok__law_times T) (hr.mono (by decide)) (by rfl) T.g__law_times T.F__law_times.kp T.b__law_times (ea_cons (ev_var 8) (ea_cons (ev_tup (ea_cons (ev_var 4) (ea_cons (ev_int) (ea_nil)))) (ea_nil)))) (ev_var 6))) (eb_one (ev_toB (ev_cmp (op2_eq (hu100 hr)) (ev_call (ok__law_times T) (hr.mono (by decide)) (by rfl) T.g__law_times T.F__law_times.kp T.b__law_times (ea_cons (ev_var 8) (ea_cons (ev_tup (ea_cons (ev_var 5) (ea_cons (ev_int) (ea_nil)))) (ea_nil)))) (ev_var 7))))))))))))
theorem ok__law_sights : FnOk P w K mg base CX0 4 (fa 39) (fd 39) ["draws", "most", "wide"] (spL K tabs 3 f__law_sights) :=
  hid_l (fnL T.F__law_sights sc__law_sights (by decide) fun cdv A outer s H E p m hr =>
    es_cons (es_par2 (i := 3) (j := 4) rfl sc__law_sights.nd rfl rfl (by decide) rfl rfl (eu_cons (fun p => ev_callL (ok__law_spot T) (hr.mono (by decide)) (by rfl) T.g__law_spot T.F__law_spot.kp T.b__law_spot (ev_var 0) (ea_cons (ev_var 2) (ea_nil))) (eu_cons (fun p => ev_lst (ea_nil)) (eu_nil))))
    (es_cons (es_for PassesOwn.never rfl (ei_range1 (by rfl) T.z_range (ea_cons (ev_var 1) (ea_nil))) (eg_name (i := 5) sc__law_sights.nd rfl (.inl rfl)) (hid_b (es_cons (es_set (i := 6) sc__law_sights.nd rfl (.inl rfl) (ev_callL (ok__law_spot T) (hr.mono (by decide)) (by rfl) T.g__law_spot T.F__law_spot.kp T.b__law_spot (ev_var 0) (ea_cons (ev_var 2) (ea_nil))))
    (es_cons (es_par2 (i := 7) (j := 8) rfl sc__law_sights.nd rfl rfl (by decide) rfl rfl (eu_cons (fun p => ev_bin op2_sub (ev_ix (ev_var 6) (ev_int)) (ev_ix (ev_var 3) (ev_int))) (eu_cons (fun p => ev_bin op2_sub (ev_ix (ev_var 6) (ev_int)) (ev_ix (ev_var 3) (ev_int))) (eu_nil))))
    (es_cons (es_if (et_of (ew_or (et_cmp (op2_eq (hu100 hr)) (ev_tup (ea_cons (ev_var 7) (ea_cons (ev_var 8) (ea_nil)))) (ev_tup (ea_cons (ev_int) (ea_cons (ev_int) (ea_nil))))) (ew_or1 (et_cmp (op2_eq (hu100 hr)) (ev_callL (ok__law_take T) (hr.mono (by decide)) (by rfl) T.g__law_take T.F__law_take.kp T.b__law_take (ev_var 0) (ea_cons (ev_int) (ea_nil))) (ev_int))))) (es_one (es_asg (ev_callL (ok__law_direction T) (hr.mono (by decide)) (by rfl) T.g__law_direction T.F__law_direction.kp T.b__law_direction (ev_var 0) (ea_cons (ev_callB (opN_min2 rfl) (by rfl) T.z_min bt_min (ea_cons (ev_int) (ea_cons (ev_var 2) (ea_nil)))) (ea_nil))) (eg_tup rfl (egs_cons (eg_name (i := 7) sc__law_sights.nd rfl (.inl rfl)) (egs_cons (eg_name (i := 8) sc__law_sights.nd rfl (.inl rfl)) (egs_nil)))))) (es_nil))
    (es_cons (es_set (i := 9) sc__law_sights.nd rfl (.inl rfl) (ev_call (ok__law_common T) (hr.mono (by decide)) (by rfl) T.g__law_common T.F__law_common.kp T.b__law_common (ea_cons (ev_var 7) (ea_cons (ev_var 8) (ea_nil)))))
    (es_cons (es_if (et_cmp op2_gt (ev_callB (opN_max2 rfl) (by rfl) T.z_max bt_max (ea_cons (ev_callB opN_abs (by rfl) T.z_abs bt_abs (ea_cons (ev_var 7) (ea_nil))) (ea_cons (ev_callB opN_abs (by rfl) T.z_abs bt_abs (ea_cons (ev_var 8) (ea_nil))) (ea_nil)))) (ev_bin op2_mul (ev_int) (ev_var 9))) (es_one (es_parN (is := [7, 8, 9]) rfl (eu_cons (fun p => ev_int) (eu_cons (fun p => ev_int) (eu_cons (fun p => ev_int) (eu_nil)))) (pgs_cons (pg_name (i := 7) sc__law_sights.nd rfl (.inl rfl)) (pgs_cons (pg_name (i := 8) sc__law_sights.nd rfl (.inl rfl)) (pgs_cons (pg_name (i := 9) sc__law_sights.nd rfl (.inl rfl)) (pgs_nil)))) rfl)) (es_nil))
    (es_one (es_drop (ev_append (ev_var 4) (ev_tup (ea_cons (ev_var 6) (ea_cons (ev_tup (ea_cons (ev_bin op2_fdiv (ev_var 7) (ev_var 9)) (ea_cons (ev_bin op2_fdiv (ev_var 8) (ev_var 9)) (ea_nil)))) (ea_nil))))))))))))))
    (es_one (es_ret (ev_tup (ea_cons (ev_callTy opN_tuple (by rfl) T.z_tuple bt_tuple (ea_cons (ev_var 4) (ea_nil))) (ea_cons (ev_var 3) (ea_nil))))))))
theorem ok__law_from : FnOk P w K mg base CX0 4 (fa 40) (fd 40) ["draws", "spot"] (spL K tabs 2 f__law_from) :=
  hid_l (fnL T.F__law_from sc__law_from (by decide) fun cdv A outer s H E p m hr =>
    es_cons (es_par2 (i := 2) (j := 3) rfl sc__law_from.nd rfl rfl (by decide) rfl rfl (eu_cons (fun p => ev_callL (ok__law_direction T) (hr.mono (by decide)) (by rfl) T.g__law_direction T.F__law_direction.kp T.b__law_direction (ev_var 0) (ea_cons (ev_int) (ea_nil))) (eu_cons (fun p => ev_bin op2_add (ev_int) (ev_callL (ok__law_take T) (hr.mono (by decide)) (by rfl) T.g__law_take T.F__law_take.kp T.b__law_take (ev_var 0) (ea_cons (ev_int) (ea_nil)))) (eu_nil))))
    (es_one (es_ret (ev_tup (ea_cons (ev_tup (ea_cons (ev_bin op2_add (ev_ix (ev_var 1) (ev_int)) (ev_bin op2_mul (ev_var 3) (ev_ix (ev_var 2) (ev_int)))) (ea_cons (ev_bin op2_add (ev_ix (ev_var 1) (ev_int)) (ev_bin op2_mul (ev_var 3) (ev_ix (ev_var 2) (ev_int)))) (ea_nil)))) (ea_cons (ev_var 2) (ea_nil)))))))
theorem ok_law : FnOk P w K mg base CX0 14 (fa 41) (fd 41) ["script"] (sp0 K tabs 1 f_law) :=
  hid_f (fn0 T.F_law sc_law (by decide) fun cdv A outer s H E p hr =>
    es_cons (hid_s (es_set (i := 1) sc_law.nd rfl (.inl rfl) (ev_call (ok__law_draws T) (hr.mono (by decide)) (by rfl) T.g__law_draws T.F__law_draws.kp T.b__law_draws (ea_cons (ev_var 0) (ea_nil)))))
    (es_cons (hid_s (es_parN (is := [2, 3]) rfl (eu_cons (fun p => ev_callL (ok__law_spot T) (hr.mono (by decide)) (by rfl) T.g__law_spot T.F__law_spot.kp T.b__law_spot (ev_var 1) (ea_cons (ev_int) (ea_nil))) (eu_cons (fun p => ev_callL (ok__law_spot T) (hr.mono (by decide)) (by rfl) T.g__law_spot T.F__law_spot.kp T.b__law_spot (ev_var 1) (ea_cons (ev_int) (ea_nil))) (eu_nil))) (pgs_cons (pg_name (i := 2) sc_law.nd rfl (.inl rfl)) (pgs_cons (pg_name (i := 3) sc_law.nd rfl (.inr rfl)) (pgs_nil))) rfl))
    (es_cons (hid_s (es_set (i := 4) sc_law.nd rfl (.inl rfl) (ev_tup (ea_cons (ev_bin op2_add (ev_ix (ev_var 2) (ev_int)) (ev_ix (ev_var 3) (ev_int))) (ea_cons (ev_bin op2_add (ev_ix (ev_var 2) (ev_int)) (ev_ix (ev_var 3) (ev_int))) (ea_nil))))))
    (es_cons (hid_s (es_par2 (i := 5) (j := 6) rfl sc_law.nd rfl rfl (by decide) rfl rfl (eu_cons (fun p => ev_callL (ok__law_from T) (hr.mono (by decide)) (by rfl) T.g__law_from T.F__law_from.kp T.b__law_from (ev_var 1) (ea_cons (ev_var 2) (ea_nil))) (eu_cons (fun p => ev_callL (ok__law_from T) (hr.mono (by decide)) (by rfl) T.g__law_from T.F__law_from.kp T.b__law_from (ev_var 1) (ea_cons (ev_var 4) (ea_nil))) (eu_nil)))))
    (es_cons (hid_s (es_if (et_cmp (op2_eq (hu100 hr)) (ev_call (ok__law_product T) (hr.mono (by decide)) (by rfl) T.g__law_product T.F__law_product.kp T.b__law_product (ea_cons (ev_ix (ev_var 5) (ev_int)) (ea_cons (ev_ix (ev_var 6) (ev_int)) (ea_nil)))) (ev_int)) (es_cons (es_set (i := 7) sc_law.nd rfl (.inl rfl) (ev_tup (ea_cons (ev_neg (ev_ix (ev_ix (ev_var 5) (ev_int)) (ev_int))) (ea_cons (ev_ix (ev_ix (ev_var 5) (ev_int)) (ev_int)) (ea_nil)))))
    (es_one (es_set (i := 6) sc_law.nd rfl (.inl rfl) (ev_tup (ea_cons (ev_tup (ea_cons (ev_bin op2_add (ev_ix (ev_var 4) (ev_int)) (ev_bin op2_mul (ev_int) (ev_ix (ev_var 7) (ev_int)))) (ea_cons (ev_bin op2_add (ev_ix (ev_var 4) (ev_int)) (ev_bin op2_mul (ev_int) (ev_ix (ev_var 7) (ev_int)))) (ea_nil)))) (ea_cons (ev_var 7) (ea_nil))))))) (es_nil)))
    (es_cons (hid_s (es_set (i := 8) sc_law.nd rfl (.inl rfl) (ev_tup (ea_cons (ev_var 5) (ea_cons (ev_var 3) (ea_cons (ev_var 6) (ea_nil)))))))
    (es_cons (hid_s (es_if (et_of (ew_or (et_cmp op2_isNot (ev_call (ok_is_run T) (hr.mono (by decide)) (by rfl) T.g_is_run T.F_is_run.kp T.b_is_run (ea_cons (ev_var 8) (ea_nil))) (ev_bl)) (ew_or1 (et_not (et_truth (ev_call (ok__law_same T 12) (hr.mono (by omega)) (by rfl) T.g__law_same T.F__law_same.kp T.b__law_same (ea_cons (ev_call (ok_run_fix T) (hr.mono (by decide)) (by rfl) T.g_run_fix T.F_run_fix.kp T.b_run_fix (ea_cons (ev_var 8) (ea_nil))) (ea_cons (ev_tup (ea_cons (ev_tup (ea_cons (ev_ix (ev_var 4) (ev_int)) (ea_cons (ev_int) (ea_nil)))) (ea_cons (ev_tup (ea_cons (ev_ix (ev_var 4) (ev_int)) (ea_cons (ev_int) (ea_nil)))) (ea_nil)))) (ea_nil))))))))) (es_one (es_ret (ev_bl))) (es_nil)))
    (es_cons (hid_s (es_for PassesOwn.never rfl (ei_range1 (by rfl) T.z_range (ea_cons (ev_int) (ea_nil))) (eg_name (i := 9) sc_law.nd rfl (.inl rfl)) (hid_b (es_cons (es_asg (ev_callL (ok__law_sights T) (hr.mono (by decide)) (by rfl) T.g__law_sights T.F__law_sights.kp T.b__law_sights (ev_var 1) (ea_cons (ev_int) (ea_cons (ev_ix (ev_lst (ea_cons (ev_int) (ea_cons (ev_int) (ea_cons (ev_int) (ea_nil))))) (ev_callL (ok__law_take T) (hr.mono (by decide)) (by rfl) T.g__law_take T.F__law_take.kp T.b__law_take (ev_var 1) (ea_cons (ev_int) (ea_nil)))) (ea_nil)))) (eg_tup rfl (egs_cons (eg_name (i := 10) sc_law.nd rfl (.inl rfl)) (egs_cons (eg_name (i := 11) sc_law.nd rfl (.inl rfl)) (egs_nil)))))
    (es_cons (es_set (i := 3) sc_law.nd rfl (.inr rfl) (ev_callL (ok__law_spot T) (hr.mono (by decide)) (by rfl) T.g__law_spot T.F__law_spot.kp T.b__law_spot (ev_var 1) (ea_cons (ev_ix (ev_lst (ea_cons (ev_int) (ea_cons (ev_int) (ea_nil)))) (ev_callL (ok__law_take T) (hr.mono (by decide)) (by rfl) T.g__law_take T.F__law_take.kp T.b__law_take (ev_var 1) (ea_cons (ev_int) (ea_nil)))) (ea_nil))))
    (es_cons (es_set (i := 8) sc_law.nd rfl (.inl rfl) (ev_tup (ea_cons (ev_ix (ev_var 10) (ev_int)) (ea_cons (ev_var 3) (ea_cons (ev_ix (ev_var 10) (ev_int)) (ea_nil))))))
    (es_cons (es_set (i := 12) sc_law.nd rfl (.inl rfl) (ev_cmp (op2_ne (hu100 hr)) (ev_call (ok__law_product T) (hr.mono (by decide)) (by rfl) T.g__law_product T.F__law_product.kp T.b__law_product (ea_cons (ev_ix (ev_ix (ev_var 10) (ev_int)) (ev_int)) (ea_cons (ev_ix (ev_ix (ev_var 10) (ev_int)) (ev_int)) (ea_nil)))) (ev_int)))
    (es_cons (es_if (et_not (et_truth (ev_call (ok__law_same T 12) (hr.mono (by omega)) (by rfl) T.g__law_same T.F__law_same.kp T.b__law_same (ea_cons (ev_call (ok_is_run T) (hr.mono (by decide)) (by rfl) T.g_is_run T.F_is_run.kp T.b_is_run (ea_cons (ev_var 8) (ea_nil))) (ea_cons (ev_var 12) (ea_nil)))))) (es_one (es_ret (ev_bl))) (es_nil))
    (es_one (es_if (et_truth (ev_var 12)) (es_cons (es_set (i := 13) sc_law.nd rfl (.inr rfl) (ev_call (ok_run_fix T) (hr.mono (by decide)) (by rfl) T.g_run_fix T.F_run_fix.kp T.b_run_fix (ea_cons (ev_var 8) (ea_nil))))
    (es_cons (es_if (et_cmp op2_isNot (ev_var 13) (ev_non)) (es_cons (es_set (i := 14) sc_law.nd rfl (.inl rfl) (ev_callTy opN_tuple (by rfl) T.z_tuple bt_tuple (ea_cons (hid_e (ev_lc (own := [("k", 20)]) (by decide) rfl sc_law.nd (ei_range1 (by rfl) T.z_range (ea_cons (ev_int) (ea_nil))) (blkOk_by (own := [("k", 20)]) (N := N_law) (sc := defScope s_law) (by decide +kernel)) (fun p s H C cl fp => eg_name (i := 20) sc_law.nd rfl (by first | exact .inl rfl | exact .inr rfl)) (fun p s H C cl fp => ets_nil) (fun p s H C cl fp => ev_call (ok__law_minus T) (hr.mono (by decide)) (by rfl) T.g__law_minus T.F__law_minus.kp T.b__law_minus (ea_cons (ev_ix (ev_var 13) (ev_var 20)) (ea_cons (ev_tup (ea_cons (ev_ix (ev_var 3) (ev_var 20)) (ea_cons (ev_int) (ea_nil)))) (ea_nil)))))) (ea_nil))))
    (es_one (es_if (et_of (ew_or (et_not (et_truth (ev_call (ok__law_fits T) (hr.mono (by decide)) (by rfl) T.g__law_fits T.F__law_fits.kp T.b__law_fits (ea_cons (ev_var 13) (ea_cons (ev_ix (ev_var 10) (ev_int)) (ea_nil)))))) (ew_or1 (et_not (et_truth (ev_call (ok__law_fits T) (hr.mono (by decide)) (by rfl) T.g__law_fits T.F__law_fits.kp T.b__law_fits (ea_cons (ev_var 14) (ea_cons (ev_ix (ev_var 10) (ev_int)) (ea_nil))))))))) (es_one (es_ret (ev_bl))) (es_nil)))) (es_nil))
    (es_cons (es_asg (ev_ix (ev_var 10) (ev_int)) (eg_tup rfl (egs_cons (eg_name (i := 15) sc_law.nd rfl (.inl rfl)) (egs_cons (eg_name (i := 16) sc_law.nd rfl (.inl rfl)) (egs_nil)))))
    (es_cons (es_set (i := 17) sc_law.nd rfl (.inl rfl) (ev_tup (ea_cons (ev_tup (ea_cons (ev_bin op2_add (ev_ix (ev_var 15) (ev_int)) (ev_ix (ev_var 3) (ev_int))) (ea_cons (ev_bin op2_add (ev_ix (ev_var 15) (ev_int)) (ev_ix (ev_var 3) (ev_int))) (ea_nil)))) (ea_cons (ev_var 16) (ea_nil)))))
    (es_one (es_if (et_of (ew_or (et_not (et_truth (ev_call (ok__law_same T 12) (hr.mono (by omega)) (by rfl) T.g__law_same T.F__law_same.kp T.b__law_same (ea_cons (ev_var 13) (ea_cons (ev_call (ok_crossing_of T) (hr.mono (by decide)) (by rfl) T.g_crossing_of T.F_crossing_of.kp T.b_crossing_of (ea_cons (ev_var 17) (ea_cons (ev_ix (ev_var 10) (ev_int)) (ea_nil)))) (ea_nil)))))) (ew_or1 (et_not (et_truth (ev_call (ok__law_same T 12) (hr.mono (by omega)) (by rfl) T.g__law_same T.F__law_same.kp T.b__law_same (ea_cons (ev_call (ok_run_fix T) (hr.mono (by decide)) (by rfl) T.g_run_fix T.F_run_fix.kp T.b_run_fix (ea_cons (ev_tup (ea_cons (ev_ix (ev_var 10) (ev_int)) (ea_cons (ev_tup (ea_cons (ev_int) (ea_cons (ev_int) (ea_nil)))) (ea_cons (ev_ix (ev_var 10) (ev_int)) (ea_nil))))) (ea_nil))) (ea_cons (ev_call (ok_crossing_of T) (hr.mono (by decide)) (by rfl) T.g_crossing_of T.F_crossing_of.kp T.b_crossing_of (ea_cons (ev_ix (ev_var 10) (ev_int)) (ea_cons (ev_ix (ev_var 10) (ev_int)) (ea_nil)))) (ea_nil))))))))) (es_one (es_ret (ev_bl))) (es_nil))))))) (es_nil)))))))))))
    (es_cons (hid_s (es_set (i := 8) sc_law.nd rfl (.inl rfl) (ev_tup (ea_cons (ev_var 5) (ea_cons (ev_tup (ea_cons (ev_int) (ea_cons (ev_int) (ea_nil)))) (ea_cons (ev_var 6) (ea_nil)))))))
    (es_cons (hid_s (es_set (i := 18) sc_law.nd rfl (.inl rfl) (ev_lst (ea_cons (ev_slice (ev_var 8) eo_none (eo_some (ev_int))) (ea_cons (ev_bin op2_add (ev_var 8) (ev_tup (ea_cons (ev_int) (ea_nil)))) (ea_cons (ev_callTy opN_list (by rfl) T.z_list bt_list (ea_cons (ev_var 8) (ea_nil))) (ea_cons (ev_bin op2_add (ev_tup (ea_cons (ev_non) (ea_nil))) (ev_slice (ev_var 8) (eo_some (ev_int)) eo_none)) (ea_cons (ev_bin op2_add (ev_slice (ev_var 8) eo_none (eo_some (ev_int))) (ev_tup (ea_cons (ev_non) (ea_nil)))) (ea_cons (ev_tup (ea_cons (ev_var 5) (ea_cons (ev_tup (ea_cons (ev_int) (ea_cons (ev_int) (ea_nil)))) (ea_cons (ev_var 6) (ea_nil))))) (ea_nil))))))))))
    (es_cons (hid_s (es_set (i := 18) sc_law.nd rfl (.inl rfl) (ev_bin op2_add (ev_var 18) (ev_lst (ea_cons (ev_tup (ea_cons (ev_var 5) (ea_cons (ev_non) (ea_cons (ev_var 6) (ea_nil))))) (ea_cons (ev_tup (ea_cons (ev_var 5) (ea_cons (ev_tup (ea_cons (ev_int) (ea_cons (ev_int) (ea_nil)))) (ea_cons (ev_var 5) (ea_nil))))) (ea_cons (ev_tup (ea_cons (ev_slice (ev_var 5) eo_none (eo_some (ev_int))) (ea_cons (ev_tup (ea_cons (ev_int) (ea_cons (ev_int) (ea_nil)))) (ea_cons (ev_var 6) (ea_nil))))) (ea_cons (ev_tup (ea_cons (ev_var 5) (ea_cons (ev_tup (ea_cons (ev_bl) (ea_cons (ev_int) (ea_nil)))) (ea_cons (ev_var 6) (ea_nil))))) (ea_cons (ev_non) (ea_cons (ev_str) (ea_nil)))))))))))
    (es_one (hid_s (es_ret (ev_cmp (op2_eq (hu100 hr)) (hid_e (ev_lc (own := [("one", 19)]) (by decide) rfl sc_law.nd (ei_seq (ev_var 18)) (blkOk_by (own := [("one", 19)]) (N := N_law) (sc := defScope s_law) (by decide +kernel)) (fun p s H C cl fp => eg_name (i := 19) sc_law.nd rfl (by first | exact .inl rfl | exact .inr rfl)) (fun p s H C cl fp => ets_one (et_cmp op2_isNot (ev_call (ok_is_run T) (hr.mono (by decide)) (by rfl) T.g_is_run T.F_is_run.kp T.b_is_run (ea_cons (ev_var 19) (ea_nil))) (ev_bl))) (fun p s H C cl fp => ev_var 19))) (ev_lst (ea_nil)))))))))))))))))
end
end Lw
namespace Lw
open PySem Cf L2
theorem tk (ms : List Int) (b : Int) (hb : 0 < b) : ∃ (r : Int) (ms' : List Int), f__law_take (iL ms) [.int b] = .ok (.sh (.int r)) (iL ms') ∧ 0 ≤ r ∧ r < b := by
  rw [f__law_take_eq]
  exact take_ex ms b hb
theorem f_draws_eq : f__law_draws = runF 7 drawsB := by
  rw [f__law_draws_eq]
  unfold B__law_draws L__law_draws_2 L__law_draws_1 L__law_draws_3
  rw [hide_eq, hide_eq, hide_eq]
  rfl
/-- SAME -/
theorem same_ok : ∀ (n : Nat) (d : PyData), Deepn n d → f__law_same n [d, d] = .ok (.sh (.bool true))
  | 0, _, h => by cases h
  | n + 1, d, h => by
    rw [f__law_same_eq]
    exact same_one (f := f__law_same n) (L := L__law_same_1 (f__law_same n)) (fun e => L__law_same_1_app _ e) (fun d hd => same_ok n d hd) h
/-- NUMBER -/
def isNum (d : PyData) (a b : Int) : Bool := match d with
  | .int v => decide (a ≤ v) && decide (v ≤ b)
  | _ => false
theorem is_number_ok (d : PyData) (a b : Int) : f_is_number [d, .int a, .int b] = .ok (.sh (.bool (isNum d a b))) := by
  cases d <;> simp [f_is_number_eq, B_is_number, runF, isNum]
  rename_i v
  by_cases h : a ≤ v <;> simp [h]
end Lw
namespace Lw
open PySem Cf L2
theorem low_ok : LowOk f_lowest := by
  rw [f_lowest_eq]
  exact lowB_ok
theorem llow_ok : LowOk f__law_lowest := by
  rw [f__law_lowest_eq]
  exact lowE_ok fun e => L__law_lowest_1_app e
section
variable {n m : Nat} {p q : Rat} (h : Rz n p) (k : Rz m q) (hs : n + m ≤ 8000)
include h k hs
theorem minus_ok : f_minus [rD p, rD q] = .ok (.sh (rD (p - q))) := by rw [f_minus_eq]; exact minusB_ok low_ok h k hs
theorem times_ok : f_times [rD p, rD q] = .ok (.sh (rD (p * q))) := by rw [f_times_eq]; exact timesB_ok low_ok h k hs
theorem less_ok : f_less [rD p, rD q] = .ok (.sh (.bool (decide (p < q)))) := by rw [f_less_eq]; exact lessB_ok h k hs
theorem lplus_ok : f__law_plus [rD p, rD q] = .ok (.sh (rD (p + q))) := by rw [f__law_plus_eq]; exact plusB_ok llow_ok h k hs
theorem lminus_ok : f__law_minus [rD p, rD q] = .ok (.sh (rD (p - q))) := by
  rw [f__law_minus_eq]
  refine minusB2_ok ?_
  have := lplus_ok h k.neg hs
  rw [this]
  congr 3
  grind
theorem ltimes_ok : f__law_times [rD p, rD q] = .ok (.sh (rD (p * q))) := by rw [f__law_times_eq]; exact timesB_ok llow_ok h k hs
end
theorem one_rz : Rz 1 (1 : Rat) := ⟨show (Rat.num 1).natAbs < 2 ^ 1 by decide, show ((Rat.den 1 : Nat) : Int).natAbs < 2 ^ 1 by decide⟩
theorem zero_rz : Rz 1 (0 : Rat) := ⟨show (Rat.num 0).natAbs < 2 ^ 1 by decide, show ((Rat.den 0 : Nat) : Int).natAbs < 2 ^ 1 by decide⟩
theorem sqn (a : Int) : 0 ≤ a * a := by
  rw [← Int.natAbs_mul_self']
  exact Int.mul_nonneg (Int.natCast_nonneg _) (Int.natCast_nonneg _)
theorem rD_one : rD 1 = .tuple [.int 1, .int 1] := rfl
theorem rD_zero : rD 0 = .tuple [.int 0, .int 1] := rfl
/-! ### pairs of ints -/
abbrev Pt : Type := Int × Int
def pD (d : Pt) : PyData := .tuple [.int d.1, .int d.2]
structure Pz (n : Nat) (d : Pt) : Prop where
  x : Sz n d.1
  y : Sz n d.2
theorem at0 {α : Type} {x : α} {xs : List α} : atI (x :: xs) 0 = some x := atI_cons
theorem at1 {α : Type} {x y : α} {xs : List α} : atI (x :: y :: xs) 1 = some y := by
  rw [atI_nat (by omega) (by simp only [List.length_cons]; omega)]
  rfl
def cro (a b : Pt) : Int := a.1 * b.2 - a.2 * b.1
def dot (a b : Pt) : Int := a.1 * b.1 + a.2 * b.2
theorem Pz.dot {n m : Nat} {a b : Pt} (h : Pz n a) (k : Pz m b) : Sz (n + m + 1) (dot a b) := Sz.add (h.x.mul k.x) (h.y.mul k.y)
theorem Pz.cro {n m : Nat} {a b : Pt} (h : Pz n a) (k : Pz m b) : Sz (n + m + 1) (cro a b) := Sz.sub (h.x.mul k.y) (h.y.mul k.x)
theorem Pz.neg {n : Nat} {a : Pt} (h : Pz n a) : Pz n (-a.1, -a.2) := ⟨h.x.neg, h.y.neg⟩
theorem lagrange (a b : Pt) : cro a b * cro a b + dot a b * dot a b = dot a a * dot b b := by
  unfold cro dot
  grind
theorem dot_pos {a : Pt} (h : a ≠ (0, 0)) : 0 < dot a a := by
  have h1 : 0 ≤ a.1 * a.1 := sqn _
  have h2 : 0 ≤ a.2 * a.2 := sqn _
  unfold dot
  by_cases h3 : a.1 = 0
  · have h4 : a.2 ≠ 0 := fun z => h (Prod.ext h3 z)
    have : a.2 * a.2 ≠ 0 := Int.mul_ne_zero h4 h4
    omega
  · have : a.1 * a.1 ≠ 0 := Int.mul_ne_zero h3 h3
    omega

/-- a place -/
abbrev Pl : Type := Rat × Rat
def plD (p : Pl) : PyData := .tuple [rD p.1, rD p.2]
theorem rD_cast (i : Int) : PyData.tuple [.int i, .int 1] = rD (i : Rat) := (rD_int i).symm
theorem eqG_rD (p q : Rat) : eqG (rD p) (rD q) = some (.sh (.bool (decide (p = q)))) := by
  rw [eqG_plain (rD_plain (n := 0)) (rD_plain (n := 0)) (by decide)]
  simp only [rD_inj]
theorem neG_rD (p q : Rat) : neG (rD p) (rD q) = some (.sh (.bool (!decide (p = q)))) := by
  rw [neG_plain (rD_plain (n := 0)) (rD_plain (n := 0)) (by decide)]
  simp only [rD_inj]
section
variable {a b : Pt} {n m : Nat} (ha : Pz n a) (hb : Pz m b) (hs : n + m ≤ 1000)
include ha hb hs
theorem right_hand_ok : f_right_hand [pD a, pD b] = .ok (.sh (.int (cro a b))) := by
  simp [f_right_hand_eq, B_right_hand, runF, pD, at0, at1, mulG_sz ha.x hb.y (by omega), mulG_sz ha.y hb.x (by omega), cro]
theorem product_ok : f__law_product [pD a, pD b] = .ok (.sh (.int (cro a b))) := by
  simp [f__law_product_eq, B__law_product, runF, pD, at0, at1, mulG_sz ha.x hb.y (by omega), mulG_sz ha.y hb.x (by omega), cro]
end
/-! ### sights -/
structure Si where
  l : Pt
  d : Pt
def sD (s : Si) : PyData := .tuple [pD s.l, pD s.d]
/-- the vector from the place to the light -/
def vx (p : Pl) (s : Si) : Rat := (s.l.1 : Rat) - p.1
def vy (p : Pl) (s : Si) : Rat := (s.l.2 : Rat) - p.2
def fitM (p : Pl) (s : Si) : Bool := decide (vx p s * s.d.2 = vy p s * s.d.1) && (decide (0 < vx p s * s.d.1) || decide (0 < vy p s * s.d.2))
structure Siz (n : Nat) (s : Si) : Prop where
  l : Pz n s.l
  d : Pz 5 s.d
structure Plz (n : Nat) (p : Pl) : Prop where
  x : Rz n p.1
  y : Rz n p.2
theorem fits_ok {p : Pl} {s : Si} (hp : Plz 50 p) (hs : Siz 10 s) : f_fits_sight [plD p, sD s] = .ok (.sh (.bool (fitM p s))) := by
  have dx : Rz 5 (s.d.1 : Rat) := Rz.int hs.d.x (by decide)
  have dy : Rz 5 (s.d.2 : Rat) := Rz.int hs.d.y (by decide)
  have x := (Rz.int hs.l.x (by decide)).sub hp.x
  have y := (Rz.int hs.l.y (by decide)).sub hp.y
  have m1 := minus_ok (Rz.int hs.l.x (by decide)) hp.x (by decide)
  have m2 := minus_ok (Rz.int hs.l.y (by decide)) hp.y (by decide)
  have t1 := times_ok x dy (by decide)
  have t2 := times_ok y dx (by decide)
  have t3 := times_ok x dx (by decide)
  have t4 := times_ok y dy (by decide)
  have l1 := less_ok zero_rz (x.mul dx) (by decide)
  have l2 := less_ok zero_rz (y.mul dy) (by decide)
  have ne := neG_rD (((s.l.1 : Rat) - p.1) * s.d.2) (((s.l.2 : Rat) - p.2) * s.d.1)
  rw [rD_zero] at l1 l2
  simp only [rD_int] at m1 m2 t1 t2 t3 t4
  have z2 : 2 ≤ sizeLine := by decide
  unfold fitM vx vy
  by_cases hq : ((s.l.1 : Rat) - p.1) * s.d.2 = ((s.l.2 : Rat) - p.2) * s.d.1
  · simp only [hq, decide_true, Bool.not_true] at ne t1
    by_cases hw : 0 < ((s.l.1 : Rat) - p.1) * s.d.1
    · simp [f_fits_sight_eq, B_fits_sight, runF, sD, pD, plD, at0, at1, m1, m2, t1, t2, t3, t4, ne, l1, hq, hw, z2]
    · simp [f_fits_sight_eq, B_fits_sight, runF, sD, pD, plD, at0, at1, m1, m2, t1, t2, t3, t4, ne, l1, l2, hq, hw, z2]
  · simp only [hq, decide_false, Bool.not_false] at ne
    simp [f_fits_sight_eq, B_fits_sight, runF, sD, pD, plD, at0, at1, m1, m2, t1, t2, ne, hq, z2]
end Lw
namespace Lw
open PySem Cf L2
theorem spot_ok (ms : List Int) (w : Nat) (hw : w ≤ 1000) : ∃ (d : Pt) (ms' : List Int), f__law_spot (iL ms) [.int w] = .ok (.sh (pD d)) (iL ms') ∧ -(w : Int) ≤ d.1 ∧ d.1 ≤ w ∧ -(w : Int) ≤ d.2 ∧ d.2 ≤ w := by
  have m2 : mulG (.int 2) (.int w) = some (.sh (.int (2 * w))) := mulG_left (by decide)
  obtain ⟨x, ms1, hx, x0, x1⟩ := tk ms (2 * w + 1) (by omega)
  obtain ⟨y, ms2, hy, y0, y1⟩ := tk ms1 (2 * w + 1) (by omega)
  refine ⟨(x - w, y - w), ms2, ?_, by simp; omega, by simp; omega, by simp; omega, by simp; omega⟩
  rw [f__law_spot_eq]
  simp [runL, B__law_spot, m2, hx, hy, pD, show 2 ≤ sizeLine by decide]
theorem common_ok (a b : Int) {n : Nat} (hb : Sz n b) (hn : n ≤ 1000) : f__law_common [.int a, .int b] = .ok (.sh (.int (Nat.gcd a.natAbs b.natAbs : Nat))) := by
  obtain ⟨e', k1, ag, k2, k3⟩ := euclid (i := 0) (j := 1) (L := L__law_common_1) (by decide) (fun e => L__law_common_1_app e) n a.natAbs b.natAbs [.sh (.int a.natAbs), .sh (.int b.natAbs)] 1000000 (by simp) (by simp) rfl rfl hb (by omega)
  rw [f__law_common_eq]
  unfold runF B__law_common
  rw [seq_nx (e' := [.sh (.int a.natAbs), .sh (.int b.natAbs)]) (by simp), seq_nx k1]
  simp [-getElem?_pos, k2]
/-- a direction: no common divisor -/
def Dir (w : Nat) (d : Pt) : Prop := Nat.gcd d.1.natAbs d.2.natAbs = 1 ∧ d.1.natAbs ≤ w ∧ d.2.natAbs ≤ w
theorem Dir.ne {w : Nat} {d : Pt} (h : Dir w d) : d ≠ (0, 0) := fun z => by
  have := h.1
  rw [z] at this
  cases this
theorem Dir.pz {w : Nat} {d : Pt} (h : Dir w d) (hw : w ≤ 20) : Pz 5 d := ⟨Sz.of (k := 21) (by have := h.2.1; omega) (by decide), Sz.of (k := 21) (by have := h.2.2; omega) (by decide)⟩
theorem direction_ok (ms : List Int) (w : Nat) (h1 : 1 ≤ w) (hw : w ≤ 1000) : ∃ (d : Pt) (ms' : List Int), f__law_direction (iL ms) [.int w] = .ok (.sh (pD d)) (iL ms') ∧ Dir w d := by
  obtain ⟨⟨x, y⟩, ms1, hx, x0, x1, y0, y1⟩ := spot_ok ms w hw
  simp only at x0 x1 y0 y1
  -- behind the exchange of nought
  obtain ⟨x', hx', x2, x3⟩ : ∃ x' : Int, ((seqF (ifF (andF (boolF (binF eqG (readF 2) (constF (.int 0)))) (boolF (binF eqG (readF 3) (constF (.int 0))))) (setF 2 (constF (.int 1))) (skipF))
    (seqF (setF 4 (callF 2 f__law_common (consF (readF 2) (consF (readF 3) (nilF)))))
    (retF (tupF (consF (binF fdivG (readF 2) (readF 4)) (consF (binF fdivG (readF 3) (readF 4)) (nilF)))))) : Mo Out) [.own (some 0) (iL ms1), .sh (.int w), .sh (.int x), .sh (.int y), .un] =
      ((seqF (setF 4 (callF 2 f__law_common (consF (readF 2) (consF (readF 3) (nilF)))))
    (retF (tupF (consF (binF fdivG (readF 2) (readF 4)) (consF (binF fdivG (readF 3) (readF 4)) (nilF)))))) : Mo Out) [.own (some 0) (iL ms1), .sh (.int w), .sh (.int x'), .sh (.int y), .un]) ∧ x'.natAbs ≤ w ∧ (x' ≠ 0 ∨ y ≠ 0) := by
    by_cases hx0 : x = 0
    · by_cases hy0 : y = 0
      · exact ⟨1, by subst hx0 hy0; rw [seq_nx]; simp [eqG_int], by omega, .inl (by omega)⟩
      · exact ⟨x, by rw [seq_nx]; simp [eqG_int, hx0, hy0], by omega, .inr hy0⟩
    · exact ⟨x, by rw [seq_nx]; simp [eqG_int, hx0], by omega, .inl hx0⟩
  have hc := common_ok x' y (n := 10) (Sz.of (k := 1001) (by omega) (by decide)) (by decide)
  have hG : 0 < Nat.gcd x'.natAbs y.natAbs := by
    rcases x3 with h | h
    · exact Nat.gcd_pos_of_pos_left _ (by omega)
    · exact Nat.gcd_pos_of_pos_right _ (by omega)
  have d1 : (Nat.gcd x'.natAbs y.natAbs : Int) ∣ x' := Int.ofNat_dvd_left.mpr (Nat.gcd_dvd_left _ _)
  have d2 : (Nat.gcd x'.natAbs y.natAbs : Int) ∣ y := Int.ofNat_dvd_left.mpr (Nat.gcd_dvd_right _ _)
  obtain ⟨a, ha⟩ := d1
  obtain ⟨b, hb⟩ := d2
  have e1 : x'.natAbs = Nat.gcd x'.natAbs y.natAbs * a.natAbs := by
    conv => lhs; rw [ha]
    rw [Int.natAbs_mul, Int.natAbs_natCast]
  have e2 : y.natAbs = Nat.gcd x'.natAbs y.natAbs * b.natAbs := by
    conv => lhs; rw [hb]
    rw [Int.natAbs_mul, Int.natAbs_natCast]
  have co : Nat.gcd a.natAbs b.natAbs = 1 := by
    have key : Nat.gcd (Nat.gcd x'.natAbs y.natAbs * a.natAbs) (Nat.gcd x'.natAbs y.natAbs * b.natAbs) = Nat.gcd x'.natAbs y.natAbs := by rw [← e1, ← e2]
    rw [Nat.gcd_mul_left] at key
    exact Nat.eq_of_mul_eq_mul_left hG (by rw [Nat.mul_one]; exact key)
  have gle : Nat.gcd x'.natAbs y.natAbs ≤ 1000 := by
    rcases x3 with h | h
    · exact Nat.le_trans (Nat.gcd_le_left _ (by omega)) (by omega)
    · exact Nat.le_trans (Nat.gcd_le_right _ (by omega)) (by omega)
  have l1 : a.natAbs ≤ x'.natAbs := by rw [e1]; exact Nat.le_mul_of_pos_left _ hG
  have l2 : b.natAbs ≤ y.natAbs := by rw [e2]; exact Nat.le_mul_of_pos_left _ hG
  generalize Nat.gcd x'.natAbs y.natAbs = G at *
  have f1 : fdivG (.int x') (.int G) = some (.sh (.int a)) := by
    rw [fdivG_small (by omega) (by omega), ha, Int.mul_comm, Int.mul_fdiv_cancel _ (by omega)]
  have f2 : fdivG (.int y) (.int G) = some (.sh (.int b)) := by
    rw [fdivG_small (by omega) (by omega), hb, Int.mul_comm, Int.mul_fdiv_cancel _ (by omega)]
  refine ⟨(a, b), ms1, ?_, co, by show a.natAbs ≤ w; omega, by show b.natAbs ≤ w; omega⟩
  rw [f__law_direction_eq]
  unfold runL B__law_direction
  rw [seq_nx (e' := [.own (some 0) (iL ms1), .sh (.int w), .sh (.int x), .sh (.int y), .un]) (by simp [hx, pD]), hx']
  simp [hc, f1, f2, pD, show 2 ≤ sizeLine by decide]
/-! directions told by the program -/
theorem is_direction_ok {d : Pt} (h : Dir 20 d) : f_is_direction [pD d] = .ok (.sh (.bool true)) := by
  have hz : Z_is_direction_1 [.sh (pD d)] = .ok true [.sh (pD d)] := by
    rw [Z_is_direction_1_app]
    have := all_one (v := 0) (ixs := []) (m := 1) (Io := pkI (readF 0)) (B := boolF (callF 3 f_is_number (consF (readF 0) (consF (unF negG (constF (.int 20))) (consF (constF (.int 20)) (nilF)))))) (e := [.sh (pD d)]) (e' := [.sh (pD d)]) (ds := [.int d.1, .int d.2]) (fun d => isNum d (-20) 20) (by simp [pD]) rfl
      (fun d _ => by simp [capE, is_number_ok])
    have a : ([.int d.1, .int d.2] : List PyData).all (fun d => isNum d (-20) 20) = true := by
      have := h.2.1
      have := h.2.2
      simp [isNum]
      omega
    rw [a] at this
    exact this
  have n2 : neG (.int 2) (.int 2) = some (.sh (.bool false)) := by rw [neG_int]; rfl
  simp only [pD] at hz
  have g := h.1
  simp [f_is_direction_eq, B_is_direction, runF, pD, at0, at1, n2, hz, g, eqG_int]
/-! ### spots, sights -/
def isSpot : PyData → Bool
  | .tuple [a, b] => isNum a (-100) 100 && isNum b (-100) 100
  | _ => false
theorem is_spot_ok (d : PyData) : f_is_spot [d] = .ok (.sh (.bool (isSpot d))) := by
  rw [f_is_spot_eq]
  have hz : ∀ ds : List PyData, Z_is_spot_1 [.sh (.tuple ds)] = .ok (ds.all fun d => isNum d (-100) 100) [.sh (.tuple ds)] := fun ds => by
    rw [Z_is_spot_1_app]
    exact all_one (v := 0) (ixs := []) (m := 1) (Io := pkI (readF 0)) (B := boolF (callF 3 f_is_number (consF (readF 0) (consF (unF negG (constF (.int 100))) (consF (constF (.int 100)) (nilF)))))) (e := [.sh (.tuple ds)]) (e' := [.sh (.tuple ds)]) (ds := ds) (fun d => isNum d (-100) 100) (by simp) rfl
      (fun d _ => by simp [capE, is_number_ok])
  cases d with
  | tuple ds =>
    have z := hz ds
    match ds, z with
    | [a, b], z =>
      simp only [List.all_cons, List.all_nil, Bool.and_true] at z
      simp [B_is_spot, runF, neG_int, z, isSpot]
    | [], z => simp [B_is_spot, runF, neG_int, isSpot]
    | [a], z => simp [B_is_spot, runF, neG_int, isSpot]
    | a :: b :: c :: ds, z =>
      have ne : ¬ ((ds.length : Int) + 1 + 1 + 1 = 2) := by omega
      simp [B_is_spot, runF, neG_int, isSpot, ne]
  | _ => simp [B_is_spot, runF, isSpot]
theorem isSpot_pD {p : Pt} (h1 : -100 ≤ p.1 ∧ p.1 ≤ 100) (h2 : -100 ≤ p.2 ∧ p.2 ≤ 100) : isSpot (pD p) = true := by
  simp [isSpot, pD, isNum]
  omega
structure SiOk (s : Si) : Prop where
  x : -100 ≤ s.l.1 ∧ s.l.1 ≤ 100
  y : -100 ≤ s.l.2 ∧ s.l.2 ≤ 100
  d : Dir 20 s.d
theorem is_sight_ok {s : Si} (h : SiOk s) : f_is_sight [sD s] = .ok (.sh (.bool true)) := by
  have a := is_spot_ok (pD s.l)
  rw [isSpot_pD h.x h.y] at a
  have b := is_direction_ok h.d
  simp [f_is_sight_eq, B_is_sight, runF, sD, at0, at1, eqG_int, a, b]
theorem no_sight_none : f_is_sight [.none] = .ok (.sh (.bool false)) := by
  simp [f_is_sight_eq, B_is_sight, runF]
theorem no_sight_one (d : PyData) : f_is_sight [.tuple [d]] = .ok (.sh (.bool false)) := by
  simp [f_is_sight_eq, B_is_sight, runF, eqG_int]
theorem at2 {α : Type} {x y z : α} {xs : List α} : atI (x :: y :: z :: xs) 2 = some z := by
  rw [atI_nat (by omega) (by simp only [List.length_cons]; omega)]
  rfl
theorem along_ok {s t : Si} {n m : Nat} (hs : Pz n s.d) (ht : Pz m t.d) (h : n + m ≤ 1000) : f_are_along [sD s, sD t] = .ok (.sh (.bool (decide (cro s.d t.d = 0)))) := by
  simp [f_are_along_eq, B_are_along, runF, sD, at1, right_hand_ok hs ht h, eqG_int]
theorem run_ok {s t : Si} (hs : SiOk s) (ht : SiOk t) (w : PyData) : f_is_run [.tuple [sD s, w, sD t]] = .ok (.sh (.bool (isSpot w && !decide (cro s.d t.d = 0)))) := by
  have a := is_sight_ok hs
  have b := is_sight_ok ht
  have c := is_spot_ok w
  have d := along_ok (hs.d.pz (by decide)) (ht.d.pz (by decide)) (by decide)
  cases hw : isSpot w with
  | true =>
    rw [hw] at c
    simp [f_is_run_eq, B_is_run, runF, at0, at1, at2, neG_int, a, b, c, d]
  | false =>
    rw [hw] at c
    simp [f_is_run_eq, B_is_run, runF, at0, at1, at2, neG_int, a, b, c, d]
theorem no_run_len {ds : List PyData} (h : ds.length ≠ 3) : f_is_run [.tuple ds] = .ok (.sh (.bool false)) := by
  have : ¬ ((ds.length : Int) = 3) := by omega
  simp [f_is_run_eq, B_is_run, runF, neG_int, this]
theorem no_run_first {d w t : PyData} (h : f_is_sight [d] = .ok (.sh (.bool false))) : f_is_run [.tuple [d, w, t]] = .ok (.sh (.bool false)) := by
  simp [f_is_run_eq, B_is_run, runF, at0, neG_int, h]
theorem no_run_last {s : Si} {w t : PyData} (hs : SiOk s) (h : f_is_sight [t] = .ok (.sh (.bool false))) : f_is_run [.tuple [sD s, w, t]] = .ok (.sh (.bool false)) := by
  simp [f_is_run_eq, B_is_run, runF, at0, at2, neG_int, is_sight_ok hs, h]
end Lw
namespace Lw
open PySem Cf L2
def stp (s t : Si) : Int := cro (t.l.1 - s.l.1, t.l.2 - s.l.2) t.d
def crM (s t : Si) : Pl := (Rat.divInt (s.l.1 * cro s.d t.d + stp s t * s.d.1) (cro s.d t.d), Rat.divInt (s.l.2 * cro s.d t.d + stp s t * s.d.2) (cro s.d t.d))
def crD (s t : Si) : PyData := if fitM (crM s t) s && fitM (crM s t) t then plD (crM s t) else .none
section
variable {s t : Si} (hs : Siz 9 s) (ht : Siz 9 t) (hw : cro s.d t.d ≠ 0)
include hs ht hw
theorem cr_rz : Plz 30 (crM s t) := by
  have w := hs.d.cro ht.d
  have st : Sz 16 (stp s t) := Pz.cro (a := (t.l.1 - s.l.1, t.l.2 - s.l.2)) ⟨ht.l.x.sub hs.l.x, ht.l.y.sub hs.l.y⟩ ht.d
  refine ⟨Rz.low hw ?_ (w.mono (by decide)), Rz.low hw ?_ (w.mono (by decide))⟩
  · exact (Sz.add ((hs.l.x.mul w).mono (m := 21) (by decide)) (st.mul hs.d.x)).mono (by decide)
  · exact (Sz.add ((hs.l.y.mul w).mono (m := 21) (by decide)) (st.mul hs.d.y)).mono (by decide)
theorem crossing_ok : f_crossing_of [sD s, sD t] = .ok (.sh (crD s t)) := by
  have w := hs.d.cro ht.d
  have ap : Pz 10 (t.l.1 - s.l.1, t.l.2 - s.l.2) := ⟨ht.l.x.sub hs.l.x, ht.l.y.sub hs.l.y⟩
  have st : Sz 16 (stp s t) := ap.cro ht.d
  have r1 := right_hand_ok hs.d ht.d (by decide)
  have r2 := right_hand_ok ap ht.d (by decide)
  rw [show cro (t.l.1 - s.l.1, t.l.2 - s.l.2) t.d = stp s t from rfl] at r2
  have l1 := low_ok 30 (s.l.1 * cro s.d t.d + stp s t * s.d.1) _ hw (w.mono (by decide)) (by decide)
  have l2 := low_ok 30 (s.l.2 * cro s.d t.d + stp s t * s.d.2) _ hw (w.mono (by decide)) (by decide)
  have m1 := mulG_sz hs.l.x w (by decide)
  have m2 := mulG_sz hs.l.y w (by decide)
  have m3 := mulG_sz st hs.d.x (by decide)
  have m4 := mulG_sz st hs.d.y (by decide)
  have f1 := fits_ok (p := crM s t) (s := s) ⟨(cr_rz hs ht hw).x.mono (by decide), (cr_rz hs ht hw).y.mono (by decide)⟩ ⟨⟨hs.l.x.mono (by decide), hs.l.y.mono (by decide)⟩, hs.d⟩
  have f2 := fits_ok (p := crM s t) (s := t) ⟨(cr_rz hs ht hw).x.mono (by decide), (cr_rz hs ht hw).y.mono (by decide)⟩ ⟨⟨ht.l.x.mono (by decide), ht.l.y.mono (by decide)⟩, ht.d⟩
  have z2 : 2 ≤ sizeLine := by decide
  have hz : ∀ a : PyData, Z_crossing_of_1 [.sh (sD s), .sh (sD t), .sh a, .un, .sh (.int (stp s t)), .sh (.int (cro s.d t.d))] = .ok (.sh (plD (crM s t))) [.sh (sD s), .sh (sD t), .sh a, .un, .sh (.int (stp s t)), .sh (.int (cro s.d t.d))] := fun a => by
    rw [Z_crossing_of_1_app]
    refine tup_tab [(.int 0, rD (crM s t).1), (.int 1, rD (crM s t).2)] (range_two rfl) (by simp [capE]) z2 (by simp [noLst, noLsts, rD]) fun d hd => ?_
    simp only [List.mem_cons, List.not_mem_nil, or_false] at hd
    rcases hd with rfl | rfl
    · simp [capE, frz1, sD, pD, at0, at1, m1, m3, l1, crM]
    · simp [capE, frz1, sD, pD, at0, at1, m2, m4, l2, crM]
  rw [f_crossing_of_eq]
  unfold runF B_crossing_of
  rw [seq_nx (e' := [.sh (sD s), .sh (sD t), .un, .un, .un, .sh (.int (cro s.d t.d))]) (by simp [sD, at0, at1, r1])]
  rw [seq_nx (e' := [.sh (sD s), .sh (sD t), .sh (pD (t.l.1 - s.l.1, t.l.2 - s.l.2)), .un, .un, .sh (.int (cro s.d t.d))]) (by simp [sD, pD, at0, at1, z2])]
  rw [seq_nx (e' := [.sh (sD s), .sh (sD t), .sh (pD (t.l.1 - s.l.1, t.l.2 - s.l.2)), .un, .sh (.int (stp s t)), .sh (.int (cro s.d t.d))]) (by simp [sD, at0, at1]; rw [r2]; simp)]
  rw [seq_nx (set_sh (hz _))]
  unfold crD
  cases g1 : fitM (crM s t) s with
  | false =>
    rw [g1] at f1
    simp [f1]
  | true =>
    rw [g1] at f1
    cases g2 : fitM (crM s t) t with
    | false => rw [g2] at f2; simp [f1, f2]
    | true => rw [g2] at f2; simp [f1, f2]
end
/-! ### runs -/
def mv (s : Si) (w : Pt) : Si := ⟨(s.l.1 + w.1, s.l.2 + w.2), s.d⟩
theorem run_fix_ok {s t : Si} {w : Pt} (hs : Siz 9 (mv s w)) (ht : Siz 9 t) (hw : cro s.d t.d ≠ 0) : f_run_fix [.tuple [sD s, pD w, sD t]] = .ok (.sh (crD (mv s w) t)) := by
  have c := crossing_ok hs ht hw
  simp only [sD, mv, pD] at c
  have z2 : 2 ≤ sizeLine := by decide
  have z3 : 3 ≤ sizeLine := by decide
  simp [f_run_fix_eq, B_run_fix, runF, sD, pD, at0, at1, z2, z3, c, mv]
/-! ### the law's own -/
def lfM (p : Pl) (s : Si) : Prop := if s.d.1 = 0 then 0 < vy p s / s.d.2 ∧ vx p s = 0 else 0 < vx p s / s.d.1 ∧ vx p s / s.d.1 * s.d.2 = vy p s
theorem sqr_pos {b : Rat} (hb : b ≠ 0) : 0 < b * b := by
  have h : b < 0 ∨ 0 < b := by grind
  rcases h with z | z
  · have := Rat.mul_pos (a := -b) (b := -b) (by grind) (by grind)
    grind
  · exact Rat.mul_pos z z
theorem div_pos {a b : Rat} (hb : b ≠ 0) (hab : 0 < a * b) : 0 < a / b := by
  have : a / b = (a * b) / (b * b) := by grind
  rw [this, Rat.div_def]
  exact Rat.mul_pos hab (Rat.inv_pos.mpr (sqr_pos hb))
theorem fit_far {p : Pl} {s : Si} (h : fitM p s = true) : (s.d.1 ≠ 0 → 0 < vx p s / s.d.1 ∧ vx p s / s.d.1 * s.d.2 = vy p s) ∧ (s.d.1 = 0 → s.d.2 ≠ 0 ∧ 0 < vy p s / s.d.2 ∧ vx p s = 0) := by
  unfold fitM at h
  simp only [Bool.and_eq_true, Bool.or_eq_true, decide_eq_true_eq] at h
  obtain ⟨h1, h2⟩ := h
  refine ⟨fun hx => ?_, fun hx => ?_⟩
  · have hx' : (s.d.1 : Rat) ≠ 0 := fun z => hx (by exact_mod_cast z)
    have e : vx p s / s.d.1 * s.d.2 = vy p s := by grind
    refine ⟨?_, e⟩
    rcases h2 with h2 | h2
    · exact div_pos hx' h2
    · refine div_pos hx' ?_
      have hy' : (s.d.2 : Rat) ≠ 0 := fun z => by rw [z, Rat.mul_zero] at h2; exact absurd h2 (by decide)
      have k := div_pos hy' h2
      have e2 : vx p s = vy p s / s.d.2 * s.d.1 := by grind
      rw [e2]
      have := Rat.mul_pos k (sqr_pos hx')
      grind
  · have hx' : (s.d.1 : Rat) = 0 := by exact_mod_cast hx
    rw [hx'] at h1 h2
    rw [Rat.mul_zero] at h1 h2
    rcases h2 with h2 | h2
    · exact absurd h2 (by decide)
    · have hy' : (s.d.2 : Rat) ≠ 0 := fun z => by rw [z, Rat.mul_zero] at h2; exact absurd h2 (by decide)
      refine ⟨fun z => hy' (by exact_mod_cast z), div_pos hy' h2, ?_⟩
      grind
theorem low_div {q : Rat} {n : Nat} {d : Int} (hq : Rz n q) (hd : Sz 5 d) (h0 : d ≠ 0) (hn : n ≤ 1000) : f__law_lowest [.int q.num, .int (q.den * d)] = .ok (.sh (rD (q / d))) := by
  have hne : (q.den : Int) * d ≠ 0 := Int.mul_ne_zero (den_ne q) h0
  have l := llow_ok (n + 5) q.num _ hne (hq.den.mul hd) (by omega)
  rw [l]
  congr 3
  rw [Rat.divInt_eq_div, Rat.intCast_mul]
  have h1 : (q.den : Rat) ≠ 0 := by exact_mod_cast q.den_nz
  have h2 : (d : Rat) ≠ 0 := by exact_mod_cast h0
  have h3 : q = (q.num : Rat) / ((q.den : Nat) : Rat) := by
    conv => lhs; rw [← Rat.num_divInt_den q]
    rw [Rat.divInt_eq_div]
    rfl
  have h4 : (((q.den : Nat) : Int) : Rat) = ((q.den : Nat) : Rat) := rfl
  rw [h4]
  conv => rhs; rw [h3]
  grind
theorem law_fits_ok {p : Pl} {s : Si} (hp : Plz 50 p) (hs : Siz 10 s) (h : fitM p s = true) : f__law_fits [plD p, sD s] = .ok (.sh (.bool true)) := by
  have dx : Rz 5 (s.d.1 : Rat) := Rz.int hs.d.x (by decide)
  have dy : Rz 5 (s.d.2 : Rat) := Rz.int hs.d.y (by decide)
  have x : Rz 61 (vx p s) := (Rz.int hs.l.x (by decide)).sub hp.x
  have y : Rz 61 (vy p s) := (Rz.int hs.l.y (by decide)).sub hp.y
  have m1 := lminus_ok (Rz.int hs.l.x (by decide)) hp.x (by decide)
  have m2 := lminus_ok (Rz.int hs.l.y (by decide)) hp.y (by decide)
  rw [show ((s.l.1 : Int) : Rat) - p.1 = vx p s from rfl] at m1
  rw [show ((s.l.2 : Int) : Rat) - p.2 = vy p s from rfl] at m2
  rw [rD_int] at m1 m2
  obtain ⟨f1, f2⟩ := fit_far h
  have z2 : 2 ≤ sizeLine := by decide
  have inv : ∀ {d : Int}, Sz 5 d → d ≠ 0 → Rz 5 (1 / (d : Rat)) := fun {d} hd h0 => by
    have := Rz.low (p := 1) (w := d) h0 (by unfold Sz; decide) hd
    rw [Rat.divInt_eq_div] at this
    exact this
  have div : ∀ {q : Rat} {d : Int}, Rz 61 q → Sz 5 d → d ≠ 0 → Rz 66 (q / d) := fun {q d} hq hd h0 => by
    have := hq.mul (inv hd h0)
    rw [show q * (1 / (d : Rat)) = q / d by grind] at this
    exact this
  have pos : ∀ {q : Rat}, 0 < q → 0 < q.num := fun {q} hq => Rat.intCast_pos.mp hq
  by_cases hx : s.d.1 = 0
  · obtain ⟨hy, p1, v0⟩ := f2 hx
    have ld := low_div y hs.d.y hy (by decide)
    have t1 := ltimes_ok (div y hs.d.y hy) dx (by decide)
    have t2 := ltimes_ok (div y hs.d.y hy) dy (by decide)
    have e1 : vy p s / s.d.2 * s.d.1 = vx p s := by
      rw [hx, v0]; grind
    have e2 : vy p s / s.d.2 * s.d.2 = vy p s := by
      have : (s.d.2 : Rat) ≠ 0 := by exact_mod_cast hy
      grind
    rw [e1] at t1
    rw [e2] at t2
    have g1 := eqG_rD (vx p s) (vx p s)
    have g2 := eqG_rD (vy p s) (vy p s)
    have mm := mulG_sz y.den hs.d.y (by decide)
    have gt := pos p1
    rw [rD_int] at t1 t2
    generalize vx p s = X at *
    generalize vy p s = Y at *
    have hr : rD (Y / (s.d.2 : Rat)) = .tuple [.int (Y / (s.d.2 : Rat)).num, .int (Y / (s.d.2 : Rat)).den] := rfl
    rw [hr] at t1 t2
    rw [f__law_fits_eq ]
    unfold runF B__law_fits
    rw [seq_nx (e' := [.sh (plD p), .sh (sD s), .sh (.int s.l.1), .sh (.int s.l.2), .sh (.int s.d.1), .sh (.int s.d.2), .un, .un, .un]) (by simp [sD, pD])]
    rw [seq_nx (e' := [.sh (plD p), .sh (sD s), .sh (.int s.l.1), .sh (.int s.l.2), .sh (.int s.d.1), .sh (.int s.d.2), .sh (rD X), .sh (rD Y), .un]) (by simp [plD, at0, at1, m1, m2, z2])]
    rw [seq_nx (e' := [.sh (plD p), .sh (sD s), .sh (.int s.l.1), .sh (.int s.l.2), .sh (.int s.d.1), .sh (.int s.d.2), .sh (rD X), .sh (rD Y), .sh (rD (Y / s.d.2))]) (by
      have n0 : neG (.int s.d.1) (.int 0) = some (.sh (.bool false)) := by rw [neG_int, hx]; rfl
      simp [rD, at_num, at_den, mm, ld, n0])]
    rw [hr]
    simp [t1, t2, g1, g2, z2, at_num, gt]
  · obtain ⟨p1, v0⟩ := f1 hx
    have ld := low_div x hs.d.x hx (by decide)
    have t1 := ltimes_ok (div x hs.d.x hx) dx (by decide)
    have t2 := ltimes_ok (div x hs.d.x hx) dy (by decide)
    have e1 : vx p s / s.d.1 * s.d.1 = vx p s := by
      have : (s.d.1 : Rat) ≠ 0 := by exact_mod_cast hx
      grind
    rw [e1] at t1
    rw [v0] at t2
    have g1 := eqG_rD (vx p s) (vx p s)
    have g2 := eqG_rD (vy p s) (vy p s)
    have mm := mulG_sz x.den hs.d.x (by decide)
    have gt := pos p1
    rw [rD_int] at t1 t2
    generalize vx p s = X at *
    generalize vy p s = Y at *
    have hr : rD (X / (s.d.1 : Rat)) = .tuple [.int (X / (s.d.1 : Rat)).num, .int (X / (s.d.1 : Rat)).den] := rfl
    rw [hr] at t1 t2
    rw [f__law_fits_eq ]
    unfold runF B__law_fits
    rw [seq_nx (e' := [.sh (plD p), .sh (sD s), .sh (.int s.l.1), .sh (.int s.l.2), .sh (.int s.d.1), .sh (.int s.d.2), .un, .un, .un]) (by simp [sD, pD])]
    rw [seq_nx (e' := [.sh (plD p), .sh (sD s), .sh (.int s.l.1), .sh (.int s.l.2), .sh (.int s.d.1), .sh (.int s.d.2), .sh (rD X), .sh (rD Y), .un]) (by simp [plD, at0, at1, m1, m2, z2])]
    rw [seq_nx (e' := [.sh (plD p), .sh (sD s), .sh (.int s.l.1), .sh (.int s.l.2), .sh (.int s.d.1), .sh (.int s.d.2), .sh (rD X), .sh (rD Y), .sh (rD (X / s.d.1))]) (by
      have n0 : neG (.int s.d.1) (.int 0) = some (.sh (.bool true)) := by rw [neG_int]; simp [hx]
      simp [rD, at_num, at_den, mm, ld, n0])]
    rw [hr]
    simp [t1, t2, g1, g2, z2, at_num, gt]
end Lw
namespace Lw
open PySem Cf L2
theorem quo {x y : Int} (h : x ≠ 0 ∨ y ≠ 0) (hx : x.natAbs ≤ 2000) (hy : y.natAbs ≤ 2000) : ∃ (a b : Int) (g : Nat), Nat.gcd x.natAbs y.natAbs = g ∧ 0 < g ∧ g ≤ 2000 ∧ x = g * a ∧ y = g * b ∧ Nat.gcd a.natAbs b.natAbs = 1 ∧
    fdivG (.int x) (.int g) = some (.sh (.int a)) ∧ fdivG (.int y) (.int g) = some (.sh (.int b)) := by
  have hG : 0 < Nat.gcd x.natAbs y.natAbs := by
    rcases h with h | h
    · exact Nat.gcd_pos_of_pos_left _ (by omega)
    · exact Nat.gcd_pos_of_pos_right _ (by omega)
  have d1 : (Nat.gcd x.natAbs y.natAbs : Int) ∣ x := Int.ofNat_dvd_left.mpr (Nat.gcd_dvd_left _ _)
  have d2 : (Nat.gcd x.natAbs y.natAbs : Int) ∣ y := Int.ofNat_dvd_left.mpr (Nat.gcd_dvd_right _ _)
  obtain ⟨a, ha⟩ := d1
  obtain ⟨b, hb⟩ := d2
  have e1 : x.natAbs = Nat.gcd x.natAbs y.natAbs * a.natAbs := by
    conv => lhs; rw [ha]
    rw [Int.natAbs_mul, Int.natAbs_natCast]
  have e2 : y.natAbs = Nat.gcd x.natAbs y.natAbs * b.natAbs := by
    conv => lhs; rw [hb]
    rw [Int.natAbs_mul, Int.natAbs_natCast]
  have co : Nat.gcd a.natAbs b.natAbs = 1 := by
    have key : Nat.gcd (Nat.gcd x.natAbs y.natAbs * a.natAbs) (Nat.gcd x.natAbs y.natAbs * b.natAbs) = Nat.gcd x.natAbs y.natAbs := by rw [← e1, ← e2]
    rw [Nat.gcd_mul_left] at key
    exact Nat.eq_of_mul_eq_mul_left hG (by rw [Nat.mul_one]; exact key)
  have gle : Nat.gcd x.natAbs y.natAbs ≤ 2000 := by
    rcases h with h | h
    · exact Nat.le_trans (Nat.gcd_le_left _ (by omega)) (by omega)
    · exact Nat.le_trans (Nat.gcd_le_right _ (by omega)) (by omega)
  refine ⟨a, b, _, rfl, hG, gle, ha, hb, co, ?_, ?_⟩
  · generalize Nat.gcd x.natAbs y.natAbs = G at *
    rw [fdivG_small (by omega) (by omega), ha, Int.mul_comm, Int.mul_fdiv_cancel _ (by omega)]
  · generalize Nat.gcd x.natAbs y.natAbs = G at *
    rw [fdivG_small (by omega) (by omega), hb, Int.mul_comm, Int.mul_fdiv_cancel _ (by omega)]
theorem eq_pair (x y a b : Int) : eqG (.tuple [.int x, .int y]) (.tuple [.int a, .int b]) = some (.sh (.bool (decide (x = a ∧ y = b)))) := by
  have pp : ∀ a b : Int, Plain 1 (.tuple [.int a, .int b]) := fun a b => .tup fun d hd => by simp at hd; rcases hd with rfl | rfl <;> exact .int _
  rw [eqG_plain (pp x y) (pp a b) (by decide)]
  simp
theorem from_ok (ms : List Int) (s : Pt) : ∃ (ms' : List Int) (m : Nat) (d : Pt), f__law_from (iL ms) [pD s] = .ok (.sh (sD ⟨(s.1 + m * d.1, s.2 + m * d.2), d⟩)) (iL ms') ∧ 1 ≤ m ∧ m ≤ 5 ∧ Dir 9 d := by
  obtain ⟨d, ms1, hd, di⟩ := direction_ok ms 9 (by decide) (by decide)
  obtain ⟨r, ms2, hr, r0, r1⟩ := tk ms1 5 (by decide)
  obtain ⟨n, rfl⟩ : ∃ n : Nat, r = n := ⟨r.toNat, by omega⟩
  refine ⟨ms2, 1 + n, d, ?_, by omega, by omega, di⟩
  have m1 : mulG (.int (1 + (n : Int))) (.int d.1) = some (.sh (.int ((1 + (n : Int)) * d.1))) := mulG_sz (n := 4) (Sz.of (k := 16) (by omega) (by decide)) (di.pz (by decide)).x (by decide)
  have m2 : mulG (.int (1 + (n : Int))) (.int d.2) = some (.sh (.int ((1 + (n : Int)) * d.2))) := mulG_sz (n := 4) (Sz.of (k := 16) (by omega) (by decide)) (di.pz (by decide)).y (by decide)
  have z2 : 2 ≤ sizeLine := by decide
  have hd' := hd
  rw [show ((9 : Nat) : Int) = 9 from rfl] at hd'
  rw [f__law_from_eq]
  unfold runL B__law_from
  rw [seq_nx (e' := [.own (some 0) (iL ms2), .sh (pD s), .sh (pD d), .sh (.int (1 + (n : Int)))]) (by simp [hd', hr])]
  simp [pD, sD, at0, at1, m1, m2, z2]
def sgE (ms : List Int) (w : Int) (s : Pt) (ss : List Si) (r : List Sl) : Fv := [.own (some 0) (iL ms), .sh (.int 2), .sh (.int w), .sh (pD s), .own none (ss.map sD)] ++ r
theorem sight_turn {ms : List Int} {w : Nat} {s : Pt} {ss : List Si} {k : Int} {x6 x7 x8 x9 : Sl} (w1 : 1 ≤ w) (w2 : w ≤ 100) (hs1 : -(w : Int) ≤ s.1 ∧ s.1 ≤ w) (hs2 : -(w : Int) ≤ s.2 ∧ s.2 ≤ w) (hl : ss.length ≤ 10) :
    ∃ (ms' : List Int) (t : Si) (y6 y7 y8 y9 : Sl), L__law_sights_1 (sgE ms w s ss [.sh (.int k), x6, x7, x8, x9]) = .ok .nx (sgE ms' w s (ss ++ [t]) [.sh (.int k), y6, y7, y8, y9]) ∧ SiOk t := by
  obtain ⟨l, ms1, hp, l1, l2, l3, l4⟩ := spot_ok ms w (by omega)
  have z2 : 2 ≤ sizeLine := by decide
  have zs : ss.length + 1 ≤ sizeLine := by
    have : 1000 ≤ sizeLine := by decide
    omega
  have zs' : ss.length < sizeLine := by omega
  -- behind the choice
  obtain ⟨ms2, x, y, hxy, x0, y0, xy⟩ : ∃ (ms2 : List Int) (x y : Int), (∀ F : Mo Out, seqF (ifF (orF (boolF (binF eqG (tupF (consF (readF 7) (consF (readF 8) (nilF)))) (tupF (consF (constF (.int 0)) (consF (constF (.int 0)) (nilF)))))) (boolF (binF eqG (callL 2 f__law_take 0 (consF (constF (.int 4)) (nilF))) (constF (.int 0))))) (setT (toTup 2 (toCons (toSlot 7) (toCons (toSlot 8) (toNil)))) (callL 2 f__law_direction 0 (consF (callBF min2G (consF (constF (.int 20)) (consF (readF 2) (nilF)))) (nilF)))) (skipF)) F
        (sgE ms1 w s ss [.sh (.int k), .sh (pD l), .sh (.int (l.1 - s.1)), .sh (.int (l.2 - s.2)), x9]) = F (sgE ms2 w s ss [.sh (.int k), .sh (pD l), .sh (.int x), .sh (.int y), x9])) ∧ x.natAbs ≤ 200 ∧ y.natAbs ≤ 200 ∧ (x ≠ 0 ∨ y ≠ 0) := by
    have dir : ∀ ms : List Int, ∃ (ms2 : List Int) (d : Pt), setT (toTup 2 (toCons (toSlot 7) (toCons (toSlot 8) (toNil)))) (callL 2 f__law_direction 0 (consF (callBF min2G (consF (constF (.int 20)) (consF (readF 2) (nilF)))) (nilF))) (sgE ms w s ss [.sh (.int k), .sh (pD l), .sh (.int (l.1 - s.1)), .sh (.int (l.2 - s.2)), x9])
        = .ok .nx (sgE ms2 w s ss [.sh (.int k), .sh (pD l), .sh (.int d.1), .sh (.int d.2), x9]) ∧ Dir 20 d := fun ms => by
      obtain ⟨d, ms2, hd, di⟩ := direction_ok ms (min 20 w) (by omega) (by omega)
      refine ⟨ms2, d, ?_, di.1, by have := di.2.1; omega, by have := di.2.2; omega⟩
      have hd' : f__law_direction (iL ms) [.int (min 20 (w : Int))] = .ok (.sh (pD d)) (iL ms2) := by
        rw [show (min 20 (w : Int)) = ((min 20 w : Nat) : Int) by omega]
        exact hd
      simp [sgE, hd', pD]
    by_cases h0 : l.1 - s.1 = 0 ∧ l.2 - s.2 = 0
    · obtain ⟨ms2, d, e, di⟩ := dir ms1
      refine ⟨ms2, d.1, d.2, fun F => ?_, by have := di.2.1; omega, by have := di.2.2; omega, ?_⟩
      · rw [seq_nx]
        rw [if_t, e]
        refine or_t (boolF_ok (b := true) ?_)
        simp [sgE, z2, eq_pair, h0]
      · have := di.ne
        by_cases q : d.1 = 0
        · exact .inr fun z => this (Prod.ext q z)
        · exact .inl q
    · obtain ⟨r, ms2, hr, r0, r1⟩ := tk ms1 4 (by decide)
      by_cases hr0 : r = 0
      · obtain ⟨ms3, d, e, di⟩ := dir ms2
        refine ⟨ms3, d.1, d.2, fun F => ?_, by have := di.2.1; omega, by have := di.2.2; omega, ?_⟩
        · rw [seq_nx]
          rw [if_t (e' := sgE ms2 w s ss [.sh (.int k), .sh (pD l), .sh (.int (l.1 - s.1)), .sh (.int (l.2 - s.2)), x9]), e]
          rw [or_f (e' := sgE ms1 w s ss [.sh (.int k), .sh (pD l), .sh (.int (l.1 - s.1)), .sh (.int (l.2 - s.2)), x9])]
          · simp [sgE, hr, hr0, eqG_int]
          · refine boolF_ok ?_
            simp [sgE, z2, eq_pair, h0]
        · have := di.ne
          by_cases q : d.1 = 0
          · exact .inr fun z => this (Prod.ext q z)
          · exact .inl q
      · refine ⟨ms2, l.1 - s.1, l.2 - s.2, fun F => ?_, by omega, by omega, by omega⟩
        rw [seq_nx]
        rw [if_f (e' := sgE ms2 w s ss [.sh (.int k), .sh (pD l), .sh (.int (l.1 - s.1)), .sh (.int (l.2 - s.2)), x9]), skip_ok]
        rw [or_f (e' := sgE ms1 w s ss [.sh (.int k), .sh (pD l), .sh (.int (l.1 - s.1)), .sh (.int (l.2 - s.2)), x9])]
        · simp [sgE, hr, hr0, eqG_int]
        · refine boolF_ok ?_
          simp [sgE, z2, eq_pair, h0]
  have hc := common_ok x y (n := 10) (Sz.of (k := 1001) (by omega) (by decide)) (by decide)
  obtain ⟨a, b, g, hg, g0, g1, ea, eb, co, f1, f2⟩ := quo xy (by omega) (by omega)
  rw [hg] at hc
  have mg : mulG (.int 20) (.int g) = some (.sh (.int (20 * g))) := mulG_left (by decide)
  have pre : ∀ F : Mo Out, seqF (setF 6 (callL 2 f__law_spot 0 (consF (readF 2) (nilF)))) (seqF (parF [7, 8] (consU (binF subG (binF itemG (readF 6) (constF (.int 0))) (binF itemG (readF 3) (constF (.int 0)))) (consU (binF subG (binF itemG (readF 6) (constF (.int 1))) (binF itemG (readF 3) (constF (.int 1)))) (nilF)))) F)
      (sgE ms w s ss [.sh (.int k), x6, x7, x8, x9]) = F (sgE ms1 w s ss [.sh (.int k), .sh (pD l), .sh (.int (l.1 - s.1)), .sh (.int (l.2 - s.2)), x9]) := fun F => by
    rw [seq_nx (e' := sgE ms1 w s ss [.sh (.int k), .sh (pD l), x7, x8, x9]) (by simp [sgE, hp, pD])]
    rw [seq_nx]
    simp [sgE, pD, at0, at1]
  rw [L__law_sights_1_app, pre, hxy]
  rw [seq_nx (e' := sgE ms2 w s ss [.sh (.int k), .sh (pD l), .sh (.int x), .sh (.int y), .sh (.int g)]) (by simp [sgE, hc])]
  by_cases hbig : max x.natAbs y.natAbs ≤ 20 * g
  · refine ⟨ms2, ⟨l, (a, b)⟩, .sh (pD l), .sh (.int x), .sh (.int y), .sh (.int g), ?_, ⟨by show -100 ≤ l.1 ∧ l.1 ≤ 100; omega, by show -100 ≤ l.2 ∧ l.2 ≤ 100; omega, co, ?_, ?_⟩⟩
    · rw [seq_nx (check_ok (e' := sgE ms2 w s ss [.sh (.int k), .sh (pD l), .sh (.int x), .sh (.int y), .sh (.int g)]) (boolF_ok (b := false) (by
        have : ¬ (20 * (g : Int) < max (x.natAbs : Int) y.natAbs) := by omega
        simp [sgE, mg]
        omega)))]
      simp [sgE, f1, f2, z2, zs, zs', sD, pD]
    · show a.natAbs ≤ 20
      rw [ea, Int.natAbs_mul, Int.natAbs_natCast] at hbig
      have : g * a.natAbs ≤ 20 * g := by omega
      exact Nat.le_of_mul_le_mul_left (by rw [Nat.mul_comm g 20]; exact this) g0
    · show b.natAbs ≤ 20
      rw [eb, Int.natAbs_mul, Int.natAbs_natCast] at hbig
      have : g * b.natAbs ≤ 20 * g := by omega
      exact Nat.le_of_mul_le_mul_left (by rw [Nat.mul_comm g 20]; exact this) g0
  · refine ⟨ms2, ⟨l, (1, 0)⟩, .sh (pD l), .sh (.int 1), .sh (.int 0), .sh (.int 1), ?_, ⟨by show -100 ≤ l.1 ∧ l.1 ≤ 100; omega, by show -100 ≤ l.2 ∧ l.2 ≤ 100; omega, show Dir 20 (1, 0) from ⟨by decide, by decide, by decide⟩⟩⟩
    rw [seq_nx (e' := sgE ms2 w s ss [.sh (.int k), .sh (pD l), .sh (.int 1), .sh (.int 0), .sh (.int 1)]) (by
      rw [if_t (e' := sgE ms2 w s ss [.sh (.int k), .sh (pD l), .sh (.int x), .sh (.int y), .sh (.int g)]) (boolF_ok (b := true) (by
        have : (20 * (g : Int) < max (x.natAbs : Int) y.natAbs) := by omega
        simp [sgE, mg]
        omega))]
      simp [sgE])]
    have q1 : fdivG (.int 1) (.int 1) = some (.sh (.int 1)) := fdivG_small (by decide) (by decide)
    have q0 : fdivG (.int 0) (.int 1) = some (.sh (.int 0)) := fdivG_small (by decide) (by decide)
    simp [sgE, q1, q0, z2, zs, zs', sD, pD]
theorem sights_ok (ms : List Int) (w : Nat) (w1 : 1 ≤ w) (w2 : w ≤ 100) : ∃ (ms' : List Int) (s t : Si) (sp : Pt), f__law_sights (iL ms) [.int 2, .int w] = .ok (.sh (.tuple [.tuple [sD s, sD t], pD sp])) (iL ms') ∧ SiOk s ∧ SiOk t := by
  obtain ⟨sp, ms1, hp, l1, l2, l3, l4⟩ := spot_ok ms w (by omega)
  obtain ⟨ms2, s, a6, a7, a8, a9, k1, so⟩ := sight_turn (ms := ms1) (s := sp) (ss := []) (k := 0) (x6 := .un) (x7 := .un) (x8 := .un) (x9 := .un) w1 w2 ⟨l1, l2⟩ ⟨l3, l4⟩ (by simp)
  obtain ⟨ms3, t, b6, b7, b8, b9, k2, to⟩ := sight_turn (ms := ms2) (s := sp) (ss := [s]) (k := 1) (x6 := a6) (x7 := a7) (x8 := a8) (x9 := a9) w1 w2 ⟨l1, l2⟩ ⟨l3, l4⟩ (by simp)
  have z2 : 2 ≤ sizeLine := by decide
  refine ⟨ms3, s, t, sp, ?_, so, to⟩
  have lp : forF (range1I (consF (readF 1) (nilF))) (toSlot 5) (L__law_sights_1) (sgE ms1 w sp [] [.un, .un, .un, .un, .un]) = .ok .nx (sgE ms3 w sp [s, t] [.sh (.int 1), b6, b7, b8, b9]) := by
    rw [for_ok (ds := rangeD 0 2) (e' := sgE ms1 w sp [] [.un, .un, .un, .un, .un]) (range1_ok (j := 2) (by simp [sgE]) (by decide) (by decide))]
    rw [show rangeD 0 2 = [.int 0, .int 1] from rfl]
    have t1 : thenU (toSlot 5 (.int 0)) L__law_sights_1 (sgE ms1 w sp [] [.un, .un, .un, .un, .un]) = .ok .nx (sgE ms2 w sp [s] [.sh (.int 0), a6, a7, a8, a9]) := k1
    have t2 : thenU (toSlot 5 (.int 1)) L__law_sights_1 (sgE ms2 w sp [s] [.sh (.int 0), a6, a7, a8, a9]) = .ok .nx (sgE ms3 w sp [s, t] [.sh (.int 1), b6, b7, b8, b9]) := k2
    rw [loop_nx t1, loop_nx t2, loop_end]
  rw [f__law_sights_eq]
  unfold runL B__law_sights
  rw [seq_nx (e' := sgE ms1 w sp [] [.un, .un, .un, .un, .un]) (by simp [hp, sgE]), seq_nx lp]
  simp [sgE, z2, pD]
end Lw
namespace Lw
open PySem Cf L2
theorem SiOk.z {s : Si} (h : SiOk s) : Siz 9 s := ⟨⟨Sz.of (k := 101) (by have := h.x; omega) (by decide), Sz.of (k := 101) (by have := h.y; omega) (by decide)⟩, h.d.pz (by decide)⟩
theorem mv_z {s : Si} {w : Pt} (h : SiOk s) (h1 : -100 ≤ w.1 ∧ w.1 ≤ 100) (h2 : -100 ≤ w.2 ∧ w.2 ≤ 100) : Siz 9 (mv s w) :=
  ⟨⟨Sz.of (k := 201) (by have := h.x; show (s.l.1 + w.1).natAbs < 201; omega) (by decide), Sz.of (k := 201) (by have := h.y; show (s.l.2 + w.2).natAbs < 201; omega) (by decide)⟩, h.d.pz (by decide)⟩
theorem mv_zero (s : Si) : mv s (0, 0) = s := by
  obtain ⟨⟨a, b⟩, d⟩ := s
  simp [mv]
theorem ahead_fit (c : Pl) (s : Si) (w : Pt) : fitM (c.1 - w.1, c.2 - w.2) s = fitM c (mv s w) := by
  have e1 : vx (c.1 - w.1, c.2 - w.2) s = vx c (mv s w) := by
    unfold vx mv
    simp only [Rat.intCast_add]
    grind
  have e2 : vy (c.1 - w.1, c.2 - w.2) s = vy c (mv s w) := by
    unfold vy mv
    simp only [Rat.intCast_add]
    grind
  unfold fitM
  rw [e1, e2]
  rfl
theorem crD_deep (s t : Si) : Deepn 12 (crD s t) := by
  unfold crD
  split
  · exact .tup (by simp) fun d hd => by
      simp at hd
      rcases hd with rfl | rfl <;> exact rD_deep (n := 9)
  · exact .non
theorem wideA {r : Int} (h0 : 0 ≤ r) (h1 : r < 3) : ∃ w : Nat, atI [PyData.int 4, .int 30, .int 100] r = some (.int w) ∧ 1 ≤ w ∧ w ≤ 100 := by
  have : r = 0 ∨ r = 1 ∨ r = 2 := by omega
  rcases this with rfl | rfl | rfl
  · exact ⟨4, rfl, by decide, by decide⟩
  · exact ⟨30, rfl, by decide, by decide⟩
  · exact ⟨100, rfl, by decide, by decide⟩
theorem wideB {r : Int} (h0 : 0 ≤ r) (h1 : r < 2) : ∃ w : Nat, atI [PyData.int 5, .int 100] r = some (.int w) ∧ 1 ≤ w ∧ w ≤ 100 := by
  have : r = 0 ∨ r = 1 := by omega
  rcases this with rfl | rfl
  · exact ⟨5, rfl, by decide, by decide⟩
  · exact ⟨100, rfl, by decide, by decide⟩
/-- what a turn may change -/
abbrev tvs : List Nat := [1, 3, 8, 9, 10, 11, 12, 13, 14, 15, 16, 17]
theorem turn_ok {e : Fv} {ms : List Int} (hl : e.length = 21) (h1 : e[1]? = some (.own none (iL ms))) (h20 : e[20]? = some .un) : ∃ (e' : Fv) (ms' : List Int), L_law_1 e = .ok .nx e' ∧ Agr tvs e e' ∧ e'[1]? = some (.own none (iL ms')) := by
  have z2 : 2 ≤ sizeLine := by decide
  have z3 : 3 ≤ sizeLine := by decide
  obtain ⟨r, ms1, hr, r0, r1⟩ := tk ms 3 (by decide)
  obtain ⟨wa, hwa, wa1, wa2⟩ := wideA r0 r1
  obtain ⟨ms2, s, t, sp, hs, so, to⟩ := sights_ok ms1 wa wa1 wa2
  obtain ⟨q, ms3, hq, q0, q1⟩ := tk ms2 2 (by decide)
  obtain ⟨wb, hwb, wb1, wb2⟩ := wideB q0 q1
  obtain ⟨w, ms4, hw, w1, w2, w3, w4⟩ := spot_ok ms3 wb (by omega)
  have wx : -100 ≤ w.1 ∧ w.1 ≤ 100 := by omega
  have wy : -100 ≤ w.2 ∧ w.2 ≤ 100 := by omega
  have zs := so.z
  have zt := to.z
  have zm := mv_z so wx wy
  have pr := product_ok zs.d zt.d (by decide)
  have ru := run_ok so to (pD w)
  rw [isSpot_pD wx wy, Bool.true_and] at ru
  have sm := same_ok 12 (.bool !decide (cro s.d t.d = 0)) (.bool _)
  let eA : Fv := (((((e.set 1 (.own none (iL ms4))).set 10 (.sh (.tuple [sD s, sD t]))).set 11 (.sh (pD sp))).set 3 (.sh (pD w))).set 8 (.sh (.tuple [sD s, pD w, sD t]))).set 12 (.sh (.bool !decide (cro s.d t.d = 0)))
  have aA : Agr tvs e eA := (((((Agr.refl.set (by decide)).set (by decide)).set (by decide)).set (by decide)).set (by decide)).set (by decide)
  have gA1 : eA[1]? = some (.own none (iL ms4)) := by simp [eA, -getElem?_pos, List.getElem?_set, hl]
  have gA3 : eA[3]? = some (.sh (pD w)) := by simp [eA, -getElem?_pos, List.getElem?_set, hl]
  have gA8 : eA[8]? = some (.sh (.tuple [sD s, pD w, sD t])) := by simp [eA, -getElem?_pos, List.getElem?_set, hl]
  have gA10 : eA[10]? = some (.sh (.tuple [sD s, sD t])) := by simp [eA, -getElem?_pos, List.getElem?_set, hl]
  have gA12 : eA[12]? = some (.sh (.bool !decide (cro s.d t.d = 0))) := by simp [eA, -getElem?_pos, List.getElem?_set, hl]
  have gA20 : eA[20]? = some .un := by simp [eA, -getElem?_pos, List.getElem?_set, hl, h20]
  have lA : eA.length = 21 := by simp [eA, hl]
  rw [L_law_1_app]
  rw [seq_nx (e' := ((e.set 1 (.own none (iL ms2))).set 10 (.sh (.tuple [sD s, sD t]))).set 11 (.sh (pD sp))) (by
    simp [-getElem?_pos, List.getElem?_set, hl, h1, hr, hwa, hs, z3])]
  rw [seq_nx (e' := (((e.set 1 (.own none (iL ms4))).set 10 (.sh (.tuple [sD s, sD t]))).set 11 (.sh (pD sp))).set 3 (.sh (pD w))) (by
    simp [-getElem?_pos, List.getElem?_set, hl, h1, hq, hwb, hw, z2]
    simp [List.set_comm])]
  rw [seq_nx (e' := ((((e.set 1 (.own none (iL ms4))).set 10 (.sh (.tuple [sD s, sD t]))).set 11 (.sh (pD sp))).set 3 (.sh (pD w))).set 8 (.sh (.tuple [sD s, pD w, sD t]))) (by
    simp [-getElem?_pos, List.getElem?_set, hl, at0, at1, z3])]
  rw [seq_nx (e' := eA) (by
    simp [eA, -getElem?_pos, List.getElem?_set, hl, at0, at1, sD, pr, neG_int])]
  generalize eA = E at *
  rw [seq_nx (check_ok (notF_ok (b := true) (truthF_bool (e' := E) (by simp [-getElem?_pos, gA8, gA12, ru, sm]))))]
  cases hg : decide (cro s.d t.d = 0) with
  | true =>
    rw [hg] at gA12
    exact ⟨E, ms4, by simp [-getElem?_pos, gA12], aA, gA1⟩
  | false =>
    rw [hg] at gA12
    have hne : cro s.d t.d ≠ 0 := by simpa using hg
    have rf := run_fix_ok (s := s) zm zt hne
    have cz := cr_rz zm zt hne
    rw [if_t (e' := E) (by simp [-getElem?_pos, gA12])]
    rw [seq_nx (e' := E.set 13 (.sh (crD (mv s w) t))) (by simp [-getElem?_pos, gA8, rf])]
    -- behind the test of what is told
    obtain ⟨x14, h14⟩ : ∃ x14 : Sl, (∀ F : Mo Out, seqF (ifF (boolF (binF isNotG (readF 13) (constF .none))) (seqF (setF 14 (callBF tupleG (consF (Q_law_1) (nilF))))
        (ifF (orF (notF (truthF (callF 2 f__law_fits (consF (readF 13) (consF (binF itemG (readF 10) (constF (.int 1))) (nilF)))))) (notF (truthF (callF 2 f__law_fits (consF (readF 14) (consF (binF itemG (readF 10) (constF (.int 0))) (nilF))))))) (retF (constF (.bool false))) (skipF))) (skipF)) F (E.set 13 (.sh (crD (mv s w) t))) =
        F ((E.set 13 (.sh (crD (mv s w) t))).set 14 x14)) := by
      by_cases hf : (fitM (crM (mv s w) t) (mv s w) && fitM (crM (mv s w) t) t) = true
      · have hD : crD (mv s w) t = plD (crM (mv s w) t) := by unfold crD; rw [if_pos hf]
        rw [hD]
        rw [Bool.and_eq_true] at hf
        have fa := hf.1
        rw [← ahead_fit] at fa
        have wrx : Rz 8 (w.1 : Rat) := Rz.int (Sz.of (k := 101) (by omega) (by decide)) (by decide)
        have wry : Rz 8 (w.2 : Rat) := Rz.int (Sz.of (k := 101) (by omega) (by decide)) (by decide)
        have k1 := law_fits_ok (p := crM (mv s w) t) (s := t) ⟨cz.x.mono (by decide), cz.y.mono (by decide)⟩ ⟨⟨zt.l.x.mono (by decide), zt.l.y.mono (by decide)⟩, zt.d⟩ hf.2
        have k2 := law_fits_ok (p := ((crM (mv s w) t).1 - w.1, (crM (mv s w) t).2 - w.2)) (s := s) ⟨(cz.x.sub wrx).mono (by decide), (cz.y.sub wry).mono (by decide)⟩ ⟨⟨zs.l.x.mono (by decide), zs.l.y.mono (by decide)⟩, zs.d⟩ fa
        have m1 := lminus_ok cz.x wrx (by decide)
        have m2 := lminus_ok cz.y wry (by decide)
        rw [rD_int] at m1 m2
        generalize crM (mv s w) t = c at *
        have q1 : Q_law_1 (E.set 13 (.sh (plD c))) = .ok (.fr [rD (c.1 - w.1), rD (c.2 - w.2)]) (E.set 13 (.sh (plD c))) := by
          rw [Q_law_1_app]
          refine lc_tab [(.int 0, rD (c.1 - w.1)), (.int 1, rD (c.2 - w.2))] (range_two rfl) (by simp [lA]) (noOwn_un (by simp [-getElem?_pos, List.getElem?_set, gA20])) z2 fun d hd => ?_
          simp only [List.mem_cons, List.not_mem_nil, or_false] at hd
          rcases hd with rfl | rfl
          · simp [-getElem?_pos, List.getElem?_set, lA, gA3, plD, pD, at0, m1, z2]
          · simp [-getElem?_pos, List.getElem?_set, lA, gA3, plD, pD, at1, m2, z2]
        refine ⟨.sh (plD (c.1 - w.1, c.2 - w.2)), fun F => ?_⟩
        rw [seq_nx]
        rw [if_t (e' := E.set 13 (.sh (plD c))) (by simp [-getElem?_pos, List.getElem?_set, lA, plD])]
        rw [seq_nx (e' := (E.set 13 (.sh (plD c))).set 14 (.sh (plD (c.1 - w.1, c.2 - w.2)))) (by simp [q1, z2]; rfl)]
        refine check_ok ?_
        rw [or_f (e' := (E.set 13 (.sh (plD c))).set 14 (.sh (plD (c.1 - w.1, c.2 - w.2))))]
        · refine notF_ok (b := true) (truthF_bool ?_)
          simp [-getElem?_pos, List.getElem?_set, lA, gA10, at0, k2]
        · refine notF_ok (b := true) (truthF_bool ?_)
          simp [-getElem?_pos, List.getElem?_set, lA, gA10, at1, k1]
      · have hD : crD (mv s w) t = .none := by unfold crD; rw [if_neg hf]
        rw [hD]
        refine ⟨((E.set 13 (.sh .none))[14]?).getD .un, fun F => ?_⟩
        rw [seq_nx]
        rw [if_f (e' := E.set 13 (.sh .none)) (by simp [-getElem?_pos, List.getElem?_set, lA]), skip_ok]
        congr 1
        apply List.ext_getElem?
        intro i
        rw [List.getElem?_set (i := 14)]
        by_cases hi : 14 = i
        · subst hi
          rw [if_pos rfl, if_pos (by simp [lA])]
          simp [lA]
        · rw [if_neg hi]
    have c1 := crossing_ok zm zt hne
    have c2 := crossing_ok zs zt hne
    have s1 := same_ok 12 _ (crD_deep (mv s w) t)
    have s2 := same_ok 12 _ (crD_deep s t)
    have rf0 := run_fix_ok (s := s) (t := t) (w := (0, 0)) (by rw [mv_zero]; exact zs) zt hne
    rw [mv_zero] at rf0
    rw [h14]
    generalize hX : (E.set 13 (.sh (crD (mv s w) t))).set 14 x14 = X
    have lX : X.length = 21 := by rw [← hX]; simp [lA]
    have aX : Agr tvs E X := by rw [← hX]; exact (Agr.refl.set (by decide)).set (by decide)
    have x1 : X[1]? = some (.own none (iL ms4)) := by rw [← hX]; simp [-getElem?_pos, List.getElem?_set, gA1]
    have x3 : X[3]? = some (.sh (pD w)) := by rw [← hX]; simp [-getElem?_pos, List.getElem?_set, gA3]
    have x10 : X[10]? = some (.sh (.tuple [sD s, sD t])) := by rw [← hX]; simp [-getElem?_pos, List.getElem?_set, gA10]
    have x13 : X[13]? = some (.sh (crD (mv s w) t)) := by rw [← hX]; simp [-getElem?_pos, List.getElem?_set, lA]
    clear hX h14
    have sm0 : sD (mv s w) = .tuple [.tuple [.int (s.l.1 + w.1), .int (s.l.2 + w.2)], .tuple [.int s.d.1, .int s.d.2]] := rfl
    have rz : pD (0, 0) = .tuple [.int 0, .int 0] := rfl
    rw [rz] at rf0
    rw [seq_nx (e' := (X.set 15 (.sh (pD s.l))).set 16 (.sh (pD s.d))) (by simp [-getElem?_pos, List.getElem?_set, x10, at0, sD])]
    rw [seq_nx (e' := ((X.set 15 (.sh (pD s.l))).set 16 (.sh (pD s.d))).set 17 (.sh (sD (mv s w)))) (by simp [-getElem?_pos, List.getElem?_set, lX, x3, at0, at1, sm0, pD, z2])]
    refine ⟨((X.set 15 (.sh (pD s.l))).set 16 (.sh (pD s.d))).set 17 (.sh (sD (mv s w))), ms4, ?_, aA.trans (aX.trans (((Agr.refl.set (by decide)).set (by decide)).set (by decide))), by simp [-getElem?_pos, List.getElem?_set, x1]⟩
    refine check_ok ?_
    rw [or_f (e' := ((X.set 15 (.sh (pD s.l))).set 16 (.sh (pD s.d))).set 17 (.sh (sD (mv s w))))]
    · refine notF_ok (b := true) (truthF_bool ?_)
      simp [-getElem?_pos, List.getElem?_set, lX, x10, at0, at1, z2, z3, rf0, c2, s2]
    · refine notF_ok (b := true) (truthF_bool ?_)
      simp [-getElem?_pos, List.getElem?_set, lX, x10, x13, at1, c1, s1]
end Lw
namespace Lw
open PySem Cf L2
theorem fit_at {P d : Pt} {m : Nat} (hm : 1 ≤ m) (hd : d ≠ (0, 0)) : fitM ((P.1 : Rat), (P.2 : Rat)) ⟨(P.1 + m * d.1, P.2 + m * d.2), d⟩ = true := by
  have e1 : vx ((P.1 : Rat), (P.2 : Rat)) ⟨(P.1 + m * d.1, P.2 + m * d.2), d⟩ = m * d.1 := by
    unfold vx
    simp only [Rat.intCast_add, Rat.intCast_mul, Rat.intCast_natCast]
    grind
  have e2 : vy ((P.1 : Rat), (P.2 : Rat)) ⟨(P.1 + m * d.1, P.2 + m * d.2), d⟩ = m * d.2 := by
    unfold vy
    simp only [Rat.intCast_add, Rat.intCast_mul, Rat.intCast_natCast]
    grind
  have pm : (0 : Rat) < (m : Rat) := by exact_mod_cast hm
  unfold fitM
  rw [e1, e2]
  simp only [Bool.and_eq_true, Bool.or_eq_true, decide_eq_true_eq]
  refine ⟨by grind, ?_⟩
  by_cases q : d.1 = 0
  · have : d.2 ≠ 0 := fun z => hd (Prod.ext q z)
    have h2 : (d.2 : Rat) ≠ 0 := by exact_mod_cast this
    have := Rat.mul_pos pm (sqr_pos h2)
    right
    grind
  · have h1 : (d.1 : Rat) ≠ 0 := by exact_mod_cast q
    have := Rat.mul_pos pm (sqr_pos h1)
    left
    grind
theorem divInt_self {a w : Int} (h : w ≠ 0) : Rat.divInt (a * w) w = (a : Rat) := by
  rw [Rat.divInt_eq_div, Rat.intCast_mul]
  have : (w : Rat) ≠ 0 := by exact_mod_cast h
  grind
theorem cr_at {P d1 d2 : Pt} {m1 m2 : Nat} (h : cro d1 d2 ≠ 0) : crM ⟨(P.1 + m1 * d1.1, P.2 + m1 * d1.2), d1⟩ ⟨(P.1 + m2 * d2.1, P.2 + m2 * d2.2), d2⟩ = ((P.1 : Rat), (P.2 : Rat)) := by
  have st : stp ⟨(P.1 + m1 * d1.1, P.2 + m1 * d1.2), d1⟩ ⟨(P.1 + m2 * d2.1, P.2 + m2 * d2.2), d2⟩ = -(m1 * cro d1 d2) := by
    unfold stp cro
    simp only
    grind
  unfold crM
  rw [st]
  simp only
  have e1 : (P.1 + m1 * d1.1) * cro d1 d2 + -(m1 * cro d1 d2) * d1.1 = P.1 * cro d1 d2 := by grind
  have e2 : (P.2 + m1 * d1.2) * cro d1 d2 + -(m1 * cro d1 d2) * d1.2 = P.2 * cro d1 d2 := by grind
  rw [e1, e2, divInt_self h, divInt_self h]
theorem crD_at {P d1 d2 : Pt} {m1 m2 : Nat} (k1 : 1 ≤ m1) (k2 : 1 ≤ m2) (h : cro d1 d2 ≠ 0) : crD ⟨(P.1 + m1 * d1.1, P.2 + m1 * d1.2), d1⟩ ⟨(P.1 + m2 * d2.1, P.2 + m2 * d2.2), d2⟩ = .tuple [.tuple [.int P.1, .int 1], .tuple [.int P.2, .int 1]] := by
  have n1 : d1 ≠ (0, 0) := fun z => h (by rw [z]; simp [cro])
  have n2 : d2 ≠ (0, 0) := fun z => h (by rw [z]; simp [cro])
  unfold crD
  rw [cr_at h, fit_at k1 n1, fit_at k2 n2]
  simp [plD, rD_int]
/-- the first ship: spot, way, both sights -/
structure Fi where
  sp : Pt
  w : Pt
  m1 : Nat
  d1 : Pt
  m2 : Nat
  d2 : Pt
def Fi.L (f : Fi) : Pt := (f.sp.1 + f.w.1, f.sp.2 + f.w.2)
def Fi.s (f : Fi) : Si := ⟨(f.sp.1 + f.m1 * f.d1.1, f.sp.2 + f.m1 * f.d1.2), f.d1⟩
def Fi.t (f : Fi) : Si := ⟨(f.L.1 + f.m2 * f.d2.1, f.L.2 + f.m2 * f.d2.2), f.d2⟩
structure FiOk (f : Fi) : Prop where
  sp : (-20 ≤ f.sp.1 ∧ f.sp.1 ≤ 20) ∧ -20 ≤ f.sp.2 ∧ f.sp.2 ≤ 20
  w : (-30 ≤ f.w.1 ∧ f.w.1 ≤ 30) ∧ -30 ≤ f.w.2 ∧ f.w.2 ≤ 30
  m1 : 1 ≤ f.m1 ∧ f.m1 ≤ 5
  m2 : 1 ≤ f.m2 ∧ f.m2 ≤ 5
  d1 : Dir 9 f.d1
  d2 : Dir 9 f.d2
  ne : cro f.d1 f.d2 ≠ 0
theorem Dir.mono {v w : Nat} {d : Pt} (h : Dir v d) (hw : v ≤ w) : Dir w d := ⟨h.1, by have := h.2.1; omega, by have := h.2.2; omega⟩
theorem mul_le {m : Nat} {d : Int} (hm : m ≤ 5) (hd : d.natAbs ≤ 9) : -45 ≤ (m : Int) * d ∧ (m : Int) * d ≤ 45 := by
  have : ((m : Int) * d).natAbs ≤ 45 := by
    rw [Int.natAbs_mul, Int.natAbs_natCast]
    exact Nat.le_trans (Nat.mul_le_mul hm hd) (by decide)
  omega
section
variable {f : Fi} (h : FiOk f)
include h
theorem FiOk.sOk : SiOk f.s := by
  have a := mul_le h.m1.2 h.d1.2.1
  have b := mul_le h.m1.2 h.d1.2.2
  have := h.sp
  exact ⟨by show -100 ≤ f.sp.1 + f.m1 * f.d1.1 ∧ f.sp.1 + f.m1 * f.d1.1 ≤ 100; omega, by show -100 ≤ f.sp.2 + f.m1 * f.d1.2 ∧ f.sp.2 + f.m1 * f.d1.2 ≤ 100; omega, h.d1.mono (by decide)⟩
theorem FiOk.tOk : SiOk f.t := by
  have a := mul_le h.m2.2 h.d2.2.1
  have b := mul_le h.m2.2 h.d2.2.2
  have := h.sp
  have := h.w
  exact ⟨by show -100 ≤ f.sp.1 + f.w.1 + f.m2 * f.d2.1 ∧ f.sp.1 + f.w.1 + f.m2 * f.d2.1 ≤ 100; omega, by show -100 ≤ f.sp.2 + f.w.2 + f.m2 * f.d2.2 ∧ f.sp.2 + f.w.2 + f.m2 * f.d2.2 ≤ 100; omega, h.d2.mono (by decide)⟩
theorem first_ok : f_is_run [.tuple [sD f.s, pD f.w, sD f.t]] = .ok (.sh (.bool true)) ∧ f_run_fix [.tuple [sD f.s, pD f.w, sD f.t]] = .ok (.sh (.tuple [.tuple [.int f.L.1, .int 1], .tuple [.int f.L.2, .int 1]])) := by
  have hw := h.w
  have wx : -100 ≤ f.w.1 ∧ f.w.1 ≤ 100 := by omega
  have wy : -100 ≤ f.w.2 ∧ f.w.2 ≤ 100 := by omega
  have hne : cro f.s.d f.t.d ≠ 0 := h.ne
  constructor
  · rw [run_ok h.sOk h.tOk, isSpot_pD wx wy]
    simp [hne]
  · rw [run_fix_ok (mv_z h.sOk wx wy) h.tOk.z hne]
    have : mv f.s f.w = ⟨(f.L.1 + f.m1 * f.d1.1, f.L.2 + f.m1 * f.d1.2), f.d1⟩ := by
      unfold mv Fi.s Fi.L
      simp only
      congr 2 <;> omega
    rw [this]
    exact congrArg (fun d => FnR.ok (.sh d)) (crD_at h.m1.1 h.m2.1 h.ne)
/-- the values that are none -/
def odds (f : Fi) : List PyData := [.tuple [sD f.s, .tuple [.int 1, .int 2]], .tuple [sD f.s, .tuple [.int 1, .int 2], sD f.t, .int 0], .list [sD f.s, .tuple [.int 1, .int 2], sD f.t], .tuple [.none, .tuple [.int 1, .int 2], sD f.t], .tuple [sD f.s, .tuple [.int 1, .int 2], .none],
  .tuple [sD f.s, .tuple [.int 101, .int 0], sD f.t], .tuple [sD f.s, .none, sD f.t], .tuple [sD f.s, .tuple [.int 1, .int 2], sD f.s], .tuple [.tuple [pD f.s.l], .tuple [.int 1, .int 2], sD f.t], .tuple [sD f.s, .tuple [.bool true, .int 0], sD f.t], .none, .str "run"]
theorem odds_ok : ∀ d ∈ odds f, f_is_run [d] = .ok (.sh (.bool false)) := fun d hd => by
  unfold odds at hd
  simp only [List.mem_cons, List.not_mem_nil, or_false] at hd
  rcases hd with rfl | rfl | rfl | rfl | rfl | rfl | rfl | rfl | rfl | rfl | rfl | rfl
  · exact no_run_len (by simp)
  · exact no_run_len (by simp)
  · simp [f_is_run_eq, B_is_run, runF]
  · exact no_run_first no_sight_none
  · exact no_run_last h.sOk no_sight_none
  · rw [run_ok h.sOk h.tOk]; simp [isSpot, isNum]
  · rw [run_ok h.sOk h.tOk]; simp [isSpot]
  · rw [run_ok h.sOk h.sOk]
    have : cro f.s.d f.s.d = 0 := by unfold cro; grind
    simp [this]
  · exact no_run_first (no_sight_one _)
  · rw [run_ok h.sOk h.tOk]; simp [isSpot, isNum]
  · simp [f_is_run_eq, B_is_run, runF]
  · simp [f_is_run_eq, B_is_run, runF]
end
end Lw
namespace Lw
open PySem Cf L2
theorem holds (ns : List Int) (h : ns.length ≤ 63) : f_law [scrD ns] = .ok (.sh (.bool true)) := by
  have z2 : 2 ≤ sizeLine := by decide
  have z3 : 3 ≤ sizeLine := by decide
  have z12 : 12 ≤ sizeLine := by decide
  obtain ⟨ms, _, hd⟩ := draws_ok ns h
  rw [← f_draws_eq] at hd
  rw [f_law_eq]
  unfold runF B_law
  generalize hS : scrD ns = S at hd
  rw [seq_nx (e' := [.sh S, .own none (iL ms), .un, .un, .un, .un, .un, .un, .un, .un, .un, .un, .un, .un, .un, .un, .un, .un, .un, .un, .un]) (by
    rw [S_law_1_app]
    simp [hd])]
  obtain ⟨sp, ms1, h1, a1, a2, a3, a4⟩ := spot_ok ms 20 (by decide)
  obtain ⟨w, ms2, h2, b1, b2, b3, b4⟩ := spot_ok ms1 30 (by decide)
  rw [show ((20 : Nat) : Int) = 20 from rfl] at h1
  rw [show ((30 : Nat) : Int) = 30 from rfl] at h2
  rw [seq_nx (e' := [.sh S, .own none (iL ms2), .sh (pD sp), .sh (pD w), .un, .un, .un, .un, .un, .un, .un, .un, .un, .un, .un, .un, .un, .un, .un, .un, .un]) (by
    rw [S_law_2_app]
    simp [h1, h2])]
  rw [seq_nx (e' := [.sh S, .own none (iL ms2), .sh (pD sp), .sh (pD w), .sh (pD (sp.1 + w.1, sp.2 + w.2)), .un, .un, .un, .un, .un, .un, .un, .un, .un, .un, .un, .un, .un, .un, .un, .un]) (by
    rw [S_law_3_app]
    simp [pD, at0, at1, z2])]
  obtain ⟨ms3, m1, d1, h3, k1, k2, i1⟩ := from_ok ms2 sp
  obtain ⟨ms4, m2, d2, h4, k3, k4, i2⟩ := from_ok ms3 (sp.1 + w.1, sp.2 + w.2)
  rw [seq_nx (e' := [.sh S, .own none (iL ms4), .sh (pD sp), .sh (pD w), .sh (pD (sp.1 + w.1, sp.2 + w.2)), .sh (sD ⟨(sp.1 + m1 * d1.1, sp.2 + m1 * d1.2), d1⟩), .sh (sD ⟨(sp.1 + w.1 + m2 * d2.1, sp.2 + w.2 + m2 * d2.2), d2⟩), .un, .un, .un, .un, .un, .un, .un, .un, .un, .un, .un, .un, .un, .un]) (by
    rw [S_law_4_app]
    simp [h3, h4])]
  -- both sights
  obtain ⟨f, x7, fo, fsp, fw, hf⟩ : ∃ (f : Fi) (x7 : Sl), FiOk f ∧ f.sp = sp ∧ f.w = w ∧ ∀ F : Mo Out, seqF S_law_5 F [.sh S, .own none (iL ms4), .sh (pD sp), .sh (pD w), .sh (pD (sp.1 + w.1, sp.2 + w.2)), .sh (sD ⟨(sp.1 + m1 * d1.1, sp.2 + m1 * d1.2), d1⟩), .sh (sD ⟨(sp.1 + w.1 + m2 * d2.1, sp.2 + w.2 + m2 * d2.2), d2⟩), .un, .un, .un, .un, .un, .un, .un, .un, .un, .un, .un, .un, .un, .un] =
      F [.sh S, .own none (iL ms4), .sh (pD sp), .sh (pD w), .sh (pD f.L), .sh (sD f.s), .sh (sD f.t), x7, .un, .un, .un, .un, .un, .un, .un, .un, .un, .un, .un, .un, .un] := by
    have p1 := i1.pz (by decide)
    have pr := product_ok p1 (i2.pz (by decide)) (by decide)
    by_cases hc : cro d1 d2 = 0
    · have n1 := i1.ne
      refine ⟨⟨sp, w, m1, d1, 2, (-d1.2, d1.1)⟩, .sh (pD (-d1.2, d1.1)), ⟨⟨⟨a1, a2⟩, a3, a4⟩, ⟨⟨b1, b2⟩, b3, b4⟩, ⟨k1, k2⟩, ⟨(by decide : 1 ≤ 2), (by decide : 2 ≤ 5)⟩, i1, ⟨?_, ?_, ?_⟩, ?_⟩, rfl, rfl, fun F => ?_⟩
      · show Nat.gcd (-d1.2).natAbs d1.1.natAbs = 1
        rw [Int.natAbs_neg, Nat.gcd_comm]
        exact i1.1
      · show (-d1.2).natAbs ≤ 9
        rw [Int.natAbs_neg]; exact i1.2.2
      · exact i1.2.1
      · have := dot_pos n1
        unfold dot at this
        unfold cro
        simp only
        intro z
        have e : d1.1 * d1.1 - d1.2 * -d1.2 = d1.1 * d1.1 + d1.2 * d1.2 := by grind
        omega
      · rw [seq_nx]
        rw [S_law_5_app]
        have mx : mulG (.int 2) (.int (-d1.2)) = some (.sh (.int (2 * -d1.2))) := mulG_left (by decide)
        have my : mulG (.int 2) (.int d1.1) = some (.sh (.int (2 * d1.1))) := mulG_left (by decide)
        rw [hc] at pr
        simp only [pD] at pr
        simp [sD, pD, at0, at1, pr, eqG_int, mx, my, z2, Fi.s, Fi.t, Fi.L]
    · refine ⟨⟨sp, w, m1, d1, m2, d2⟩, .un, ⟨⟨⟨a1, a2⟩, a3, a4⟩, ⟨⟨b1, b2⟩, b3, b4⟩, ⟨k1, k2⟩, ⟨k3, k4⟩, i1, i2, hc⟩, rfl, rfl, fun F => ?_⟩
      rw [seq_nx]
      rw [S_law_5_app]
      simp only [pD] at pr
      simp [sD, pD, at1, pr, eqG_int, hc, Fi.s, Fi.t, Fi.L]
  rw [hf]
  obtain ⟨r1, r2⟩ := first_ok fo
  have fo' := odds_ok fo
  rw [← fw]
  generalize hA : sD f.s = A at *
  generalize hB : sD f.t = B at *
  rw [seq_nx (e' := [.sh S, .own none (iL ms4), .sh (pD sp), .sh (pD f.w), .sh (pD f.L), .sh A, .sh B, x7, .sh (.tuple [A, pD f.w, B]), .un, .un, .un, .un, .un, .un, .un, .un, .un, .un, .un, .un]) (by
    rw [S_law_6_app]
    simp [z3])]
  have sm := same_ok 12 (.tuple [.tuple [.int f.L.1, .int 1], .tuple [.int f.L.2, .int 1]]) (.tup (by simp) fun d hd => by
    simp at hd
    rcases hd with rfl | rfl <;> exact .tup (by simp) fun d hd => by
      simp at hd
      rcases hd with rfl | rfl <;> exact .int _)
  rw [seq_nx (F1 := S_law_7) (e' := [.sh S, .own none (iL ms4), .sh (pD sp), .sh (pD f.w), .sh (pD f.L), .sh A, .sh B, x7, .sh (.tuple [A, pD f.w, B]), .un, .un, .un, .un, .un, .un, .un, .un, .un, .un, .un, .un]) (by
    rw [S_law_7_app]
    refine check_ok ?_
    rw [or_f (e' := [.sh S, .own none (iL ms4), .sh (pD sp), .sh (pD f.w), .sh (pD f.L), .sh A, .sh B, x7, .sh (.tuple [A, pD f.w, B]), .un, .un, .un, .un, .un, .un, .un, .un, .un, .un, .un, .un])]
    · refine notF_ok (b := true) (truthF_bool ?_)
      have hL : pD f.L = .tuple [.int f.L.1, .int f.L.2] := rfl
      simp [r2, hL, at0, at1, z2, sm]
    · refine boolF_ok ?_
      simp [r1])]
  -- five turns
  generalize hE : ([.sh S, .own none (iL ms4), .sh (pD sp), .sh (pD f.w), .sh (pD f.L), .sh A, .sh B, x7, .sh (.tuple [A, pD f.w, B]), .un, .un, .un, .un, .un, .un, .un, .un, .un, .un, .un, .un] : Fv) = E
  have lE : E.length = 21 := by rw [← hE]; rfl
  have q1 : E[1]? = some (.own none (iL ms4)) := by rw [← hE]; rfl
  have q5 : E[5]? = some (.sh A) := by rw [← hE]; rfl
  have q6 : E[6]? = some (.sh B) := by rw [← hE]; rfl
  have q19 : E[19]? = some .un := by rw [← hE]; rfl
  have q20 : E[20]? = some .un := by rw [← hE]; rfl
  clear hE
  obtain ⟨e', hl, ag, msn, q1'⟩ := loop_range (T := toSlot 9) (B := L_law_1) (cnt := 5) (e := E) (J := fun _ e => Agr tvs E e ∧ ∃ ms, e[1]? = some (.own none (iL ms))) (fun k e hk ⟨a, ms, hm⟩ => by
    have le : e.length = 21 := a.len.trans lE
    have a' : Agr tvs e (e.set 9 (.sh (.int k))) := Agr.refl.set (by decide)
    obtain ⟨e', ms', h1, h2, h3⟩ := turn_ok (e := e.set 9 (.sh (.int k))) (ms := ms) (by simp [le]) (by simp [-getElem?_pos, List.getElem?_set, hm]) (by
      rw [a'.at_ 20 (by decide), a.at_ 20 (by decide)]
      exact q20)
    refine ⟨e', .inl ?_, a.trans (a'.trans h2), ms', h3⟩
    simp [thenU, toSlot, storeF, h1]) ⟨.refl, ms4, q1⟩
  rw [seq_nx (F1 := S_law_8) (e' := e') (by
    rw [S_law_8_app]
    rw [for_ok (ds := rangeD 0 5) (e' := E) (range1_ok (j := 5) (by simp) (by decide) (by decide))]
    exact hl)]
  have le : e'.length = 21 := ag.len.trans lE
  have g5 : e'[5]? = some (.sh A) := (ag.at_ 5 (by decide)).trans q5
  have g6 : e'[6]? = some (.sh B) := (ag.at_ 6 (by decide)).trans q6
  have g19 : e'[19]? = some .un := (ag.at_ 19 (by decide)).trans q19
  rw [seq_nx (F1 := S_law_9) (e' := e'.set 8 (.sh (.tuple [A, .tuple [.int 1, .int 2], B]))) (by
    rw [S_law_9_app]
    simp [-getElem?_pos, g5, g6, z2, z3])]
  have cA : cutD [pD f.s.l, pD f.s.d] none (some 1) = [pD f.s.l] := rfl
  have c1 : cutD [A, .tuple [.int 1, .int 2], B] none (some 2) = [A, .tuple [.int 1, .int 2]] := rfl
  have c2 : cutD [A, .tuple [.int 1, .int 2], B] (some 1) none = [.tuple [.int 1, .int 2], B] := rfl
  have z4 : 4 ≤ sizeLine := by decide
  have z6 : 6 ≤ sizeLine := by decide
  rw [seq_nx (F1 := S_law_10) (e' := (e'.set 8 (.sh (.tuple [A, .tuple [.int 1, .int 2], B]))).set 18 (.own none ((odds f).take 6))) (by
    rw [S_law_10_app]
    simp [-getElem?_pos, List.getElem?_set, le, g5, g6, z2, z3, z4, z6, c1, c2, odds, hA, hB])]
  have hA' : A = .tuple [pD f.s.l, pD f.s.d] := hA.symm
  rw [seq_nx (F1 := S_law_11) (e' := (e'.set 8 (.sh (.tuple [A, .tuple [.int 1, .int 2], B]))).set 18 (.own none (odds f))) (by
    rw [S_law_11_app]
    have g5' := g5
    rw [hA'] at g5'
    simp [-getElem?_pos, List.getElem?_set, le, g5', g6, z2, z3, z4, z6, z12, cA, odds, hA, hB, List.set_set]
    rw [hA']
    try rfl)]
  rw [S_law_12_app]
  have hQ : Q_law_2 ((e'.set 8 (.sh (.tuple [A, .tuple [.int 1, .int 2], B]))).set 18 (.own none (odds f))) = .ok (.fr []) (((e'.set 8 (.sh (.tuple [A, .tuple [.int 1, .int 2], B]))).set 18 (.own none (odds f))).set 18 (.sh (.list (odds f)))) := by
    rw [Q_law_2_app]
    refine lc_none (ds := odds f) (seqI_own (by simp [-getElem?_pos, List.getElem?_set, le])) (by simp [le]) (noOwn_un (by simp [-getElem?_pos, List.getElem?_set, g19])) (by simp [odds, z12]) fun d hd => ?_
    refine boolF_ok ?_
    simp [-getElem?_pos, List.getElem?_set, le, fo' d hd]
  simp [hQ, eqG_empty]
end Lw
namespace Lw
open PySem PySem.Spec PyProof.Rows L2 Cf
/-- the law's def, from what the top has written -/
theorem all_mk {l : PySem.W.OpenLaw} {w : World} {K : PySem.W.Frag} {h : Heap} {mg : Str → Option Value} {fl : Addr} (X : K.In h) (G : h.Ns mainGlobals mg) (hfl : mg "law" = some (.ref fl))
    {f0 f1 f2 f3 f4 f5 f6 f7 f8 f9 f10 f11 f12 f13 f14 f15 f16 f17 f18 f19 f20 f21 f22 f23 f24 f25 f26 f27 f28 : Addr}
    {oc0 kV0 dc0 pm0 ct0 cd0 oc1 kV1 dc1 pm1 ct1 cd1 oc2 kV2 dc2 pm2 ct2 cd2 oc3 kV3 dc3 pm3 ct3 cd3 oc4 kV4 dc4 pm4 ct4 cd4 oc5 kV5 dc5 pm5 ct5 oc6 kV6 dc6 pm6 ct6 oc7 kV7 dc7 pm7 ct7 cd7 oc8 kV8 dc8 pm8 ct8 cd8 oc9 kV9 dc9 pm9 ct9 cd9 oc10 kV10 dc10 pm10 ct10 cd10 oc11 kV11 dc11 pm11 ct11 oc12 kV12 dc12 pm12 ct12 cd12 oc13 kV13 dc13 pm13 ct13 cd13 oc14 kV14 dc14 pm14 ct14 cd14 oc15 kV15 dc15 pm15 ct15 cd15 oc16 kV16 dc16 pm16 ct16 cd16 oc17 kV17 dc17 pm17 ct17 cd17 oc18 kV18 dc18 pm18 ct18 cd18 oc19 kV19 dc19 pm19 ct19 cd19 oc20 kV20 dc20 pm20 ct20 cd20 oc21 kV21 dc21 pm21 ct21 cd21 oc22 kV22 dc22 pm22 ct22 cd22 oc23 kV23 dc23 pm23 ct23 cd23 oc24 kV24 dc24 pm24 ct24 cd24 oc25 kV25 dc25 pm25 ct25 cd25 oc26 kV26 dc26 pm26 ct26 cd26 oc27 kV27 dc27 pm27 ct27 cd27 oc28 kV28 dc28 pm28 ct28 cd28 : Value}
    {cc5 pp5 cc6 pp6 cc11 pp11 : Addr} {ce5 ce6 ce11 : Value} {cq5 cq6 cq11 : Option Addr} {vs5 vs6 vs11 : Array Value} {cs5 cs6 cs11 : Array (Option Value)} {q : Program}
    (own : ∀ (y : Str) (f : Addr), ((recsOf q).any fun e => e.name == y) = true → mg y = some (.ref f) → LamX.OwnTab K f h)
    {od0 an0 od1 an1 od2 an2 od3 an3 od4 an4 od5 an5 od6 an6 od7 an7 od8 an8 od9 an9 od10 an10 od11 an11 od12 an12 od13 an13 od14 an14 od15 an15 od16 an16 od17 an17 od18 an18 od19 an19 od20 an20 od21 an21 od22 an22 od23 an23 od24 an24 od25 an25 od26 an26 od27 an27 od28 an28 : Option Addr} {sl0 sl1 sl2 sl3 sl4 sl5 sl6 sl7 sl8 sl9 sl10 sl11 sl12 sl13 sl14 sl15 sl16 sl17 sl18 sl19 sl20 sl21 sl22 sl23 sl24 sl25 sl26 sl27 sl28 : Array (Option Value)}
    (a0 : PySem.W.nsIn K mainGlobals "is_number" = some (some (.ref f0)))
    (l0 : K.lookup f0 = some ⟨oc0, od0, .func (PySem.W.fnOf "is_number" "is_number" (defArgs s_is_number) (defBody s_is_number) (defScope s_is_number) .none kV0 dc0 pm0 an0 cd0 ct0), sl0⟩) (c0 : PySem.W.codeIn K cd0 "is_number" = true) (k0 : PySem.W.keepIn K (.ref f0) = true)
    (a1 : PySem.W.nsIn K mainGlobals "lowest" = some (some (.ref f1)))
    (l1 : K.lookup f1 = some ⟨oc1, od1, .func (PySem.W.fnOf "lowest" "lowest" (defArgs s_lowest) (defBody s_lowest) (defScope s_lowest) .none kV1 dc1 pm1 an1 cd1 ct1), sl1⟩) (c1 : PySem.W.codeIn K cd1 "lowest" = true) (k1 : PySem.W.keepIn K (.ref f1) = true)
    (a2 : PySem.W.nsIn K mainGlobals "minus" = some (some (.ref f2)))
    (l2 : K.lookup f2 = some ⟨oc2, od2, .func (PySem.W.fnOf "minus" "minus" (defArgs s_minus) (defBody s_minus) (defScope s_minus) .none kV2 dc2 pm2 an2 cd2 ct2), sl2⟩) (c2 : PySem.W.codeIn K cd2 "minus" = true) (k2 : PySem.W.keepIn K (.ref f2) = true)
    (a3 : PySem.W.nsIn K mainGlobals "times" = some (some (.ref f3)))
    (l3 : K.lookup f3 = some ⟨oc3, od3, .func (PySem.W.fnOf "times" "times" (defArgs s_times) (defBody s_times) (defScope s_times) .none kV3 dc3 pm3 an3 cd3 ct3), sl3⟩) (c3 : PySem.W.codeIn K cd3 "times" = true) (k3 : PySem.W.keepIn K (.ref f3) = true)
    (a4 : PySem.W.nsIn K mainGlobals "less" = some (some (.ref f4)))
    (l4 : K.lookup f4 = some ⟨oc4, od4, .func (PySem.W.fnOf "less" "less" (defArgs s_less) (defBody s_less) (defScope s_less) .none kV4 dc4 pm4 an4 cd4 ct4), sl4⟩) (c4 : PySem.W.codeIn K cd4 "less" = true) (k4 : PySem.W.keepIn K (.ref f4) = true)
    (a5 : PySem.W.nsIn K mainGlobals "is_spot" = some (some (.ref f5)))
    (l5 : K.lookup f5 = some ⟨oc5, od5, .func (PySem.W.fnOf "is_spot" "is_spot" (defArgs s_is_spot) (defBody s_is_spot) (defScope s_is_spot) .none kV5 dc5 pm5 an5 (.ref cc5) ct5), sl5⟩) (c5 : PySem.W.codeIn K (.ref cc5) "is_spot" = true) (k5 : PySem.W.keepIn K (.ref f5) = true)
    (v5 : K.lookup cc5 = some ⟨ce5, cq5, .fields vs5, cs5⟩) (p5 : vs5[11]? = some (.ref pp5)) (h5 : PySem.W.codeHdIn K cc5 pp5 = true) (n5 : K.lookup pp5 = none) (r5 : ((recsOf q).any fun e => e.name == "is_spot") = true)
    (a6 : PySem.W.nsIn K mainGlobals "is_direction" = some (some (.ref f6)))
    (l6 : K.lookup f6 = some ⟨oc6, od6, .func (PySem.W.fnOf "is_direction" "is_direction" (defArgs s_is_direction) (defBody s_is_direction) (defScope s_is_direction) .none kV6 dc6 pm6 an6 (.ref cc6) ct6), sl6⟩) (c6 : PySem.W.codeIn K (.ref cc6) "is_direction" = true) (k6 : PySem.W.keepIn K (.ref f6) = true)
    (v6 : K.lookup cc6 = some ⟨ce6, cq6, .fields vs6, cs6⟩) (p6 : vs6[11]? = some (.ref pp6)) (h6 : PySem.W.codeHdIn K cc6 pp6 = true) (n6 : K.lookup pp6 = none) (r6 : ((recsOf q).any fun e => e.name == "is_direction") = true)
    (a7 : PySem.W.nsIn K mainGlobals "is_sight" = some (some (.ref f7)))
    (l7 : K.lookup f7 = some ⟨oc7, od7, .func (PySem.W.fnOf "is_sight" "is_sight" (defArgs s_is_sight) (defBody s_is_sight) (defScope s_is_sight) .none kV7 dc7 pm7 an7 cd7 ct7), sl7⟩) (c7 : PySem.W.codeIn K cd7 "is_sight" = true) (k7 : PySem.W.keepIn K (.ref f7) = true)
    (a8 : PySem.W.nsIn K mainGlobals "right_hand" = some (some (.ref f8)))
    (l8 : K.lookup f8 = some ⟨oc8, od8, .func (PySem.W.fnOf "right_hand" "right_hand" (defArgs s_right_hand) (defBody s_right_hand) (defScope s_right_hand) .none kV8 dc8 pm8 an8 cd8 ct8), sl8⟩) (c8 : PySem.W.codeIn K cd8 "right_hand" = true) (k8 : PySem.W.keepIn K (.ref f8) = true)
    (a9 : PySem.W.nsIn K mainGlobals "fits_sight" = some (some (.ref f9)))
    (l9 : K.lookup f9 = some ⟨oc9, od9, .func (PySem.W.fnOf "fits_sight" "fits_sight" (defArgs s_fits_sight) (defBody s_fits_sight) (defScope s_fits_sight) .none kV9 dc9 pm9 an9 cd9 ct9), sl9⟩) (c9 : PySem.W.codeIn K cd9 "fits_sight" = true) (k9 : PySem.W.keepIn K (.ref f9) = true)
    (a10 : PySem.W.nsIn K mainGlobals "are_along" = some (some (.ref f10)))
    (l10 : K.lookup f10 = some ⟨oc10, od10, .func (PySem.W.fnOf "are_along" "are_along" (defArgs s_are_along) (defBody s_are_along) (defScope s_are_along) .none kV10 dc10 pm10 an10 cd10 ct10), sl10⟩) (c10 : PySem.W.codeIn K cd10 "are_along" = true) (k10 : PySem.W.keepIn K (.ref f10) = true)
    (a11 : PySem.W.nsIn K mainGlobals "crossing_of" = some (some (.ref f11)))
    (l11 : K.lookup f11 = some ⟨oc11, od11, .func (PySem.W.fnOf "crossing_of" "crossing_of" (defArgs s_crossing_of) (defBody s_crossing_of) (defScope s_crossing_of) .none kV11 dc11 pm11 an11 (.ref cc11) ct11), sl11⟩) (c11 : PySem.W.codeIn K (.ref cc11) "crossing_of" = true) (k11 : PySem.W.keepIn K (.ref f11) = true)
    (v11 : K.lookup cc11 = some ⟨ce11, cq11, .fields vs11, cs11⟩) (p11 : vs11[11]? = some (.ref pp11)) (h11 : PySem.W.codeHdIn K cc11 pp11 = true) (n11 : K.lookup pp11 = none) (r11 : ((recsOf q).any fun e => e.name == "crossing_of") = true)
    (a12 : PySem.W.nsIn K mainGlobals "is_run" = some (some (.ref f12)))
    (l12 : K.lookup f12 = some ⟨oc12, od12, .func (PySem.W.fnOf "is_run" "is_run" (defArgs s_is_run) (defBody s_is_run) (defScope s_is_run) .none kV12 dc12 pm12 an12 cd12 ct12), sl12⟩) (c12 : PySem.W.codeIn K cd12 "is_run" = true) (k12 : PySem.W.keepIn K (.ref f12) = true)
    (a13 : PySem.W.nsIn K mainGlobals "run_fix" = some (some (.ref f13)))
    (l13 : K.lookup f13 = some ⟨oc13, od13, .func (PySem.W.fnOf "run_fix" "run_fix" (defArgs s_run_fix) (defBody s_run_fix) (defScope s_run_fix) .none kV13 dc13 pm13 an13 cd13 ct13), sl13⟩) (c13 : PySem.W.codeIn K cd13 "run_fix" = true) (k13 : PySem.W.keepIn K (.ref f13) = true)
    (a14 : PySem.W.nsIn K mainGlobals "_law_draws" = some (some (.ref f14)))
    (l14 : K.lookup f14 = some ⟨oc14, od14, .func (PySem.W.fnOf "_law_draws" "_law_draws" (defArgs s__law_draws) (defBody s__law_draws) (defScope s__law_draws) .none kV14 dc14 pm14 an14 cd14 ct14), sl14⟩) (c14 : PySem.W.codeIn K cd14 "_law_draws" = true) (k14 : PySem.W.keepIn K (.ref f14) = true)
    (a15 : PySem.W.nsIn K mainGlobals "_law_take" = some (some (.ref f15)))
    (l15 : K.lookup f15 = some ⟨oc15, od15, .func (PySem.W.fnOf "_law_take" "_law_take" (defArgs s__law_take) (defBody s__law_take) (defScope s__law_take) .none kV15 dc15 pm15 an15 cd15 ct15), sl15⟩) (c15 : PySem.W.codeIn K cd15 "_law_take" = true) (k15 : PySem.W.keepIn K (.ref f15) = true)
    (a16 : PySem.W.nsIn K mainGlobals "_law_same" = some (some (.ref f16)))
    (l16 : K.lookup f16 = some ⟨oc16, od16, .func (PySem.W.fnOf "_law_same" "_law_same" (defArgs s__law_same) (defBody s__law_same) (defScope s__law_same) .none kV16 dc16 pm16 an16 cd16 ct16), sl16⟩) (c16 : PySem.W.codeIn K cd16 "_law_same" = true) (k16 : PySem.W.keepIn K (.ref f16) = true)
    (a17 : PySem.W.nsIn K mainGlobals "_law_lowest" = some (some (.ref f17)))
    (l17 : K.lookup f17 = some ⟨oc17, od17, .func (PySem.W.fnOf "_law_lowest" "_law_lowest" (defArgs s__law_lowest) (defBody s__law_lowest) (defScope s__law_lowest) .none kV17 dc17 pm17 an17 cd17 ct17), sl17⟩) (c17 : PySem.W.codeIn K cd17 "_law_lowest" = true) (k17 : PySem.W.keepIn K (.ref f17) = true)
    (a18 : PySem.W.nsIn K mainGlobals "_law_plus" = some (some (.ref f18)))
    (l18 : K.lookup f18 = some ⟨oc18, od18, .func (PySem.W.fnOf "_law_plus" "_law_plus" (defArgs s__law_plus) (defBody s__law_plus) (defScope s__law_plus) .none kV18 dc18 pm18 an18 cd18 ct18), sl18⟩) (c18 : PySem.W.codeIn K cd18 "_law_plus" = true) (k18 : PySem.W.keepIn K (.ref f18) = true)
    (a19 : PySem.W.nsIn K mainGlobals "_law_minus" = some (some (.ref f19)))
    (l19 : K.lookup f19 = some ⟨oc19, od19, .func (PySem.W.fnOf "_law_minus" "_law_minus" (defArgs s__law_minus) (defBody s__law_minus) (defScope s__law_minus) .none kV19 dc19 pm19 an19 cd19 ct19), sl19⟩) (c19 : PySem.W.codeIn K cd19 "_law_minus" = true) (k19 : PySem.W.keepIn K (.ref f19) = true)
    (a20 : PySem.W.nsIn K mainGlobals "_law_times" = some (some (.ref f20)))
    (l20 : K.lookup f20 = some ⟨oc20, od20, .func (PySem.W.fnOf "_law_times" "_law_times" (defArgs s__law_times) (defBody s__law_times) (defScope s__law_times) .none kV20 dc20 pm20 an20 cd20 ct20), sl20⟩) (c20 : PySem.W.codeIn K cd20 "_law_times" = true) (k20 : PySem.W.keepIn K (.ref f20) = true)
    (a21 : PySem.W.nsIn K mainGlobals "_law_common" = some (some (.ref f21)))
    (l21 : K.lookup f21 = some ⟨oc21, od21, .func (PySem.W.fnOf "_law_common" "_law_common" (defArgs s__law_common) (defBody s__law_common) (defScope s__law_common) .none kV21 dc21 pm21 an21 cd21 ct21), sl21⟩) (c21 : PySem.W.codeIn K cd21 "_law_common" = true) (k21 : PySem.W.keepIn K (.ref f21) = true)
    (a22 : PySem.W.nsIn K mainGlobals "_law_spot" = some (some (.ref f22)))
    (l22 : K.lookup f22 = some ⟨oc22, od22, .func (PySem.W.fnOf "_law_spot" "_law_spot" (defArgs s__law_spot) (defBody s__law_spot) (defScope s__law_spot) .none kV22 dc22 pm22 an22 cd22 ct22), sl22⟩) (c22 : PySem.W.codeIn K cd22 "_law_spot" = true) (k22 : PySem.W.keepIn K (.ref f22) = true)
    (a23 : PySem.W.nsIn K mainGlobals "_law_direction" = some (some (.ref f23)))
    (l23 : K.lookup f23 = some ⟨oc23, od23, .func (PySem.W.fnOf "_law_direction" "_law_direction" (defArgs s__law_direction) (defBody s__law_direction) (defScope s__law_direction) .none kV23 dc23 pm23 an23 cd23 ct23), sl23⟩) (c23 : PySem.W.codeIn K cd23 "_law_direction" = true) (k23 : PySem.W.keepIn K (.ref f23) = true)
    (a24 : PySem.W.nsIn K mainGlobals "_law_product" = some (some (.ref f24)))
    (l24 : K.lookup f24 = some ⟨oc24, od24, .func (PySem.W.fnOf "_law_product" "_law_product" (defArgs s__law_product) (defBody s__law_product) (defScope s__law_product) .none kV24 dc24 pm24 an24 cd24 ct24), sl24⟩) (c24 : PySem.W.codeIn K cd24 "_law_product" = true) (k24 : PySem.W.keepIn K (.ref f24) = true)
    (a25 : PySem.W.nsIn K mainGlobals "_law_fits" = some (some (.ref f25)))
    (l25 : K.lookup f25 = some ⟨oc25, od25, .func (PySem.W.fnOf "_law_fits" "_law_fits" (defArgs s__law_fits) (defBody s__law_fits) (defScope s__law_fits) .none kV25 dc25 pm25 an25 cd25 ct25), sl25⟩) (c25 : PySem.W.codeIn K cd25 "_law_fits" = true) (k25 : PySem.W.keepIn K (.ref f25) = true)
    (a26 : PySem.W.nsIn K mainGlobals "_law_sights" = some (some (.ref f26)))
    (l26 : K.lookup f26 = some ⟨oc26, od26, .func (PySem.W.fnOf "_law_sights" "_law_sights" (defArgs s__law_sights) (defBody s__law_sights) (defScope s__law_sights) .none kV26 dc26 pm26 an26 cd26 ct26), sl26⟩) (c26 : PySem.W.codeIn K cd26 "_law_sights" = true) (k26 : PySem.W.keepIn K (.ref f26) = true)
    (a27 : PySem.W.nsIn K mainGlobals "_law_from" = some (some (.ref f27)))
    (l27 : K.lookup f27 = some ⟨oc27, od27, .func (PySem.W.fnOf "_law_from" "_law_from" (defArgs s__law_from) (defBody s__law_from) (defScope s__law_from) .none kV27 dc27 pm27 an27 cd27 ct27), sl27⟩) (c27 : PySem.W.codeIn K cd27 "_law_from" = true) (k27 : PySem.W.keepIn K (.ref f27) = true)
    (a28 : PySem.W.nsIn K mainGlobals "law" = some (some (.ref f28)))
    (l28 : K.lookup f28 = some ⟨oc28, od28, .func (PySem.W.fnOf "law" "law" (defArgs s_law) (defBody s_law) (defScope s_law) .none kV28 dc28 pm28 an28 cd28 ct28), sl28⟩) (c28 : PySem.W.codeIn K cd28 "law" = true) (k28 : PySem.W.keepIn K (.ref f28) = true)
    (z_abs : PySem.W.nsIn K mainGlobals "abs" = some none)
    (z_all : PySem.W.nsIn K mainGlobals "all" = some none)
    (z_bool : PySem.W.nsIn K mainGlobals "bool" = some none)
    (z_int : PySem.W.nsIn K mainGlobals "int" = some none)
    (z_isinstance : PySem.W.nsIn K mainGlobals "isinstance" = some none)
    (z_len : PySem.W.nsIn K mainGlobals "len" = some none)
    (z_list : PySem.W.nsIn K mainGlobals "list" = some none)
    (z_max : PySem.W.nsIn K mainGlobals "max" = some none)
    (z_min : PySem.W.nsIn K mainGlobals "min" = some none)
    (z_range : PySem.W.nsIn K mainGlobals "range" = some none)
    (z_reversed : PySem.W.nsIn K mainGlobals "reversed" = some none)
    (z_str : PySem.W.nsIn K mainGlobals "str" = some none)
    (z_tuple : PySem.W.nsIn K mainGlobals "tuple" = some none)
    (y_gcd : PySem.W.nsIn K mainGlobals "gcd" = some (some (.builtin "math.gcd")))
    {t_MOST_SPOT : Tok} (c_MOST_SPOT : PySem.W.nsIn K mainGlobals "MOST_SPOT" = some (some (.int 100 t_MOST_SPOT)))
    {t_MOST_STEP : Tok} (c_MOST_STEP : PySem.W.nsIn K mainGlobals "MOST_STEP" = some (some (.int 20 t_MOST_STEP)))
    {u_NOUGHT : Value} (c_NOUGHT : PySem.W.nsIn K mainGlobals "NOUGHT" = some (some u_NOUGHT)) (d_NOUGHT : readK K 8 u_NOUGHT = some (.tuple [.int 0, .int 1]))
    : LamX.LawAtS l w K CX0 14 63 "script" mg fl h := by
  have e := hfl.symm.trans (PySem.W.mg_of X G a28)
  cases e
  let fa : Nat → Addr := fun n => [0, 0, f0, 0, f1, f2, f3, f4, 0, 0, 0, 0, f5, f6, f7, f8, f9, 0, f10, f11, 0, f12, f13, 0, f14, f15, f16, f17, f18, f19, f20, 0, 0, 0, f21, f22, f23, f24, f25, f26, f27, fl].getD n 0
  have F0 := fun_mk (st := s_is_number) l0 c0 k0
  have F1 := fun_mk (st := s_lowest) l1 c1 k1
  have F2 := fun_mk (st := s_minus) l2 c2 k2
  have F3 := fun_mk (st := s_times) l3 c3 k3
  have F4 := fun_mk (st := s_less) l4 c4 k4
  have F5 := fun_mk (st := s_is_spot) l5 c5 k5
  have F6 := fun_mk (st := s_is_direction) l6 c6 k6
  have F7 := fun_mk (st := s_is_sight) l7 c7 k7
  have F8 := fun_mk (st := s_right_hand) l8 c8 k8
  have F9 := fun_mk (st := s_fits_sight) l9 c9 k9
  have F10 := fun_mk (st := s_are_along) l10 c10 k10
  have F11 := fun_mk (st := s_crossing_of) l11 c11 k11
  have F12 := fun_mk (st := s_is_run) l12 c12 k12
  have F13 := fun_mk (st := s_run_fix) l13 c13 k13
  have F14 := fun_mk (st := s__law_draws) l14 c14 k14
  have F15 := fun_mk (st := s__law_take) l15 c15 k15
  have F16 := fun_mk (st := s__law_same) l16 c16 k16
  have F17 := fun_mk (st := s__law_lowest) l17 c17 k17
  have F18 := fun_mk (st := s__law_plus) l18 c18 k18
  have F19 := fun_mk (st := s__law_minus) l19 c19 k19
  have F20 := fun_mk (st := s__law_times) l20 c20 k20
  have F21 := fun_mk (st := s__law_common) l21 c21 k21
  have F22 := fun_mk (st := s__law_spot) l22 c22 k22
  have F23 := fun_mk (st := s__law_direction) l23 c23 k23
  have F24 := fun_mk (st := s__law_product) l24 c24 k24
  have F25 := fun_mk (st := s__law_fits) l25 c25 k25
  have F26 := fun_mk (st := s__law_sights) l26 c26 k26
  have F27 := fun_mk (st := s__law_from) l27 c27 k27
  have F28 := fun_mk (st := s_law) l28 c28 k28
  let fd : Nat → FuncData := fun n => [PySem.W.fnOf "is_number" "is_number" (defArgs s_is_number) (defBody s_is_number) (defScope s_is_number) .none kV0 dc0 pm0 an0 cd0 ct0, PySem.W.fnOf "is_number" "is_number" (defArgs s_is_number) (defBody s_is_number) (defScope s_is_number) .none kV0 dc0 pm0 an0 cd0 ct0, PySem.W.fnOf "is_number" "is_number" (defArgs s_is_number) (defBody s_is_number) (defScope s_is_number) .none kV0 dc0 pm0 an0 cd0 ct0, PySem.W.fnOf "is_number" "is_number" (defArgs s_is_number) (defBody s_is_number) (defScope s_is_number) .none kV0 dc0 pm0 an0 cd0 ct0, PySem.W.fnOf "lowest" "lowest" (defArgs s_lowest) (defBody s_lowest) (defScope s_lowest) .none kV1 dc1 pm1 an1 cd1 ct1, PySem.W.fnOf "minus" "minus" (defArgs s_minus) (defBody s_minus) (defScope s_minus) .none kV2 dc2 pm2 an2 cd2 ct2, PySem.W.fnOf "times" "times" (defArgs s_times) (defBody s_times) (defScope s_times) .none kV3 dc3 pm3 an3 cd3 ct3, PySem.W.fnOf "less" "less" (defArgs s_less) (defBody s_less) (defScope s_less) .none kV4 dc4 pm4 an4 cd4 ct4, PySem.W.fnOf "is_number" "is_number" (defArgs s_is_number) (defBody s_is_number) (defScope s_is_number) .none kV0 dc0 pm0 an0 cd0 ct0, PySem.W.fnOf "is_number" "is_number" (defArgs s_is_number) (defBody s_is_number) (defScope s_is_number) .none kV0 dc0 pm0 an0 cd0 ct0, PySem.W.fnOf "is_number" "is_number" (defArgs s_is_number) (defBody s_is_number) (defScope s_is_number) .none kV0 dc0 pm0 an0 cd0 ct0, PySem.W.fnOf "is_number" "is_number" (defArgs s_is_number) (defBody s_is_number) (defScope s_is_number) .none kV0 dc0 pm0 an0 cd0 ct0, PySem.W.fnOf "is_spot" "is_spot" (defArgs s_is_spot) (defBody s_is_spot) (defScope s_is_spot) .none kV5 dc5 pm5 an5 (.ref cc5) ct5, PySem.W.fnOf "is_direction" "is_direction" (defArgs s_is_direction) (defBody s_is_direction) (defScope s_is_direction) .none kV6 dc6 pm6 an6 (.ref cc6) ct6, PySem.W.fnOf "is_sight" "is_sight" (defArgs s_is_sight) (defBody s_is_sight) (defScope s_is_sight) .none kV7 dc7 pm7 an7 cd7 ct7, PySem.W.fnOf "right_hand" "right_hand" (defArgs s_right_hand) (defBody s_right_hand) (defScope s_right_hand) .none kV8 dc8 pm8 an8 cd8 ct8, PySem.W.fnOf "fits_sight" "fits_sight" (defArgs s_fits_sight) (defBody s_fits_sight) (defScope s_fits_sight) .none kV9 dc9 pm9 an9 cd9 ct9, PySem.W.fnOf "is_number" "is_number" (defArgs s_is_number) (defBody s_is_number) (defScope s_is_number) .none kV0 dc0 pm0 an0 cd0 ct0, PySem.W.fnOf "are_along" "are_along" (defArgs s_are_along) (defBody s_are_along) (defScope s_are_along) .none kV10 dc10 pm10 an10 cd10 ct10, PySem.W.fnOf "crossing_of" "crossing_of" (defArgs s_crossing_of) (defBody s_crossing_of) (defScope s_crossing_of) .none kV11 dc11 pm11 an11 (.ref cc11) ct11, PySem.W.fnOf "is_number" "is_number" (defArgs s_is_number) (defBody s_is_number) (defScope s_is_number) .none kV0 dc0 pm0 an0 cd0 ct0, PySem.W.fnOf "is_run" "is_run" (defArgs s_is_run) (defBody s_is_run) (defScope s_is_run) .none kV12 dc12 pm12 an12 cd12 ct12, PySem.W.fnOf "run_fix" "run_fix" (defArgs s_run_fix) (defBody s_run_fix) (defScope s_run_fix) .none kV13 dc13 pm13 an13 cd13 ct13, PySem.W.fnOf "is_number" "is_number" (defArgs s_is_number) (defBody s_is_number) (defScope s_is_number) .none kV0 dc0 pm0 an0 cd0 ct0, PySem.W.fnOf "_law_draws" "_law_draws" (defArgs s__law_draws) (defBody s__law_draws) (defScope s__law_draws) .none kV14 dc14 pm14 an14 cd14 ct14, PySem.W.fnOf "_law_take" "_law_take" (defArgs s__law_take) (defBody s__law_take) (defScope s__law_take) .none kV15 dc15 pm15 an15 cd15 ct15, PySem.W.fnOf "_law_same" "_law_same" (defArgs s__law_same) (defBody s__law_same) (defScope s__law_same) .none kV16 dc16 pm16 an16 cd16 ct16, PySem.W.fnOf "_law_lowest" "_law_lowest" (defArgs s__law_lowest) (defBody s__law_lowest) (defScope s__law_lowest) .none kV17 dc17 pm17 an17 cd17 ct17, PySem.W.fnOf "_law_plus" "_law_plus" (defArgs s__law_plus) (defBody s__law_plus) (defScope s__law_plus) .none kV18 dc18 pm18 an18 cd18 ct18, PySem.W.fnOf "_law_minus" "_law_minus" (defArgs s__law_minus) (defBody s__law_minus) (defScope s__law_minus) .none kV19 dc19 pm19 an19 cd19 ct19, PySem.W.fnOf "_law_times" "_law_times" (defArgs s__law_times) (defBody s__law_times) (defScope s__law_times) .none kV20 dc20 pm20 an20 cd20 ct20, PySem.W.fnOf "is_number" "is_number" (defArgs s_is_number) (defBody s_is_number) (defScope s_is_number) .none kV0 dc0 pm0 an0 cd0 ct0, PySem.W.fnOf "is_number" "is_number" (defArgs s_is_number) (defBody s_is_number) (defScope s_is_number) .none kV0 dc0 pm0 an0 cd0 ct0, PySem.W.fnOf "is_number" "is_number" (defArgs s_is_number) (defBody s_is_number) (defScope s_is_number) .none kV0 dc0 pm0 an0 cd0 ct0, PySem.W.fnOf "_law_common" "_law_common" (defArgs s__law_common) (defBody s__law_common) (defScope s__law_common) .none kV21 dc21 pm21 an21 cd21 ct21, PySem.W.fnOf "_law_spot" "_law_spot" (defArgs s__law_spot) (defBody s__law_spot) (defScope s__law_spot) .none kV22 dc22 pm22 an22 cd22 ct22, PySem.W.fnOf "_law_direction" "_law_direction" (defArgs s__law_direction) (defBody s__law_direction) (defScope s__law_direction) .none kV23 dc23 pm23 an23 cd23 ct23, PySem.W.fnOf "_law_product" "_law_product" (defArgs s__law_product) (defBody s__law_product) (defScope s__law_product) .none kV24 dc24 pm24 an24 cd24 ct24, PySem.W.fnOf "_law_fits" "_law_fits" (defArgs s__law_fits) (defBody s__law_fits) (defScope s__law_fits) .none kV25 dc25 pm25 an25 cd25 ct25, PySem.W.fnOf "_law_sights" "_law_sights" (defArgs s__law_sights) (defBody s__law_sights) (defScope s__law_sights) .none kV26 dc26 pm26 an26 cd26 ct26, PySem.W.fnOf "_law_from" "_law_from" (defArgs s__law_from) (defBody s__law_from) (defScope s__law_from) .none kV27 dc27 pm27 an27 cd27 ct27, PySem.W.fnOf "law" "law" (defArgs s_law) (defBody s_law) (defScope s_law) .none kV28 dc28 pm28 an28 cd28 ct28].getD n (PySem.W.fnOf "is_number" "is_number" (defArgs s_is_number) (defBody s_is_number) (defScope s_is_number) .none kV0 dc0 pm0 an0 cd0 ct0)
  let ca : Nat → Addr := fun n => [0, 0, 0, 0, 0, 0, 0, 0, 0, 0, 0, 0, cc5, cc6, 0, 0, 0, 0, 0, cc11, 0, 0, 0, 0, 0, 0, 0, 0, 0, 0, 0, 0, 0, 0, 0, 0, 0, 0, 0, 0, 0, 0].getD n 0
  let pa : Nat → Addr := fun n => [0, 0, 0, 0, 0, 0, 0, 0, 0, 0, 0, 0, pp5, pp6, 0, 0, 0, 0, 0, pp11, 0, 0, 0, 0, 0, 0, 0, 0, 0, 0, 0, 0, 0, 0, 0, 0, 0, 0, 0, 0, 0, 0].getD n 0
  refine ⟨PySem.W.fnOf "law" "law" (defArgs s_law) (defBody s_law) (defScope s_law) .none kV28 dc28 pm28 an28 cd28 ct28, [(cc5, pp5), (cc6, pp6), (cc11, pp11)], sp0 K [pp5, pp6, pp11] 1 f_law, ?_, ?_, ?_, fun s v => .of_eq rfl, fun H a ns hl _ hT hS => law_sp (Lw.holds ns hl) hS (fun P hP => by
    obtain ⟨p, hp, e⟩ := List.mem_map.mp (show P ∈ ([(cc5, pp5), (cc6, pp6), (cc11, pp11)] : List (Addr × Addr)).map (·.2) from hP)
    rw [← e]
    exact hT p hp), fun base _ _ TB => ?_⟩
  · exact List.forall_mem_cons.mpr ⟨own "is_spot" f5 r5 (PySem.W.mg_of X G a5) cc5 pp5 _ _ _ _ _ _ l5 rfl rfl v5 p5, List.forall_mem_cons.mpr ⟨own "is_direction" f6 r6 (PySem.W.mg_of X G a6) cc6 pp6 _ _ _ _ _ _ l6 rfl rfl v6 p6, List.forall_mem_cons.mpr ⟨own "crossing_of" f11 r11 (PySem.W.mg_of X G a11) cc11 pp11 _ _ _ _ _ _ l11 rfl rfl v11 p11, fun _ z => absurd z (by simp)⟩⟩⟩
  · exact List.forall_mem_cons.mpr ⟨n5, List.forall_mem_cons.mpr ⟨n6, List.forall_mem_cons.mpr ⟨n11, fun _ z => absurd z (by simp)⟩⟩⟩
  · exact List.forall_mem_cons.mpr ⟨PySem.W.codeHd_of_K X h5, List.forall_mem_cons.mpr ⟨PySem.W.codeHd_of_K X h6, List.forall_mem_cons.mpr ⟨PySem.W.codeHd_of_K X h11, fun _ z => absurd z (by simp)⟩⟩⟩
  have T : Tx K mg base [pp5, pp6, pp11] fa fd ca pa :=
    ⟨F0,
      F0.binds (ps := ["value", "least", "most"]) fun _ _ _ _ _ _ us hl => match us, hl with | [_, _, _], _ => rfl,
      PySem.W.mg_of X G a0,
      F1,
      F1.binds (ps := ["part", "whole"]) fun _ _ _ _ _ _ us hl => match us, hl with | [_, _], _ => rfl,
      PySem.W.mg_of X G a1,
      F2,
      F2.binds (ps := ["one", "other"]) fun _ _ _ _ _ _ us hl => match us, hl with | [_, _], _ => rfl,
      PySem.W.mg_of X G a2,
      F3,
      F3.binds (ps := ["one", "other"]) fun _ _ _ _ _ _ us hl => match us, hl with | [_, _], _ => rfl,
      PySem.W.mg_of X G a3,
      F4,
      F4.binds (ps := ["one", "other"]) fun _ _ _ _ _ _ us hl => match us, hl with | [_, _], _ => rfl,
      PySem.W.mg_of X G a4,
      F5,
      F5.binds (ps := ["value"]) fun _ _ _ _ _ _ us hl => match us, hl with | [_], _ => rfl,
      PySem.W.mg_of X G a5,
      (let t := TB (cc5, pp5) (by simp); ⟨t.code, t.bm, t.gP⟩),
      (by simp [pa]),
      rfl,
      F6,
      F6.binds (ps := ["value"]) fun _ _ _ _ _ _ us hl => match us, hl with | [_], _ => rfl,
      PySem.W.mg_of X G a6,
      (let t := TB (cc6, pp6) (by simp); ⟨t.code, t.bm, t.gP⟩),
      (by simp [pa]),
      rfl,
      F7,
      F7.binds (ps := ["value"]) fun _ _ _ _ _ _ us hl => match us, hl with | [_], _ => rfl,
      PySem.W.mg_of X G a7,
      F8,
      F8.binds (ps := ["one", "other"]) fun _ _ _ _ _ _ us hl => match us, hl with | [_, _], _ => rfl,
      PySem.W.mg_of X G a8,
      F9,
      F9.binds (ps := ["place", "sight"]) fun _ _ _ _ _ _ us hl => match us, hl with | [_, _], _ => rfl,
      PySem.W.mg_of X G a9,
      F10,
      F10.binds (ps := ["one", "other"]) fun _ _ _ _ _ _ us hl => match us, hl with | [_, _], _ => rfl,
      PySem.W.mg_of X G a10,
      F11,
      F11.binds (ps := ["one", "other"]) fun _ _ _ _ _ _ us hl => match us, hl with | [_, _], _ => rfl,
      PySem.W.mg_of X G a11,
      (let t := TB (cc11, pp11) (by simp); ⟨t.code, t.bm, t.gP⟩),
      (by simp [pa]),
      rfl,
      F12,
      F12.binds (ps := ["value"]) fun _ _ _ _ _ _ us hl => match us, hl with | [_], _ => rfl,
      PySem.W.mg_of X G a12,
      F13,
      F13.binds (ps := ["run"]) fun _ _ _ _ _ _ us hl => match us, hl with | [_], _ => rfl,
      PySem.W.mg_of X G a13,
      F14,
      F14.binds (ps := ["script"]) fun _ _ _ _ _ _ us hl => match us, hl with | [_], _ => rfl,
      PySem.W.mg_of X G a14,
      F15,
      F15.binds (ps := ["draws", "bound"]) fun _ _ _ _ _ _ us hl => match us, hl with | [_, _], _ => rfl,
      PySem.W.mg_of X G a15,
      F16,
      F16.binds (ps := ["actual", "due"]) fun _ _ _ _ _ _ us hl => match us, hl with | [_, _], _ => rfl,
      PySem.W.mg_of X G a16,
      F17,
      F17.binds (ps := ["part", "whole"]) fun _ _ _ _ _ _ us hl => match us, hl with | [_, _], _ => rfl,
      PySem.W.mg_of X G a17,
      F18,
      F18.binds (ps := ["one", "other"]) fun _ _ _ _ _ _ us hl => match us, hl with | [_, _], _ => rfl,
      PySem.W.mg_of X G a18,
      F19,
      F19.binds (ps := ["one", "other"]) fun _ _ _ _ _ _ us hl => match us, hl with | [_, _], _ => rfl,
      PySem.W.mg_of X G a19,
      F20,
      F20.binds (ps := ["one", "other"]) fun _ _ _ _ _ _ us hl => match us, hl with | [_, _], _ => rfl,
      PySem.W.mg_of X G a20,
      F21,
      F21.binds (ps := ["one", "other"]) fun _ _ _ _ _ _ us hl => match us, hl with | [_, _], _ => rfl,
      PySem.W.mg_of X G a21,
      F22,
      F22.binds (ps := ["draws", "wide"]) fun _ _ _ _ _ _ us hl => match us, hl with | [_, _], _ => rfl,
      PySem.W.mg_of X G a22,
      F23,
      F23.binds (ps := ["draws", "wide"]) fun _ _ _ _ _ _ us hl => match us, hl with | [_, _], _ => rfl,
      PySem.W.mg_of X G a23,
      F24,
      F24.binds (ps := ["one", "other"]) fun _ _ _ _ _ _ us hl => match us, hl with | [_, _], _ => rfl,
      PySem.W.mg_of X G a24,
      F25,
      F25.binds (ps := ["place", "sight"]) fun _ _ _ _ _ _ us hl => match us, hl with | [_, _], _ => rfl,
      PySem.W.mg_of X G a25,
      F26,
      F26.binds (ps := ["draws", "most", "wide"]) fun _ _ _ _ _ _ us hl => match us, hl with | [_, _, _], _ => rfl,
      PySem.W.mg_of X G a26,
      F27,
      F27.binds (ps := ["draws", "spot"]) fun _ _ _ _ _ _ us hl => match us, hl with | [_, _], _ => rfl,
      PySem.W.mg_of X G a27,
      F28,
      F28.binds (ps := ["script"]) fun _ _ _ _ _ _ us hl => match us, hl with | [_], _ => rfl,
      PySem.W.mg_of X G a28,
      PySem.W.mg_none_of X G z_abs,
      PySem.W.mg_none_of X G z_all,
      PySem.W.mg_none_of X G z_bool,
      PySem.W.mg_none_of X G z_int,
      PySem.W.mg_none_of X G z_isinstance,
      PySem.W.mg_none_of X G z_len,
      PySem.W.mg_none_of X G z_list,
      PySem.W.mg_none_of X G z_max,
      PySem.W.mg_none_of X G z_min,
      PySem.W.mg_none_of X G z_range,
      PySem.W.mg_none_of X G z_reversed,
      PySem.W.mg_none_of X G z_str,
      PySem.W.mg_none_of X G z_tuple,
      PySem.W.mg_of X G y_gcd,
      ⟨_, PySem.W.mg_of X G c_MOST_SPOT⟩,
      ⟨_, PySem.W.mg_of X G c_MOST_STEP⟩,
      ⟨_, 8, PySem.W.mg_of X G c_NOUGHT, d_NOUGHT⟩⟩
  exact ok_law (fa := fa) (fd := fd) (ca := ca) (pa := pa) T
end Lw
open PySem PySem.W PyProof.Rows
set_option maxHeartbeats 0 in
theorem PySem.Challenge.cw_coastlit_k22_whole_fixes_on_the_run_holds : PySem.Challenge.rw_coastlit_k22_whole_fixes_on_the_run.Holds := by
  w_on; o_law; k_head; (case hw => w_witness2)
  k_fill
  refine Cf.walk_owns (l := PySem.Challenge.rw_coastlit_k22_whole_fixes_on_the_run) (n := 63) (k := 14) (x := "script") (CX := fun _ => L2.CX0) rfl (by decide) rfl ⟨rfl, by decide, by decide⟩ (fun w h Y => PySem.W.kIn_of Y) ?F (fun _ _ _ _ _ h => h)
  case F =>
    intro w mg fa h KX G hmg own
    refine' Lw.all_mk KX G hmg own ?a0 ?l0 ?c0 ?k0 ?a1 ?l1 ?c1 ?k1 ?a2 ?l2 ?c2 ?k2 ?a3 ?l3 ?c3 ?k3 ?a4 ?l4 ?c4 ?k4 ?a5 ?l5 ?c5 ?k5 ?v5 ?p5 ?h5 ?n5 ?r5 ?a6 ?l6 ?c6 ?k6 ?v6 ?p6 ?h6 ?n6 ?r6 ?a7 ?l7 ?c7 ?k7 ?a8 ?l8 ?c8 ?k8 ?a9 ?l9 ?c9 ?k9 ?a10 ?l10 ?c10 ?k10 ?a11 ?l11 ?c11 ?k11 ?v11 ?p11 ?h11 ?n11 ?r11 ?a12 ?l12 ?c12 ?k12 ?a13 ?l13 ?c13 ?k13 ?a14 ?l14 ?c14 ?k14 ?a15 ?l15 ?c15 ?k15 ?a16 ?l16 ?c16 ?k16 ?a17 ?l17 ?c17 ?k17 ?a18 ?l18 ?c18 ?k18 ?a19 ?l19 ?c19 ?k19 ?a20 ?l20 ?c20 ?k20 ?a21 ?l21 ?c21 ?k21 ?a22 ?l22 ?c22 ?k22 ?a23 ?l23 ?c23 ?k23 ?a24 ?l24 ?c24 ?k24 ?a25 ?l25 ?c25 ?k25 ?a26 ?l26 ?c26 ?k26 ?a27 ?l27 ?c27 ?k27 ?a28 ?l28 ?c28 ?k28 ?z_abs ?z_all ?z_bool ?z_int ?z_isinstance ?z_len ?z_list ?z_max ?z_min ?z_range ?z_reversed ?z_str ?z_tuple ?y_gcd ?c_MOST_SPOT ?c_MOST_STEP ?c_NOUGHT ?d_NOUGHT
    (case a0 => k_is)
    (case l0 => k_is)
    (case c0 => k_is)
    (case k0 => k_is)
    (case a1 => k_is)
    (case l1 => k_is)
    (case c1 => k_is)
    (case k1 => k_is)
    (case a2 => k_is)
    (case l2 => k_is)
    (case c2 => k_is)
    (case k2 => k_is)
    (case a3 => k_is)
    (case l3 => k_is)
    (case c3 => k_is)
    (case k3 => k_is)
    (case a4 => k_is)
    (case l4 => k_is)
    (case c4 => k_is)
    (case k4 => k_is)
    (case a5 => k_is)
    (case l5 => k_is)
    (case c5 => k_is)
    (case k5 => k_is)
    (case v5 => k_is)
    (case p5 => rfl)
    (case h5 => kernel_rfl)
    (case n5 => kernel_rfl)
    (case r5 => first | rfl | decide +kernel)
    (case a6 => k_is)
    (case l6 => k_is)
    (case c6 => k_is)
    (case k6 => k_is)
    (case v6 => k_is)
    (case p6 => rfl)
    (case h6 => kernel_rfl)
    (case n6 => kernel_rfl)
    (case r6 => first | rfl | decide +kernel)
    (case a7 => k_is)
    (case l7 => k_is)
    (case c7 => k_is)
    (case k7 => k_is)
    (case a8 => k_is)
    (case l8 => k_is)
    (case c8 => k_is)
    (case k8 => k_is)
    (case a9 => k_is)
    (case l9 => k_is)
    (case c9 => k_is)
    (case k9 => k_is)
    (case a10 => k_is)
    (case l10 => k_is)
    (case c10 => k_is)
    (case k10 => k_is)
    (case a11 => k_is)
    (case l11 => k_is)
    (case c11 => k_is)
    (case k11 => k_is)
    (case v11 => k_is)
    (case p11 => rfl)
    (case h11 => kernel_rfl)
    (case n11 => kernel_rfl)
    (case r11 => first | rfl | decide +kernel)
    (case a12 => k_is)
    (case l12 => k_is)
    (case c12 => k_is)
    (case k12 => k_is)
    (case a13 => k_is)
    (case l13 => k_is)
    (case c13 => k_is)
    (case k13 => k_is)
    (case a14 => k_is)
    (case l14 => k_is)
    (case c14 => k_is)
    (case k14 => k_is)
    (case a15 => k_is)
    (case l15 => k_is)
    (case c15 => k_is)
    (case k15 => k_is)
    (case a16 => k_is)
    (case l16 => k_is)
    (case c16 => k_is)
    (case k16 => k_is)
    (case a17 => k_is)
    (case l17 => k_is)
    (case c17 => k_is)
    (case k17 => k_is)
    (case a18 => k_is)
    (case l18 => k_is)
    (case c18 => k_is)
    (case k18 => k_is)
    (case a19 => k_is)
    (case l19 => k_is)
    (case c19 => k_is)
    (case k19 => k_is)
    (case a20 => k_is)
    (case l20 => k_is)
    (case c20 => k_is)
    (case k20 => k_is)
    (case a21 => k_is)
    (case l21 => k_is)
    (case c21 => k_is)
    (case k21 => k_is)
    (case a22 => k_is)
    (case l22 => k_is)
    (case c22 => k_is)
    (case k22 => k_is)
    (case a23 => k_is)
    (case l23 => k_is)
    (case c23 => k_is)
    (case k23 => k_is)
    (case a24 => k_is)
    (case l24 => k_is)
    (case c24 => k_is)
    (case k24 => k_is)
    (case a25 => k_is)
    (case l25 => k_is)
    (case c25 => k_is)
    (case k25 => k_is)
    (case a26 => k_is)
    (case l26 => k_is)
    (case c26 => k_is)
    (case k26 => k_is)
    (case a27 => k_is)
    (case l27 => k_is)
    (case c27 => k_is)
    (case k27 => k_is)
    (case a28 => k_is)
    (case l28 => k_is)
    (case c28 => k_is)
    (case k28 => k_is)
    (case z_abs => k_is)
    (case z_all => k_is)
    (case z_bool => k_is)
    (case z_int => k_is)
    (case z_isinstance => k_is)
    (case z_len => k_is)
    (case z_list => k_is)
    (case z_max => k_is)
    (case z_min => k_is)
    (case z_range => k_is)
    (case z_reversed => k_is)
    (case z_str => k_is)
    (case z_tuple => k_is)
    (case y_gcd => k_is)
    (case c_MOST_SPOT => k_is)
    (case c_MOST_STEP => k_is)
    (case c_NOUGHT => k_is)
    (case d_NOUGHT => kernel_rfl)
